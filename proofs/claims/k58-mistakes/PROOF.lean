import PyProof.Rows.All
import Wide.All
import OpenK.AllK
import Wide.FinOn
import HandS.ForMost
import KE.SortData
import HandS.Conv
import HandS.RevRange
import HandS.Rev
import HandS.Deep
import HandS.Style
import HandS.Flow
import HandS.IsInst
import HandS.ForExc
import HandS.ExcCtx
import HandS.HotCalls
import HandS.TryOnly
import HandS.RaiseMore
import HandS.ExcIs
import HandS.Defaults
import HandS.Words
import HandS.Codes
import HandS.Head0
import HandS.Head1
import HandS.Head2
import HandS.HeadEnd
import HandS.HeadHook1
import HandS.HeadHook2
import PySem.Challenge.RW_heraldboughs_k58_whole_mistakes_that_sho
set_option Elab.async false
set_option maxRecDepth 100000
set_option maxHeartbeats 4000000
set_option linter.all false
/-! EngA: data that stands frozen, things that are owned, and what a frame holds. -/
namespace L2.Eng
open PySem

abbrev D := PyData

mutual
inductive Rq (H : Hp) : V → D → Prop
  | non : Rq H .non .none
  | bl (b : Bool) : Rq H (.bl b) (.bool b)
  | int (i : Int) : Rq H (.int i) (.int i)
  | str (x : Str) : Rq H (.str x) (.str x)
  | lst {a : Addr} {xs : List V} {ds : List D} : Rd H a (.lst xs) → RqAll H xs ds → Rq H (.ref a) (.list ds)
  | tup {a : Addr} {xs : List V} {ds : List D} : Rd H a (.tup xs) → RqAll H xs ds → Rq H (.ref a) (.tuple ds)
inductive RqAll (H : Hp) : List V → List D → Prop
  | nil : RqAll H [] []
  | cons {v : V} {vs : List V} {d : D} {ds : List D} : Rq H v d → RqAll H vs ds → RqAll H (v :: vs) (d :: ds)
end

theorem Rd.mono {H H' : Hp} (s : Same H H') {a : Addr} {u : HO} (h : Rd H a u) : Rd H' a u := by
  rcases h with h | ⟨o, h⟩
  · exact .inl (s _ _ h)
  · exact .inr ⟨o, s _ _ h⟩
mutual
theorem Rq.mono {H H' : Hp} (s : Same H H') : ∀ {v : V} {d : D}, Rq H v d → Rq H' v d
  | _, _, .non => .non
  | _, _, .bl b => .bl b
  | _, _, .int i => .int i
  | _, _, .str x => .str x
  | _, _, .lst r h => .lst (Rd.mono s r) (RqAll.mono s h)
  | _, _, .tup r h => .tup (Rd.mono s r) (RqAll.mono s h)
theorem RqAll.mono {H H' : Hp} (s : Same H H') : ∀ {vs : List V} {ds : List D}, RqAll H vs ds → RqAll H' vs ds
  | _, _, .nil => .nil
  | _, _, .cons a b => .cons (Rq.mono s a) (RqAll.mono s b)
end
theorem RqAll.length {H : Hp} : ∀ {vs : List V} {ds : List D}, RqAll H vs ds → vs.length = ds.length
  | _, _, .nil => rfl
  | _, _, .cons _ b => congrArg (· + 1) b.length
theorem RqAll.append {H : Hp} : ∀ {vs ws : List V} {ds es : List D}, RqAll H vs ds → RqAll H ws es → RqAll H (vs ++ ws) (ds ++ es)
  | _, _, _, _, .nil, h => h
  | _, _, _, _, .cons a b, h => .cons a (b.append h)
theorem RqAll.get {H : Hp} : ∀ {vs : List V} {ds : List D}, RqAll H vs ds → ∀ {i : Nat} {d : D}, ds[i]? = some d → ∃ v, vs[i]? = some v ∧ Rq H v d
  | _, _, .nil, i, d, e => by simp at e
  | _, _, .cons a b, 0, d, e => by simp at e; subst e; exact ⟨_, rfl, a⟩
  | _, _, .cons a b, i + 1, d, e => by
    obtain ⟨v, h1, h2⟩ := b.get (i := i) (d := d) (by simpa using e)
    exact ⟨v, by simpa using h1, h2⟩
theorem RqAll.getV {H : Hp} : ∀ {vs : List V} {ds : List D}, RqAll H vs ds → ∀ {i : Nat} {v : V}, vs[i]? = some v → ∃ d, ds[i]? = some d ∧ Rq H v d
  | _, _, .nil, i, d, e => by simp at e
  | _, _, .cons a b, 0, d, e => by simp at e; subst e; exact ⟨_, rfl, a⟩
  | _, _, .cons a b, i + 1, d, e => by
    obtain ⟨v, h1, h2⟩ := b.getV (i := i) (v := d) (by simpa using e)
    exact ⟨v, by simpa using h1, h2⟩
theorem RqAll.take {H : Hp} : ∀ {vs : List V} {ds : List D} (n : Nat), RqAll H vs ds → RqAll H (vs.take n) (ds.take n)
  | _, _, 0, _ => .nil
  | _, _, _ + 1, .nil => .nil
  | _, _, n + 1, .cons r t => .cons r (RqAll.take n t)
theorem RqAll.drop {H : Hp} : ∀ {vs : List V} {ds : List D} (n : Nat), RqAll H vs ds → RqAll H (vs.drop n) (ds.drop n)
  | _, _, 0, r => r
  | _, _, _ + 1, .nil => .nil
  | _, _, n + 1, .cons _ t => RqAll.drop n t
theorem RqAll.set {H : Hp} {v : V} {d : D} (r : Rq H v d) : ∀ {vs : List V} {ds : List D} (i : Nat), RqAll H vs ds → RqAll H (vs.set i v) (ds.set i d)
  | _, _, _, .nil => .nil
  | _, _, 0, .cons _ t => .cons r t
  | _, _, i + 1, .cons q t => .cons q (RqAll.set r i t)
theorem RqAll.eraseIdx {H : Hp} : ∀ {vs : List V} {ds : List D} (i : Nat), RqAll H vs ds → RqAll H (vs.eraseIdx i) (ds.eraseIdx i)
  | _, _, _, .nil => .nil
  | _, _, 0, .cons _ t => t
  | _, _, i + 1, .cons q t => .cons q (RqAll.eraseIdx i t)
theorem RqAll.reverse {H : Hp} : ∀ {vs : List V} {ds : List D}, RqAll H vs ds → RqAll H vs.reverse ds.reverse
  | _, _, .nil => .nil
  | _, _, .cons r t => by
    rw [List.reverse_cons, List.reverse_cons]
    exact t.reverse.append (.cons r .nil)

abbrev RqKv (H : Hp) : List (Key × V) → List (Key × D) → Prop := Paired fun (p : Key × V) (q : Key × D) => p.1 = q.1 ∧ Rq H p.2 q.2
theorem RqKv.mono {H H' : Hp} (s : Same H H') : ∀ {vs : List (Key × V)} {ds : List (Key × D)}, RqKv H vs ds → RqKv H' vs ds
  | _, _, .nil => .nil
  | _, _, .cons a b => .cons ⟨a.1, a.2.mono s⟩ (RqKv.mono s b)

/-! ### what a slot holds -/
/-- fz: frozen data; ol: a list that this slot alone has, of frozen data; od: such a dict -/
inductive T where
  | fz (d : D)
  | ol (ds : List D)
  | od (kvs : List (Key × D))

def T.view : T → Option D
  | .fz d => some d
  | .ol ds => some (.list ds)
  | .od _ => none

inductive HoldT (G H : Hp) : V → T → List Addr → Prop
  | fz {v : V} {d : D} : Rq G v d → HoldT G H v (.fz d) []
  | ol {a : Addr} {vs : List V} {ds : List D} : G a = none → H a = some (.lst vs) → RqAll G vs ds → HoldT G H (.ref a) (.ol ds) [a]
  | od {a : Addr} {vs : List (Key × V)} {ds : List (Key × D)} : G a = none → H a = some (.dK vs) → RqKv G vs ds → HoldT G H (.ref a) (.od ds) [a]

inductive HoldL (G H : Hp) : List (V × T) → List Addr → Prop
  | nil : HoldL G H [] []
  | cons {v : V} {t : T} {f : List Addr} {r : List (V × T)} {fr : List Addr} : HoldT G H v t f → HoldL G H r fr → HoldL G H ((v, t) :: r) (f ++ fr)

section
variable {G G' H H' : Hp}
theorem HoldT.move {v : V} {t : T} {f : List Addr} (h : HoldT G H v t f) (sG : Same G G') (hG : ∀ a ∈ f, G' a = none) (hH : ∀ a ∈ f, H' a = H a) : HoldT G' H' v t f := by
  cases h with
  | fz r => exact .fz (r.mono sG)
  | ol g e r => exact .ol (hG _ (by simp)) ((hH _ (by simp)).trans e) (r.mono sG)
  | od g e r => exact .od (hG _ (by simp)) ((hH _ (by simp)).trans e) (r.mono sG)
theorem HoldT.fp {v : V} {t : T} {f : List Addr} (h : HoldT G H v t f) : ∀ a ∈ f, G a = none ∧ ∃ o, H a = some o := by
  cases h with
  | fz r => intro a h; cases h
  | ol g e r => intro a h; simp at h; subst h; exact ⟨g, _, e⟩
  | od g e r => intro a h; simp at h; subst h; exact ⟨g, _, e⟩
theorem HoldL.move {L : List (V × T)} {f : List Addr} (h : HoldL G H L f) (sG : Same G G') : (∀ a ∈ f, G' a = none) → (∀ a ∈ f, H' a = H a) → HoldL G' H' L f := by
  induction h with
  | nil => intro _ _; exact .nil
  | cons h _ ih =>
    intro hG hH
    exact .cons (h.move sG (fun a ha => hG a (List.mem_append_left _ ha)) fun a ha => hH a (List.mem_append_left _ ha)) (ih (fun a ha => hG a (List.mem_append_right _ ha)) fun a ha => hH a (List.mem_append_right _ ha))
theorem HoldL.fp {L : List (V × T)} {f : List Addr} (h : HoldL G H L f) : ∀ a ∈ f, G a = none ∧ ∃ o, H a = some o := by
  induction h with
  | nil => intro a h; cases h
  | cons h _ ih =>
    intro a ha
    rcases List.mem_append.mp ha with ha | ha
    · exact h.fp a ha
    · exact ih a ha
theorem HoldL.perm {L L' : List (V × T)} (p : L.Perm L') : ∀ {f : List Addr}, HoldL G H L f → ∃ f', HoldL G H L' f' ∧ f.Perm f' := by
  induction p with
  | nil => intro f h; exact ⟨f, h, .refl _⟩
  | cons x _ ih =>
    intro f h
    cases h with
    | cons h1 h2 =>
      obtain ⟨f', h3, q⟩ := ih h2
      exact ⟨_, .cons h1 h3, List.Perm.append_left _ q⟩
  | swap x y l =>
    intro f h
    cases h with
    | cons h1 h2 =>
      cases h2 with
      | cons h2 h3 =>
        refine ⟨_, .cons h2 (.cons h1 h3), ?_⟩
        rw [← List.append_assoc, ← List.append_assoc]
        exact List.Perm.append_right _ List.perm_append_comm
  | trans _ _ i1 i2 =>
    intro f h
    obtain ⟨f1, h1, p1⟩ := i1 h
    obtain ⟨f2, h2, p2⟩ := i2 h1
    exact ⟨f2, h2, p1.trans p2⟩

/-- the things of L are held, apart from one another -/
def Held (G H : Hp) (L : List (V × T)) : Prop := ∃ f, HoldL G H L f ∧ f.Nodup
theorem Held.perm {L L' : List (V × T)} (h : Held G H L) (p : L.Perm L') : Held G H L' := by
  obtain ⟨f, h, n⟩ := h
  obtain ⟨f', h', q⟩ := h.perm p
  exact ⟨f', h', q.nodup_iff.mp n⟩
theorem Held.tail {x : V × T} {L : List (V × T)} (h : Held G H (x :: L)) : Held G H L := by
  obtain ⟨f, h, n⟩ := h
  cases h with
  | cons h1 h2 => exact ⟨_, h2, (List.nodup_append.mp n).2.1⟩
theorem Held.right {L L' : List (V × T)} (h : Held G H (L ++ L')) : Held G H L' := by
  induction L with
  | nil => exact h
  | cons x r ih => exact ih h.tail
theorem Held.left {L L' : List (V × T)} (h : Held G H (L ++ L')) : Held G H L := (h.perm List.perm_append_comm).right
theorem Held.mid {A B : List (V × T)} {x : V × T} (h : Held G H (A ++ x :: B)) : Held G H (x :: (A ++ B)) := h.perm List.perm_middle
theorem Held.unmid {A B : List (V × T)} {x : V × T} (h : Held G H (x :: (A ++ B))) : Held G H (A ++ x :: B) := h.perm List.perm_middle.symm
theorem Held.fz {v : V} {d : D} {L : List (V × T)} (h : Held G H ((v, .fz d) :: L)) : Rq G v d := by
  obtain ⟨f, h, n⟩ := h
  cases h with
  | cons h1 h2 =>
    cases h1 with
    | fz r => exact r
theorem Held.addFz {v : V} {d : D} {L : List (V × T)} (h : Held G H L) (r : Rq G v d) : Held G H ((v, .fz d) :: L) := by
  obtain ⟨f, h, n⟩ := h
  exact ⟨[] ++ f, .cons (.fz r) h, n⟩
theorem Held.addAll {L : List (V × T)} (h : Held G H L) : ∀ {vs : List V} {ds : List D}, RqAll G vs ds → Held G H (vs.zip (ds.map T.fz) ++ L)
  | _, _, .nil => h
  | _, _, .cons a b => (Held.addAll h b).addFz a
/-- the frozen part grows by things that are not held -/
theorem Held.move {L : List (V × T)} (h : Held G H L) (sG : Same G G') (hG : ∀ a, G a = none → H a ≠ none → G' a = none) (hH : ∀ a, G a = none → H a ≠ none → H' a = H a) : Held G' H' L := by
  obtain ⟨f, h, n⟩ := h
  refine ⟨f, h.move sG (fun a ha => ?_) (fun a ha => ?_), n⟩
  · obtain ⟨g, o, e⟩ := h.fp a ha
    exact hG a g (by rw [e]; simp)
  · obtain ⟨g, o, e⟩ := h.fp a ha
    exact hH a g (by rw [e]; simp)
theorem Same.updNew {p : Addr} {o : HO} (s : Same G H) (n : H p = none) : Same G (upd H p o) := fun b u e => by
  rw [upd_ne (ne_of_none (s _ _ e) n)]
  exact s _ _ e
theorem Same.updFree {p : Addr} {o : HO} (s : Same G H) (n : G p = none) : Same G (upd H p o) := fun b u e => by
  rw [upd_ne (ne_of_none e n)]
  exact s _ _ e
theorem Same.updOut {p : Addr} {o : HO} (n : G p = none) : Same G (upd G p o) := fun b u e => by
  rw [upd_ne (ne_of_none e n)]
  exact e
theorem Same.updIn {p : Addr} {o : HO} (s : Same G H) (e : H p = some o) : Same (upd G p o) H := fun b u h => by
  unfold upd at h
  split at h
  · next q => subst q; cases h; exact e
  · exact s _ _ h
theorem Same.updBoth {p : Addr} {o : HO} (s : Same G H) : Same (upd G p o) (upd H p o) := fun b u h => by
  unfold upd at h ⊢
  split at h
  · next q => rw [if_pos q]; exact h
  · next q => rw [if_neg q]; exact s _ _ h
/-- a new list, owned -/
theorem Held.newList {p : Addr} {vs : List V} {ds : List D} {L : List (V × T)} (h : Held G H L) (s : Same G H) (n : H p = none) (r : RqAll G vs ds) : Held G (upd H p (.lst vs)) ((.ref p, .ol ds) :: L) := by
  obtain ⟨f, h, nd⟩ := h
  have gp : G p = none := s.free n
  have np : p ∉ f := fun hp => by
    obtain ⟨_, o, e⟩ := h.fp p hp
    rw [n] at e; cases e
  exact ⟨[p] ++ f, .cons (.ol gp upd_same r) (h.move (Same.refl _) (fun a ha => (h.fp a ha).1) fun a ha => upd_ne fun q => np (q ▸ ha)), List.nodup_cons.mpr ⟨np, nd⟩⟩
theorem Held.newDict {p : Addr} {vs : List (Key × V)} {ds : List (Key × D)} {L : List (V × T)} (h : Held G H L) (s : Same G H) (n : H p = none) (r : RqKv G vs ds) : Held G (upd H p (.dK vs)) ((.ref p, .od ds) :: L) := by
  obtain ⟨f, h, nd⟩ := h
  have gp : G p = none := s.free n
  have np : p ∉ f := fun hp => by
    obtain ⟨_, o, e⟩ := h.fp p hp
    rw [n] at e; cases e
  exact ⟨[p] ++ f, .cons (.od gp upd_same r) (h.move (Same.refl _) (fun a ha => (h.fp a ha).1) fun a ha => upd_ne fun q => np (q ▸ ha)), List.nodup_cons.mpr ⟨np, nd⟩⟩
/-- a new object that nobody holds -/
theorem Held.newAny {p : Addr} {o : HO} {L : List (V × T)} (h : Held G H L) (n : H p = none) : Held G (upd H p o) L :=
  h.move (Same.refl _) (fun _ g _ => g) fun a _ e => upd_ne fun q => e (by rw [q]; exact n)
/-- .. and is frozen -/
theorem Held.newFz {p : Addr} {o : HO} {L : List (V × T)} (h : Held G H L) (s : Same G H) (n : H p = none) : Held (upd G p o) (upd H p o) L :=
  h.move (Same.updOut (s.free n)) (fun a g e => by rw [upd_ne fun q => e (by rw [q]; exact n)]; exact g) fun a _ e => upd_ne fun q => e (by rw [q]; exact n)
/-- the owned list that is held first -/
theorem Held.ol {v : V} {ds : List D} {L : List (V × T)} (h : Held G H ((v, .ol ds) :: L)) : ∃ a vs, v = .ref a ∧ G a = none ∧ H a = some (.lst vs) ∧ RqAll G vs ds ∧
    (∀ vs' ds', RqAll G vs' ds' → Held G (upd H a (.lst vs')) ((.ref a, .ol ds') :: L)) ∧ Held (upd G a (.lst vs)) H L := by
  obtain ⟨f, h, nd⟩ := h
  cases h with
  | cons h1 h2 =>
    cases h1 with
    | @ol a vs _ g e r =>
      have np : ∀ b, b ∈ _ → b ≠ a := fun b hb q => by
        subst q
        exact (List.nodup_append.mp nd).2.2 _ (List.mem_singleton.mpr rfl) _ hb rfl
      refine ⟨a, vs, rfl, g, e, r, fun vs' ds' r' => ⟨[a] ++ _, .cons (.ol g upd_same r') (h2.move (Same.refl _) (fun b hb => (h2.fp b hb).1) fun b hb => upd_ne (np b hb)), nd⟩, ?_⟩
      exact ⟨_, h2.move (Same.updOut g) (fun b hb => by rw [upd_ne (np b hb)]; exact (h2.fp b hb).1) fun b hb => rfl, (List.nodup_append.mp nd).2.1⟩
theorem Held.od {v : V} {ds : List (Key × D)} {L : List (V × T)} (h : Held G H ((v, .od ds) :: L)) : ∃ a vs, v = .ref a ∧ G a = none ∧ H a = some (.dK vs) ∧ RqKv G vs ds ∧
    (∀ vs' ds', RqKv G vs' ds' → Held G (upd H a (.dK vs')) ((.ref a, .od ds') :: L)) := by
  obtain ⟨f, h, nd⟩ := h
  cases h with
  | cons h1 h2 =>
    cases h1 with
    | @od a vs _ g e r =>
      have np : ∀ b, b ∈ _ → b ≠ a := fun b hb q => by
        subst q
        exact (List.nodup_append.mp nd).2.2 _ (List.mem_singleton.mpr rfl) _ hb rfl
      exact ⟨a, vs, rfl, g, e, r, fun vs' ds' r' => ⟨[a] ++ _, .cons (.od g upd_same r') (h2.move (Same.refl _) (fun b hb => (h2.fp b hb).1) fun b hb => upd_ne (np b hb)), nd⟩⟩
/-- what can be seen of the first thing that is held -/
theorem Held.view {v : V} {t : T} {d : D} {L : List (V × T)} (h : Held G H ((v, t) :: L)) (s : Same G H) (e : t.view = some d) : Rq H v d := by
  cases t with
  | fz d' => cases e; exact h.fz.mono s
  | ol ds =>
    cases e
    obtain ⟨a, vs, rfl, _, e, r, _⟩ := h.ol
    exact .lst (.inl e) (r.mono s)
  | od _ => cases e
/-- it is frozen from now on -/
theorem Held.freeze {v : V} {t : T} {d : D} {L : List (V × T)} (h : Held G H ((v, t) :: L)) (s : Same G H) (e : t.view = some d) : ∃ G', Same G G' ∧ Same G' H ∧ Held G' H ((v, .fz d) :: L) := by
  cases t with
  | fz d' => cases e; exact ⟨G, Same.refl _, s, h⟩
  | ol ds =>
    cases e
    obtain ⟨a, vs, rfl, g, e, r, _, k⟩ := h.ol
    exact ⟨upd G a (.lst vs), Same.updOut g, Same.updIn s e, k.addFz (.lst (.inl upd_same) (r.mono (Same.updOut g)))⟩
  | od _ => cases e
end

/-! ### slots -/
abbrev Rho := List (Option T)
def its : St → Rho → List (V × T)
  | some v :: σ, some t :: ρ => (v, t) :: its σ ρ
  | _ :: σ, _ :: ρ => its σ ρ
  | _, _ => []
def SlotsOk : St → Rho → Prop
  | [], [] => True
  | none :: σ, none :: ρ => SlotsOk σ ρ
  | some _ :: σ, none :: ρ => SlotsOk σ ρ
  | some _ :: σ, some _ :: ρ => SlotsOk σ ρ
  | _, _ => False
theorem SlotsOk.get : ∀ {σ : St} {ρ : Rho} {i : Nat} {t : T}, SlotsOk σ ρ → ρ[i]? = some (some t) → ∃ v, σ[i]? = some (some v) ∧
    (its σ ρ).Perm ((v, t) :: its σ (ρ.set i none)) ∧ SlotsOk σ (ρ.set i none)
  | [], [], i, t, _, h => by simp at h
  | none :: σ, none :: ρ, 0, t, _, h => by simp at h
  | some v :: σ, none :: ρ, 0, t, _, h => by simp at h
  | some v :: σ, some u :: ρ, 0, t, k, h => by
    simp at h; subst h
    exact ⟨v, rfl, .refl _, k⟩
  | none :: σ, none :: ρ, i + 1, t, k, h => by
    obtain ⟨v, a, b, c⟩ := SlotsOk.get (σ := σ) (ρ := ρ) (i := i) k (by simpa using h)
    exact ⟨v, by simpa using a, b, c⟩
  | some v :: σ, none :: ρ, i + 1, t, k, h => by
    obtain ⟨v, a, b, c⟩ := SlotsOk.get (σ := σ) (ρ := ρ) (i := i) k (by simpa using h)
    exact ⟨v, by simpa using a, b, c⟩
  | some w :: σ, some u :: ρ, i + 1, t, k, h => by
    obtain ⟨v, a, b, c⟩ := SlotsOk.get (σ := σ) (ρ := ρ) (i := i) k (by simpa using h)
    refine ⟨v, by simpa using a, ?_, c⟩
    exact (List.Perm.cons _ b).trans (List.Perm.swap _ _ _)
theorem SlotsOk.set : ∀ {σ : St} {ρ : Rho} {i : Nat} (v : V) (t : T), SlotsOk σ ρ → i < σ.length → SlotsOk (σ.set i (some v)) (ρ.set i (some t)) ∧
    (its (σ.set i (some v)) (ρ.set i (some t))).Perm ((v, t) :: its σ (ρ.set i none))
  | [], [], i, v, t, _, h => by simp at h
  | none :: σ, none :: ρ, 0, v, t, k, h => ⟨k, .refl _⟩
  | some _ :: σ, none :: ρ, 0, v, t, k, h => ⟨k, .refl _⟩
  | some _ :: σ, some u :: ρ, 0, v, t, k, h => ⟨k, .refl _⟩
  | none :: σ, none :: ρ, i + 1, v, t, k, h => SlotsOk.set (σ := σ) (ρ := ρ) (i := i) v t k (by simpa using h)
  | some _ :: σ, none :: ρ, i + 1, v, t, k, h => SlotsOk.set (σ := σ) (ρ := ρ) (i := i) v t k (by simpa using h)
  | some w :: σ, some u :: ρ, i + 1, v, t, k, h => by
    obtain ⟨a, b⟩ := SlotsOk.set (σ := σ) (ρ := ρ) (i := i) v t k (by simpa using h)
    exact ⟨a, (List.Perm.cons _ b).trans (List.Perm.swap _ _ _)⟩
/-- the thing at a slot is laid back there -/
theorem SlotsOk.put : ∀ {σ : St} {ρ : Rho} {i : Nat} {v : V} (t : T), SlotsOk σ ρ → σ[i]? = some (some v) → SlotsOk σ (ρ.set i (some t)) ∧
    (its σ (ρ.set i (some t))).Perm ((v, t) :: its σ (ρ.set i none))
  | [], [], i, v, t, _, h => by simp at h
  | none :: σ, none :: ρ, 0, v, t, k, h => by simp at h
  | some _ :: σ, none :: ρ, 0, v, t, k, h => by simp at h; subst h; exact ⟨k, .refl _⟩
  | some _ :: σ, some u :: ρ, 0, v, t, k, h => by simp at h; subst h; exact ⟨k, .refl _⟩
  | none :: σ, none :: ρ, i + 1, v, t, k, h => SlotsOk.put (σ := σ) (ρ := ρ) (i := i) t k (by simpa using h)
  | some _ :: σ, none :: ρ, i + 1, v, t, k, h => SlotsOk.put (σ := σ) (ρ := ρ) (i := i) t k (by simpa using h)
  | some w :: σ, some u :: ρ, i + 1, v, t, k, h => by
    obtain ⟨a, b⟩ := SlotsOk.put (σ := σ) (ρ := ρ) (i := i) t k (by simpa using h)
    exact ⟨a, (List.Perm.cons _ b).trans (List.Perm.swap _ _ _)⟩
theorem SlotsOk.length : ∀ {σ : St} {ρ : Rho}, SlotsOk σ ρ → σ.length = ρ.length
  | [], [], _ => rfl
  | none :: σ, none :: ρ, k => congrArg (· + 1) (SlotsOk.length (σ := σ) (ρ := ρ) k)
  | some _ :: σ, none :: ρ, k => congrArg (· + 1) (SlotsOk.length (σ := σ) (ρ := ρ) k)
  | some _ :: σ, some _ :: ρ, k => congrArg (· + 1) (SlotsOk.length (σ := σ) (ρ := ρ) k)

/-- the state: the frozen part G, the slots, what is held besides (τ) -/
structure Rel (G : Hp) (ρ : Rho) (τ : List (V × T)) (σ : St) (H : Hp) : Prop where
  same : Same G H
  slots : SlotsOk σ ρ
  held : Held G H (its σ ρ ++ τ)

section
variable {G G' H H' : Hp} {ρ : Rho} {τ : List (V × T)} {σ : St}
/-- the thing at slot i is taken out -/
theorem Rel.out (R : Rel G ρ τ σ H) {i : Nat} {t : T} (h : ρ[i]? = some (some t)) : ∃ v, σ[i]? = some (some v) ∧ Rel G (ρ.set i none) ((v, t) :: τ) σ H := by
  obtain ⟨v, a, b, c⟩ := R.slots.get h
  exact ⟨v, a, R.same, c, (R.held.perm (b.append_right _)).unmid⟩
/-- the thing is laid back at its slot -/
theorem Rel.back {i : Nat} {v : V} {t : T} (R : Rel G ρ ((v, t) :: τ) σ H) (h : σ[i]? = some (some v)) (n : ρ[i]? = some none) : Rel G (ρ.set i (some t)) τ σ H := by
  obtain ⟨a, b⟩ := SlotsOk.put t R.slots h
  refine ⟨R.same, a, Held.perm ?_ (b.append_right _).symm⟩
  have e : ρ.set i none = ρ := by
    apply List.ext_getElem?
    intro j
    by_cases q : i = j
    · subst q
      rw [n]
      have := (List.getElem?_eq_some_iff.mp n).1
      simp [this]
    · rw [List.getElem?_set_ne q]
  rw [e]
  exact R.held.mid
/-- a thing is stored at a slot -/
theorem Rel.store {i : Nat} {v : V} {t : T} (R : Rel G ρ ((v, t) :: τ) σ H) (h : i < σ.length) : Rel G (ρ.set i (some t)) τ (σ.set i (some v)) H := by
  obtain ⟨a, b⟩ := SlotsOk.set v t R.slots h
  refine ⟨R.same, a, Held.perm ?_ (b.append_right _).symm⟩
  have q : Held G H ((v, t) :: (its σ ρ ++ τ)) := R.held.mid
  show Held G H ((v, t) :: (its σ (ρ.set i none) ++ τ))
  cases e : ρ[i]? with
  | none =>
    have l : ρ.length ≤ i := List.getElem?_eq_none_iff.mp e
    rw [List.set_eq_of_length_le l]
    exact q
  | some o =>
    cases o with
    | none =>
      have e2 : ρ.set i none = ρ := by
        apply List.ext_getElem?
        intro j
        by_cases q : i = j
        · subst q
          rw [e]
          have := (List.getElem?_eq_some_iff.mp e).1
          simp [this]
        · rw [List.getElem?_set_ne q]
      rw [e2]
      exact q
    | some u =>
      obtain ⟨w, _, p, _⟩ := R.slots.get e
      have q2 : Held G H ((w, u) :: (v, t) :: (its σ (ρ.set i none) ++ τ)) := (q.perm (List.Perm.cons _ (p.append_right _))).perm (List.Perm.swap _ _ _)
      exact q2.tail
theorem Rel.len (R : Rel G ρ τ σ H) : σ.length = ρ.length := R.slots.length
end
end L2.Eng

/-! EngB: a small language of what the text does with data, and what it computes. -/
namespace L2.Eng
open PySem

structure Ex where
  c : Str
  fs : List (Str × D)

inductive R (α : Type) where
  | ok (a : α) (ρ : Rho)
  | exc (x : Ex) (ρ : Rho)
  | no
def R.bind {α β : Type} : R α → (α → Rho → R β) → R β
  | .ok a ρ, f => f a ρ
  | .exc x ρ, _ => .exc x ρ
  | .no, _ => .no
def R.map {α β : Type} (f : α → β) : R α → R β
  | .ok a ρ => .ok (f a) ρ
  | .exc x ρ => .exc x ρ
  | .no => .no
/-- a call's end: the value, the arguments as they stand behind it -/
inductive CR where
  | ok (t : T) (as : List T)
  | exc (x : Ex) (as : List T)
  | no
structure Fx where
  call : Str → List T → CR
  fuel : Nat
  sub : Str → Str → Option Bool
  hot : Str → Str → Option D

/-! ### operations on data -/
def truthD : D → Option Bool
  | .none => some false
  | .bool b => some b
  | .int i => some (i != 0)
  | .str s => if s.length ≤ sizeLine then some ((s.length : Int) != 0) else none
  | .list ds => some (!ds.isEmpty)
  | .tuple ds => some (!ds.isEmpty)
  | .dict _ => none
def scalD : D → D → Bool
  | .none, .none => true | .none, .int _ => true | .int _, .none => true | .none, .bool _ => true | .bool _, .none => true | .none, .str _ => true | .str _, .none => true
  | .int _, .int _ => true | .bool _, .bool _ => true | .str _, .str _ => true
  | .int _, .str _ => true | .str _, .int _ => true | .bool _, .str _ => true | .str _, .bool _ => true
  | _, _ => false
def eqD (d e : D) : Option Bool := if scalD d e || (SeqAt.shaped d && SeqAt.shaped e) then some (PyData.eqv d e) else none
def flatD : D → Bool
  | .none => true | .bool _ => true | .int _ => true | .str _ => true | _ => false
def inD (d : D) : D → Option Bool
  | .list ds => if SeqAt.shaped d && SeqAt.shaped (.list ds) then some (ds.any fun z => PyData.eqv z d) else none
  | .tuple ds => if flatD d && ds.all flatD then some (ds.any fun z => PyData.eqv z d) else none
  | .str j => match d with
    | .str i => some (!(Builtin.Str.occurrences j i 0 j.length 1).isEmpty)
    | _ => none
  | _ => none
def isNonD : D → Bool
  | .none => true
  | _ => false
def cmpD : CmpOp → D → D → Option Bool
  | .Eq, d, e => eqD d e
  | .NotEq, d, e => (eqD d e).map (!·)
  | .Lt, .int i, .int j => some (decide (i < j))
  | .LtE, .int i, .int j => some (decide (i ≤ j))
  | .Gt, .int i, .int j => some (decide (j < i))
  | .GtE, .int i, .int j => some (decide (j ≤ i))
  | .Lt, .str i, .str j => some (decide (i.cps.toList < j.cps.toList))
  | .Is, d, .none => some (isNonD d)
  | .IsNot, d, .none => some (!isNonD d)
  | .Is, .bool a, .bool b => some (decide (a = b))
  | .IsNot, .bool a, .bool b => some (!decide (a = b))
  | .In, d, e => inD d e
  | .NotIn, d, e => (inD d e).map (!·)
  | _, _, _ => none
def mulOk (i j : Int) : Bool := decide (-(2 ^ 64) < i ∧ i < 2 ^ 64) || decide (-(2 ^ 64) < j ∧ j < 2 ^ 64)
def binD : Operator → D → D → Option T
  | .Add, .int i, .int j => some (.fz (.int (i + j)))
  | .Sub, .int i, .int j => some (.fz (.int (i - j)))
  | .Mult, .int i, .int j => if mulOk i j then some (.fz (.int (i * j))) else none
  | .FloorDiv, .int i, .int j => if j ≠ 0 ∧ j.natAbs < 1073741824 then some (.fz (.int (i.fdiv j))) else none
  | .Mod, .int i, .int j => if j ≠ 0 then some (.fz (.int (i.fmod j))) else none
  | .Pow, .int i, .int j => if 0 ≤ j ∧ j ≤ 1000000 ∧ i.natAbs < 2 ^ 64 then some (.fz (.int (i ^ j.toNat))) else none
  | .Add, .str i, .str j => if i.length + j.length ≤ sizeLine then some (.fz (.str (i ++ j))) else none
  | .Add, .list ds, .list es => if ds.length + es.length ≤ sizeLine then some (.ol (ds ++ es)) else none
  | _, _, _ => none
def negD : D → Option D
  | .int i => some (.int (-i))
  | _ => none
def idxD : D → D → Option D
  | .list ds, .int i => atI ds i
  | .tuple ds, .int i => atI ds i
  | .str z, .int i => if z.length ≤ sizeLine then (atI z.cps.toList i).map fun c => .str ⟨#[c]⟩ else none
  | _, _ => none
def cutD (xs : List D) (lo hi : Option Int) : List D := (xs.drop (HT.sIx xs.length 0 lo)).take (HT.sIx xs.length xs.length hi - HT.sIx xs.length 0 lo)
def slcD : D → Option Int → Option Int → Option T
  | .list ds, lo, hi => some (.ol (cutD ds lo hi))
  | .str z, lo, hi => if z.length ≤ sizeLine then some (.fz (.str (cutS z lo hi))) else none
  | _, _, _ => none

inductive Bi where
  | len | abs | int | str | sum | list | sorted | max2 | min2 | maxL | minL
  deriving DecidableEq
def intsD : List D → Option (List Int)
  | [] => some []
  | .int i :: r => (intsD r).map (i :: ·)
  | _ :: _ => none
def sortD (ds : List D) : Option (List D) :=
  if ds.length ≤ sizeLine ∧ (ds.all fun d => ds.all fun e => PySem.W.alike d e) = true ∧ (ds.all fun d => decide (d.depth ≤ 64)) = true ∧
    ((ds.all fun d => match d with | .tuple (_ :: _) => true | _ => false) = true ∨ (ds.all fun d => match d with | .none => false | .tuple _ => false | _ => true) = true)
  then some (ds.mergeSort (PySem.W.dataLe false id)) else none
def maxI : Int → List Int → Int
  | m, [] => m
  | m, n :: r => maxI (if m < n then n else m) r
def minI : Int → List Int → Int
  | m, [] => m
  | m, n :: r => minI (if n < m then n else m) r
def rngD (i j : Int) : List D := (List.range (j - i).toNat).map fun k => .int (i + (k : Nat))
def biD : Bi → List D → Option T
  | .len, [.list ds] => some (.fz (.int ds.length))
  | .len, [.tuple ds] => some (.fz (.int ds.length))
  | .len, [.str s] => if s.length ≤ sizeLine then some (.fz (.int s.length)) else none
  | .abs, [.int i] => some (.fz (.int (if i < 0 then -i else i)))
  | .int, [.int i] => some (.fz (.int i))
  | .str, [.int i] => if i.natAbs.log2 < 1920 then some (.fz (.str (toString i))) else none
  | .sum, [.list ds] => (intsD ds).map fun ns => .fz (.int ns.sum)
  | .list, [.list ds] => some (.ol ds)
  | .list, [.tuple ds] => some (.ol ds)
  | .sorted, [.list ds] => (sortD ds).map .ol
  | .max2, [.int i, .int j] => some (.fz (.int (if j > i then j else i)))
  | .min2, [.int i, .int j] => some (.fz (.int (if j < i then j else i)))
  | .maxL, [.list ds] => (intsD ds).bind fun ns => match ns with
    | [] => none
    | n :: r => some (.fz (.int (maxI n r)))
  | .minL, [.list ds] => (intsD ds).bind fun ns => match ns with
    | [] => none
    | n :: r => some (.fz (.int (minI n r)))
  | _, _ => none
def rl1D : D → Option T
  | .int j => if -(2 ^ 62) ≤ j ∧ j ≤ 16777216 then some (.ol (rngD 0 j)) else none
  | _ => none
def rl2D : D → D → Option T
  | .int i, .int j => if -(2 ^ 62) ≤ i ∧ i < 2 ^ 62 ∧ -(2 ^ 62) ≤ j ∧ j < 2 ^ 62 ∧ (j - i).toNat ≤ 16777216 then some (.ol (rngD i j)) else none
  | _, _ => none
inductive Kd where
  | int | bool | str | list | tuple
  deriving DecidableEq
def isKd : Kd → D → Bool
  | .int, .int _ => true
  | .int, .bool _ => true
  | .bool, .bool _ => true
  | .str, .str _ => true
  | .list, .list _ => true
  | .tuple, .tuple _ => true
  | _, _ => false
inductive Me where
  | index | count | join | split
  deriving DecidableEq
def meTy : Me → D → Bool
  | .index, .list _ => true
  | _, _ => false
def isOl : Option T → Bool
  | some (.ol _) => true
  | _ => false
def idxOfD (d : D) (ds : List D) : Option Nat := ds.findIdx? fun y => PyData.eqv y d
def meD : Me → D → List D → Option T
  | .index, .list ds, [d] => if SeqAt.shaped d && SeqAt.shaped (.list ds) then (idxOfD d ds).map fun (j : Nat) => .fz (.int j) else none
  | _, _, _ => none
inductive Mu where
  | append | extend | pop | popAt | insert
  deriving DecidableEq
/-- the list behind it, the value -/
def muD : Mu → List D → List D → Option (List D × D)
  | .append, ds, [d] => if ds.length < sizeLine then some (ds ++ [d], .none) else none
  | .extend, ds, [.list es] => if ds.length + es.length ≤ sizeLine then some (ds ++ es, .none) else none
  | .pop, ds, [] => (ds[ds.length - 1]?).map fun d => (ds.dropLast, d)
  | .popAt, ds, [.int i] => if -(2 ^ 63) ≤ i ∧ i < 2 ^ 63 then (seqIndex? i ds.length).bind fun k => (ds[k]?).map fun d => (ds.eraseIdx k, d) else none
  | _, _, _ => none

/-! ### the language -/
inductive Tg where
  | one (i : Nat)
  | tup (is : List Nat)
mutual
inductive E where
  | nm (i : Nat) | mv (i : Nat)
  | int (i : Int) | str (x : Str) | bl (b : Bool) | non
  | glb (x : Str) (d : D)
  | bin (op : Operator) (a b : E)
  | neg (a : E)
  | cmp (op : CmpOp) (a b : E)
  | chn (o1 o2 : CmpOp) (a b c : E)
  | and_ (a b : E) | or_ (a b : E) | not_ (a : E)
  | ite (c a b : E)
  | lst (es : Es) | tup (es : Es)
  | idx (a i : E)
  | slc (a : E) (lo hi : OE)
  | call (f : Str) (es : Es) (ds : List D)
  | bi (f : Bi) (es : Es)
  | rl1 (a : E) | rl2 (a b : E)
  | isi (a : E) (ks : List Kd)
  | me (m : Me) (o : E) (es : Es)
  | mu (m : Mu) (i : Nat) (es : Es)
  | lc (tg : Tg) (own : List Nat) (it : It) (c : OE) (elt : E)
inductive Es where
  | nil | cons (e : E) (es : Es)
inductive OE where
  | none | some (e : E)
inductive It where
  | opd (e : E) | rng1 (a : E) | rng2 (a b : E) | revR1 (a : E) | revR2 (a b : E) | rev (e : E)
end
mutual
inductive S where
  | set (i : Nat) (e : E)
  | setF (i : Nat) (e : E)
  | setT (is : List Nat) (e : E)
  | par (i j : Nat) (a b : E)
  | sub (i : Nat) (k e : E)
  | expr (e : E)
  | ret (e : E) | retN
  | ifS (c : E) (a b : Ss)
  | whl (c : E) (b : Ss)
  | for_ (tg : Tg) (it : It) (b : Ss)
  | raise (c : Str) (e : E)
  | tryR (b : Ss) (hs : List (Str × D))
  | tryC (b : Ss) (h : Str) (i : Nat) (f : Str)
  | pass | brk | cont
inductive Ss where
  | nil | cons (s : S) (ss : Ss)
end

def Tg.is : Tg → List Nat
  | .one i => [i]
  | .tup is => is
mutual
/-- the slots that it stores to -/
def S.sets : S → List Nat
  | .set i _ => [i]
  | .setF i _ => [i]
  | .setT is _ => is
  | .par i j _ _ => [i, j]
  | .ifS _ a b => a.sets ++ b.sets
  | .whl _ b => b.sets
  | .for_ tg _ b => tg.is ++ b.sets
  | .tryR b _ => b.sets
  | .tryC b _ i _ => i :: b.sets
  | _ => []
def Ss.sets : Ss → List Nat
  | .nil => []
  | .cons s ss => s.sets ++ ss.sets
end
/-! ### what it computes -/
inductive Opd where
  | tmp (t : T)
  | sl (i : Nat)
def slotT (ρ : Rho) (i : Nat) : Option T := (ρ[i]?).join
def Opd.see (ρ : Rho) : Opd → Option D
  | .tmp t => t.view
  | .sl i => (slotT ρ i).bind T.view
def sees (ρ : Rho) : List Opd → Option (List D)
  | [] => some []
  | o :: r => (o.see ρ).bind fun d => (sees ρ r).map (d :: ·)
def R.of {α : Type} (o : Option α) (ρ : Rho) : R α := match o with
  | some a => .ok a ρ
  | none => .no
/-- slot i is frozen and read -/
def takeSlot (i : Nat) (ρ : Rho) : R T := match (slotT ρ i).bind T.view with
  | some d => .ok (.fz d) (ρ.set i (some (.fz d)))
  | none => .no
def moveSlot (i : Nat) (ρ : Rho) : R T := match slotT ρ i with
  | some t => .ok t (ρ.set i none)
  | none => .no
def frz (r : R T) : R D := r.bind fun t ρ => R.of t.view ρ
/-- arguments for a def: what is owned goes in, and comes back -/
def takeA : List Opd → Rho → Option (List T × Rho)
  | [], ρ => some ([], ρ)
  | .tmp t :: r, ρ => (takeA r ρ).map fun q => (t :: q.1, q.2)
  | .sl i :: r, ρ => match slotT ρ i with
    | some (.fz d) => (takeA r ρ).map fun q => (.fz d :: q.1, q.2)
    | some t => (takeA r (ρ.set i none)).map fun q => (t :: q.1, q.2)
    | none => none
def putA : List Opd → List T → List T → Rho → Rho
  | .sl i :: r, .fz _ :: ts, _ :: us, ρ => putA r ts us ρ
  | .sl i :: r, _ :: ts, u :: us, ρ => putA r ts us (ρ.set i (some u))
  | .tmp _ :: r, _ :: ts, _ :: us, ρ => putA r ts us ρ
  | _, _, _, ρ => ρ
def callF (Φ : Fx) (f : Str) (os : List Opd) (ds : List D) (ρ : Rho) : R T := match takeA os ρ with
  | some (ts, ρ') => match Φ.call f (ts ++ ds.map T.fz) with
    | .ok t us => .ok t (putA os ts us ρ')
    | .exc x us => .exc x (putA os ts us ρ')
    | .no => .no
  | none => .no
/-- where the items of a walk come from -/
inductive Src where
  | sl (k : Bool) (i n : Nat)
  | tmp (k : Bool) (ds : List D)
  | rng (lo c : Int) (n : Nat)
def Src.len : Src → Nat
  | .sl _ _ n => n
  | .tmp _ ds => ds.length
  | .rng _ _ n => n
def seqD : D → Option (Bool × List D)
  | .list ds => some (false, ds)
  | .tuple ds => some (true, ds)
  | _ => none
def seqK : Bool → D → Option (List D)
  | false, .list ds => some ds
  | true, .tuple ds => some ds
  | _, _ => none
def Src.item (j : Nat) (ρ : Rho) : Src → Option D
  | .sl k i n => (((slotT ρ i).bind T.view).bind (seqK k)).bind fun ds => if ds.length = n then ds[j]? else none
  | .tmp _ ds => ds[j]?
  | .rng lo c _ => some (.int (lo + j * c))
def opdSrc (x : Opd) (q : Bool × List D) : Src := match x with
  | .sl i => .sl q.1 i q.2.length
  | .tmp _ => .tmp q.1 q.2
def Src.free (l : List Nat) : Src → Bool
  | .sl _ i _ => !decide (i ∈ l)
  | _ => true
def Src.fin (ρ : Rho) : Src → Bool
  | .sl k i n => match ((slotT ρ i).bind T.view).bind (seqK k) with
    | some ds => decide (ds.length = n)
    | none => false
  | _ => true
def setOne (i : Nat) (d : D) (ρ : Rho) : Rho := ρ.set i (some (.fz d))
def setMany : List Nat → List D → Rho → Option Rho
  | [], [], ρ => some ρ
  | i :: is, d :: ds, ρ => setMany is ds (ρ.set i (some (.fz d)))
  | _, _, _ => none
def Tg.put (tg : Tg) (d : D) (ρ : Rho) : Option Rho := match tg with
  | .one i => some (ρ.set i (some (.fz d)))
  | .tup is => match d with
    | .tuple ds => setMany is ds ρ
    | .list ds => setMany is ds ρ
    | _ => none
def wipeR (ρ : Rho) : List Nat → Rho
  | [] => ρ
  | i :: is => (wipeR ρ is).set i none
/-- the slots of is as they stood in ρ0 -/
def backR (ρ0 ρ : Rho) : List Nat → Rho
  | [] => ρ
  | i :: is => backR ρ0 (ρ.set i (slotT ρ0 i)) is
def rngOk (i j : Int) : Bool := decide (-(2 ^ 62) ≤ i ∧ i < 2 ^ 62 ∧ -(2 ^ 62) ≤ j ∧ j < 2 ^ 62)

def lcRun (own : List Nat) (tg : Tg) (src : Src) (c : Rho → R Bool) (elt : Rho → R D) : Nat → Nat → List D → Rho → R (List D)
  | 0, _, acc, ρ => if src.fin ρ then .ok acc ρ else .no
  | n + 1, j, acc, ρ => match src.item j ρ with
    | none => .no
    | some d => match tg.put d ρ with
      | none => .no
      | some ρ1 => match c ρ1 with
        | .ok true ρ2 => match elt ρ2 with
          | .ok y ρ3 => if acc.length < sizeLine then lcRun own tg src c elt n (j + 1) (acc ++ [y]) (wipeR ρ3 own) else .no
          | _ => .no
        | .ok false ρ2 => lcRun own tg src c elt n (j + 1) acc (wipeR ρ2 own)
        | _ => .no

section
variable (Φ : Fx)
abbrev Two := (Rho → R Opd) × (Rho → R Bool)
/-- an expression's value, and its truth by its value -/
def dfl (o : Rho → R Opd) : Two := (o, fun ρ => (o ρ).bind fun x ρ1 => R.of ((x.see ρ1).bind truthD) ρ1)
/-- .. taken: what stands at a slot is frozen -/
def asT (e : E) (o : Rho → R Opd) (ρ : Rho) : R T := match e with
  | .nm i => takeSlot i ρ
  | .mv i => moveSlot i ρ
  | _ => (o ρ).bind fun x ρ1 => match x with
    | .tmp t => .ok t ρ1
    | .sl _ => .no
def asD (e : E) (o : Rho → R Opd) (ρ : Rho) : R D := frz (asT e o ρ)
def ofB (r : R Bool) : R Opd := r.map fun k => .tmp (.fz (.bool k))
def cmpB (op : CmpOp) (oa ob : Rho → R Opd) (ρ : Rho) : R Bool := (oa ρ).bind fun x ρ1 => (ob ρ1).bind fun y ρ2 => R.of ((x.see ρ2).bind fun d => (y.see ρ2).bind fun e => cmpD op d e) ρ2
def chnB (o1 o2 : CmpOp) (oa ob oc : Rho → R Opd) (ρ : Rho) : R Bool := (oa ρ).bind fun x ρ1 => (ob ρ1).bind fun y ρ2 =>
    match (x.see ρ2).bind fun d => (y.see ρ2).bind fun e => cmpD o1 d e with
    | none => .no
    | some false => .ok false ρ2
    | some true => (oc ρ2).bind fun z ρ3 => R.of ((y.see ρ3).bind fun e => (z.see ρ3).bind fun f => cmpD o2 e f) ρ3
def muFin (m : Mu) (i : Nat) (ds : List D) (ρ : Rho) : R Opd := match slotT ρ i with
  | some (.ol xs) => match muD m xs ds with
    | some (ys, d) => .ok (.tmp (.fz d)) (ρ.set i (some (.ol ys)))
    | none => .no
  | _ => .no
mutual
def ev2 : E → Two
  | .nm i => dfl fun ρ => match slotT ρ i with
    | some _ => .ok (.sl i) ρ
    | none => .no
  | .mv i => dfl fun ρ => .no
  | .int i => dfl fun ρ => .ok (.tmp (.fz (.int i))) ρ
  | .str x => dfl fun ρ => .ok (.tmp (.fz (.str x))) ρ
  | .bl b => dfl fun ρ => .ok (.tmp (.fz (.bool b))) ρ
  | .non => dfl fun ρ => .ok (.tmp (.fz .none)) ρ
  | .glb _ d => dfl fun ρ => .ok (.tmp (.fz d)) ρ
  | .bin op a b => dfl fun ρ => ((ev2 a).1 ρ).bind fun x ρ1 => ((ev2 b).1 ρ1).bind fun y ρ2 => R.of ((x.see ρ2).bind fun d => (y.see ρ2).bind fun e => (binD op d e).map Opd.tmp) ρ2
  | .neg a => dfl fun ρ => ((ev2 a).1 ρ).bind fun x ρ1 => R.of ((x.see ρ1).bind fun d => (negD d).map fun e => .tmp (.fz e)) ρ1
  | .cmp op a b => (fun ρ => ofB (cmpB op (ev2 a).1 (ev2 b).1 ρ), cmpB op (ev2 a).1 (ev2 b).1)
  | .chn o1 o2 a b c => (fun ρ => ofB (chnB o1 o2 (ev2 a).1 (ev2 b).1 (ev2 c).1 ρ), chnB o1 o2 (ev2 a).1 (ev2 b).1 (ev2 c).1)
  | .and_ a b => (fun ρ => (asT a (ev2 a).1 ρ).bind fun t ρ1 => match t.view.bind truthD with
    | none => .no
    | some false => .ok (.tmp t) ρ1
    | some true => (asT b (ev2 b).1 ρ1).map .tmp,
    fun ρ => ((ev2 a).2 ρ).bind fun k ρ1 => if k then (ev2 b).2 ρ1 else .ok false ρ1)
  | .or_ a b => (fun ρ => (asT a (ev2 a).1 ρ).bind fun t ρ1 => match t.view.bind truthD with
    | none => .no
    | some true => .ok (.tmp t) ρ1
    | some false => (asT b (ev2 b).1 ρ1).map .tmp,
    fun ρ => ((ev2 a).2 ρ).bind fun k ρ1 => if k then .ok true ρ1 else (ev2 b).2 ρ1)
  | .not_ a => (fun ρ => ((ev2 a).1 ρ).bind fun x ρ1 => R.of (((x.see ρ1).bind truthD).map fun k => .tmp (.fz (.bool (!k)))) ρ1,
    fun ρ => ((ev2 a).2 ρ).map (!·))
  | .ite c a b => dfl fun ρ => ((ev2 c).2 ρ).bind fun k ρ1 => if k then (asT a (ev2 a).1 ρ1).map .tmp else (asT b (ev2 b).1 ρ1).map .tmp
  | .lst es => dfl fun ρ => (evDs es ρ).bind fun ds ρ1 => if ds.length ≤ sizeLine then .ok (.tmp (.ol ds)) ρ1 else .no
  | .tup es => dfl fun ρ => (evDs es ρ).bind fun ds ρ1 => if ds.length ≤ sizeLine then .ok (.tmp (.fz (.tuple ds))) ρ1 else .no
  | .idx a i => dfl fun ρ => ((ev2 a).1 ρ).bind fun x ρ1 => ((ev2 i).1 ρ1).bind fun y ρ2 => R.of ((x.see ρ2).bind fun d => (y.see ρ2).bind fun e => (idxD d e).map fun f => .tmp (.fz f)) ρ2
  | .slc a lo hi => dfl fun ρ => ((ev2 a).1 ρ).bind fun x ρ1 => (evOI lo ρ1).bind fun l ρ2 => (evOI hi ρ2).bind fun h ρ3 => R.of ((x.see ρ3).bind fun d => (slcD d l h).map Opd.tmp) ρ3
  | .call f es ds => dfl fun ρ => (evOs es ρ).bind fun os ρ1 => (callF Φ f os ds ρ1).map .tmp
  | .bi f es => dfl fun ρ => (evOs es ρ).bind fun os ρ1 => R.of ((sees ρ1 os).bind fun ds => (biD f ds).map Opd.tmp) ρ1
  | .rl1 a => dfl fun ρ => ((ev2 a).1 ρ).bind fun x ρ1 => R.of ((x.see ρ1).bind fun d => (rl1D d).map Opd.tmp) ρ1
  | .rl2 a b => dfl fun ρ => ((ev2 a).1 ρ).bind fun x ρ1 => ((ev2 b).1 ρ1).bind fun y ρ2 => R.of ((x.see ρ2).bind fun d => (y.see ρ2).bind fun e => (rl2D d e).map Opd.tmp) ρ2
  | .isi a ks => dfl fun ρ => ((ev2 a).1 ρ).bind fun x ρ1 => R.of ((x.see ρ1).map fun d => .tmp (.fz (.bool (ks.any fun k => isKd k d)))) ρ1
  | .me m o es => dfl fun ρ => ((ev2 o).1 ρ).bind fun x ρ1 => if ((x.see ρ1).map (meTy m)).getD false then (evOs es ρ1).bind fun os ρ2 => R.of ((x.see ρ2).bind fun d => (sees ρ2 os).bind fun ds => (meD m d ds).map Opd.tmp) ρ2 else .no
  | .mu m i es => dfl fun ρ => if isOl (slotT ρ i) then (evDs es ρ).bind (muFin m i) else .no
  | .lc tg own it c elt => dfl fun ρ => (evI it ρ).bind fun src ρ1 =>
    (lcRun own tg src (evC c) (asD elt (ev2 elt).1) src.len 0 [] (wipeR ρ1 own)).bind fun ds ρ2 => .ok (.tmp (.ol ds)) (backR ρ1 ρ2 own)
def evDs : Es → Rho → R (List D)
  | .nil, ρ => .ok [] ρ
  | .cons e es, ρ => (asD e (ev2 e).1 ρ).bind fun d ρ1 => (evDs es ρ1).map (d :: ·)
def evOs : Es → Rho → R (List Opd)
  | .nil, ρ => .ok [] ρ
  | .cons e es, ρ => ((ev2 e).1 ρ).bind fun o ρ1 => (evOs es ρ1).map (o :: ·)
def evOI : OE → Rho → R (Option Int)
  | .none, ρ => .ok none ρ
  | .some e, ρ => ((ev2 e).1 ρ).bind fun x ρ1 => R.of ((x.see ρ1).bind fun d => match d with | .int i => some (some i) | _ => none) ρ1
def evC : OE → Rho → R Bool
  | .none, ρ => .ok true ρ
  | .some e, ρ => (ev2 e).2 ρ
def evI : It → Rho → R Src
  | .opd e, ρ => ((ev2 e).1 ρ).bind fun x ρ1 => R.of ((x.see ρ1).bind fun d => (seqD d).map (opdSrc x)) ρ1
  | .rng1 a, ρ => ((ev2 a).1 ρ).bind fun x ρ1 => R.of ((x.see ρ1).bind fun d => match d with | .int j => if rngOk 0 j then some (.rng 0 1 j.toNat) else none | _ => none) ρ1
  | .rng2 a b, ρ => ((ev2 a).1 ρ).bind fun x ρ1 => ((ev2 b).1 ρ1).bind fun y ρ2 => R.of ((x.see ρ2).bind fun d => (y.see ρ2).bind fun e => match d, e with | .int i, .int j => if rngOk i j then some (.rng i 1 (j - i).toNat) else none | _, _ => none) ρ2
  | .revR1 a, ρ => ((ev2 a).1 ρ).bind fun x ρ1 => R.of ((x.see ρ1).bind fun d => match d with | .int j => if rngOk 0 j then some (.rng ((j.toNat : Int) - 1) (-1) j.toNat) else none | _ => none) ρ1
  | .revR2 a b, ρ => .no
  | .rev e, ρ => .no
end
abbrev evO (e : E) (ρ : Rho) : R Opd := (ev2 Φ e).1 ρ
abbrev evB (e : E) (ρ : Rho) : R Bool := (ev2 Φ e).2 ρ
abbrev evT (e : E) (ρ : Rho) : R T := asT e (ev2 Φ e).1 ρ
abbrev evD (e : E) (ρ : Rho) : R D := asD e (ev2 Φ e).1 ρ

inductive Fl where
  | nx | rt (t : T) | bk | ct
def forRun (tg : Tg) (src : Src) (body : Rho → R Fl) : Nat → Nat → Rho → R Fl
  | 0, _, ρ => if src.fin ρ then .ok .nx ρ else .no
  | n + 1, j, ρ => match src.item j ρ with
    | none => .no
    | some d => match tg.put d ρ with
      | none => .no
      | some ρ1 => match body ρ1 with
        | .ok .nx ρ2 => forRun tg src body n (j + 1) ρ2
        | .ok .ct ρ2 => forRun tg src body n (j + 1) ρ2
        | .ok .bk ρ2 => .ok .nx ρ2
        | .ok (.rt t) ρ2 => .ok (.rt t) ρ2
        | .exc x ρ2 => .exc x ρ2
        | .no => .no
def whileRun (c : Rho → R Bool) (body : Rho → R Fl) : Nat → Rho → R Fl
  | 0, _ => .no
  | n + 1, ρ => match c ρ with
    | .ok true ρ1 => match body ρ1 with
      | .ok .nx ρ2 => whileRun c body n ρ2
      | .ok .ct ρ2 => whileRun c body n ρ2
      | .ok .bk ρ2 => .ok .nx ρ2
      | .ok (.rt t) ρ2 => .ok (.rt t) ρ2
      | .exc x ρ2 => .exc x ρ2
      | .no => .no
    | .ok false ρ1 => .ok .nx ρ1
    | .exc x ρ1 => .exc x ρ1
    | .no => .no
def catchR (sub : Str → Str → Option Bool) (x : Ex) (ρ : Rho) : List (Str × D) → R Fl
  | [] => .exc x ρ
  | (h, d) :: r => match sub x.c h with
    | none => .no
    | some true => .ok (.rt (.fz d)) ρ
    | some false => catchR sub x ρ r
def catchC (Φ : Fx) (h : Str) (i : Nat) (f : Str) : R Fl → R Fl
  | .exc x ρ => match Φ.sub x.c h with
    | none => .no
    | some false => .exc x ρ
    | some true => match Φ.hot f x.c, x.fs with
      | some d, [] => .ok (.rt (.fz d)) (ρ.set i none)
      | _, _ => .no
  | r => r
def subFin (i : Nat) (d : D) (k : Option D) (ρ : Rho) : R Fl := match slotT ρ i, k with
  | some (.ol xs), some (.int n) => match ixN xs.length n with
    | some j => .ok .nx (ρ.set i (some (.ol (xs.set j d))))
    | none => .no
  | _, _ => .no
def setFin (is : List Nat) (x : Option D) (ρ : Rho) : R Fl := match x with
  | some (.tuple ds) => match setMany is ds ρ with
    | some ρ2 => .ok .nx ρ2
    | none => .no
  | some (.list ds) => match setMany is ds ρ with
    | some ρ2 => .ok .nx ρ2
    | none => .no
  | _ => .no
def parFin (i j : Nat) (ds : List D) (ρ : Rho) : R Fl := match ds with
  | [d, e] => .ok .nx ((ρ.set i (some (.fz d))).set j (some (.fz e)))
  | _ => .no
mutual
def exS : S → Rho → R Fl
  | .set i e, ρ => (evT Φ e ρ).bind fun t ρ1 => .ok .nx (ρ1.set i (some t))
  | .setF i e, ρ => (evD Φ e ρ).bind fun d ρ1 => .ok .nx (ρ1.set i (some (.fz d)))
  | .setT is e, ρ => (evO Φ e ρ).bind fun x ρ1 => setFin is (x.see ρ1) ρ1
  | .par i j a b, ρ => (evDs Φ (.cons a (.cons b .nil)) ρ).bind (parFin i j)
  | .sub i k e, ρ => (evD Φ e ρ).bind fun d ρ1 => if isOl (slotT ρ1 i) then (evO Φ k ρ1).bind fun y ρ2 => subFin i d (y.see ρ2) ρ2 else .no
  | .expr e, ρ => (evO Φ e ρ).bind fun _ ρ1 => .ok .nx ρ1
  | .ret e, ρ => (evT Φ e ρ).map .rt
  | .retN, ρ => .ok (.rt (.fz .none)) ρ
  | .ifS c a b, ρ => (evB Φ c ρ).bind fun k ρ1 => if k then exSs a ρ1 else exSs b ρ1
  | .whl c b, ρ => whileRun (evB Φ c) (exSs b) Φ.fuel ρ
  | .for_ tg it b, ρ => (evI Φ it ρ).bind fun src ρ1 => if src.free (tg.is ++ b.sets) then forRun tg src (exSs b) src.len 0 ρ1 else .no
  | .raise c e, ρ => (evO Φ e ρ).bind fun _ ρ1 => .exc ⟨c, []⟩ ρ1
  | .tryR b hs, ρ => match exSs b ρ with
    | .exc x ρ1 => catchR Φ.sub x ρ1 hs
    | r => r
  | .tryC b h i f, ρ => catchC Φ h i f (exSs b ρ)
  | .pass, ρ => .ok .nx ρ
  | .brk, ρ => .ok .bk ρ
  | .cont, ρ => .ok .ct ρ
def exSs : Ss → Rho → R Fl
  | .nil, ρ => .ok .nx ρ
  | .cons s ss, ρ => (exS s ρ).bind fun f ρ1 => match f with
    | .nx => exSs ss ρ1
    | g => .ok g ρ1
end
end
end L2.Eng

/-! EngC: the operations' rules, over what is seen of things that are held. -/
namespace L2.Eng
open PySem PySem.Spec PyProof.Rows

/-- what is seen of a thing that is held -/
def Vw (G H : Hp) (v : V) (d : D) : Prop := Rq G v d ∨ ∃ a vs ds, v = .ref a ∧ d = .list ds ∧ H a = some (.lst vs) ∧ RqAll G vs ds
theorem Held.vw {G H : Hp} {v : V} {t : T} {d : D} {L : List (V × T)} (h : Held G H ((v, t) :: L)) (e : t.view = some d) : Vw G H v d := by
  cases t with
  | fz d' => cases e; exact .inl h.fz
  | ol ds =>
    cases e
    obtain ⟨a, vs, rfl, _, e, r, _⟩ := h.ol
    exact .inr ⟨a, vs, ds, rfl, rfl, e, r⟩
  | od _ => cases e
section
variable {G H : Hp} {v : V}
theorem Vw.rq {d : D} (s : Same G H) (h : Vw G H v d) : Rq H v d := by
  rcases h with h | ⟨a, vs, ds, rfl, rfl, e, r⟩
  · exact h.mono s
  · exact .lst (.inl e) (r.mono s)
theorem Rq.vInt {i : Int} (h : Rq G v (.int i)) : v = .int i := by cases h; rfl
theorem Rq.vBl {i : Bool} (h : Rq G v (.bool i)) : v = .bl i := by cases h; rfl
theorem Rq.vStr {i : Str} (h : Rq G v (.str i)) : v = .str i := by cases h; rfl
theorem Rq.vNon (h : Rq G v .none) : v = .non := by cases h; rfl
theorem Rq.lst' {ds : List D} (h : Rq G v (.list ds)) : ∃ a vs, v = .ref a ∧ Rd G a (.lst vs) ∧ RqAll G vs ds := by cases h with | lst r k => exact ⟨_, _, rfl, r, k⟩
theorem Rq.tup' {ds : List D} (h : Rq G v (.tuple ds)) : ∃ a vs, v = .ref a ∧ Rd G a (.tup vs) ∧ RqAll G vs ds := by cases h with | tup r k => exact ⟨_, _, rfl, r, k⟩
theorem Rq.dict' {ds : List (D × D)} (h : Rq G v (.dict ds)) : False := by cases h
theorem Vw.int {i : Int} (h : Vw G H v (.int i)) : v = .int i := by
  rcases h with h | ⟨_, _, _, _, e, _⟩
  · exact h.vInt
  · cases e
theorem Vw.bl {i : Bool} (h : Vw G H v (.bool i)) : v = .bl i := by
  rcases h with h | ⟨_, _, _, _, e, _⟩
  · exact h.vBl
  · cases e
theorem Vw.str {i : Str} (h : Vw G H v (.str i)) : v = .str i := by
  rcases h with h | ⟨_, _, _, _, e, _⟩
  · exact h.vStr
  · cases e
theorem Vw.non (h : Vw G H v .none) : v = .non := by
  rcases h with h | ⟨_, _, _, _, e, _⟩
  · exact h.vNon
  · cases e
theorem Vw.lst {ds : List D} (s : Same G H) (h : Vw G H v (.list ds)) : ∃ a vs, v = .ref a ∧ Rd H a (.lst vs) ∧ RqAll G vs ds := by
  rcases h with h | ⟨a, vs, ds', rfl, e, e', r⟩
  · obtain ⟨a, vs, rfl, r, k⟩ := h.lst'
    exact ⟨a, vs, rfl, Rd.mono s r, k⟩
  · cases e
    exact ⟨a, vs, rfl, .inl e', r⟩
theorem Vw.tup {ds : List D} (s : Same G H) (h : Vw G H v (.tuple ds)) : ∃ a vs, v = .ref a ∧ Rd H a (.tup vs) ∧ RqAll G vs ds := by
  rcases h with h | ⟨_, _, _, _, e, _⟩
  · obtain ⟨a, vs, rfl, r, k⟩ := h.tup'
    exact ⟨a, vs, rfl, Rd.mono s r, k⟩
  · cases e
theorem Vw.dict {ds : List (D × D)} (h : Vw G H v (.dict ds)) : False := by
  rcases h with h | ⟨_, _, _, _, e, _⟩
  · exact h.dict'
  · cases e
end
theorem SqL.rd {K : PySem.W.Frag} {H : Hp} {a : Addr} {xs : List V} (h : Rd H a (.lst xs)) : SqL K H a xs := .inl h
theorem SqT.rd {K : PySem.W.Frag} {H : Hp} {a : Addr} {xs : List V} (h : Rd H a (.tup xs)) : SqT K H a xs := .inl h
mutual
theorem Rq.dp {K : PySem.W.Frag} {H : Hp} : ∀ {v : V} {d : D}, Rq H v d → Dp K H v d
  | _, _, .non => .non
  | _, _, .bl b => .bl b
  | _, _, .int i => .int i
  | _, _, .str x => .str x
  | _, _, .lst r h => .lst (SqL.rd r) (RqAll.dp h)
  | _, _, .tup r h => .tup (SqT.rd r) (RqAll.dp h)
theorem RqAll.dp {K : PySem.W.Frag} {H : Hp} : ∀ {vs : List V} {ds : List D}, RqAll H vs ds → DpAll K H vs ds
  | _, _, .nil => .nil
  | _, _, .cons a b => .cons (Rq.dp a) (RqAll.dp b)
end

/-- a value that has come anew -/
inductive NewT (G H : Hp) : V → T → Hp → Prop
  | fz {v : V} {d : D} : Rq G v d → NewT G H v (.fz d) H
  | tup {p : Addr} {vs : List V} {ds : List D} : H p = none → RqAll G vs ds → NewT G H (.ref p) (.fz (.tuple ds)) (upd H p (.tup vs))
  | ol {p : Addr} {vs : List V} {ds : List D} : H p = none → RqAll G vs ds → NewT G H (.ref p) (.ol ds) (upd H p (.lst vs))
theorem Rel.new {G H H' : Hp} {ρ : Rho} {τ : List (V × T)} {σ : St} {v : V} {t : T} (R : Rel G ρ τ σ H) (n : NewT G H v t H') : ∃ G', Same G G' ∧ Rel G' ρ ((v, t) :: τ) σ H' := by
  cases n with
  | fz r => exact ⟨G, Same.refl _, R.same, R.slots, (R.held.addFz r).unmid⟩
  | @tup p vs ds hn r =>
    have g := R.same.free hn
    refine ⟨upd G p (.tup vs), Same.updOut g, Same.updBoth R.same, R.slots, ?_⟩
    exact ((R.held.newFz R.same hn).addFz (.tup (.inl upd_same) (r.mono (Same.updOut g)))).unmid
  | @ol p vs ds hn r => exact ⟨G, Same.refl _, Same.updNew R.same hn, R.slots, (R.held.newList R.same hn r).unmid⟩

section
variable {X : Cx} {pins : List (Addr × Obj)} {σ : St} {H : Hp} {s : Shared}
theorem Inv.lstR {l : Addr} {xs : List V} (I : Inv X pins σ H s) (h : Rd H l (.lst xs)) : xs.length ≤ sizeLine ∧ ∃ (its : List Value) (n : Nat), Vals xs its ∧ xs.length = its.length ∧ s.heap.get? l = some { cls := .type "list", data := .seq its.toArray n } := by
  obtain ⟨z, its, n, r, e⟩ := h.ok I.hok
  exact ⟨z, its, n, r, r.length, e⟩
theorem op_catR : OpR X (binaryOp .Add) (fun x y H Q => ∃ l b xs zs, x = .ref l ∧ y = .ref b ∧ Rd H l (.lst xs) ∧ Rd H b (.lst zs) ∧ xs.length + zs.length ≤ sizeLine ∧ ∀ p, H p = none → Q (.ref p) (upd H p (.lst (xs ++ zs)))) := by
  intro pins s σ H x y v u Q I rx ry h
  obtain ⟨l, b, xs, zs, rfl, rfl, hH, hB, hz, q⟩ := h
  cases rx
  cases ry
  obtain ⟨z, its, n, r, hl, e⟩ := Inv.lstR I hH
  obtain ⟨z2, its2, n2, r2, hl2, e2⟩ := Inv.lstR I hB
  refine PySem.P.add_list e e2 ?_ (by rw [List.size_toArray, List.size_toArray]; omega)
  have ea : its.toArray ++ its2.toArray = (its ++ its2).toArray := by simp
  rw [ea]
  exact ⟨.ref _, _, I.lnew (t' := s.toks) (r.append r2) (by rw [List.length_append]; omega), rfl, q _ I.fresh⟩

theorem RqAll.rep {G : Hp} {vs : List V} {ds : List D} (h : RqAll G vs ds) : ∀ k : Nat, RqAll G (List.replicate k vs).flatten (List.replicate k ds).flatten
  | 0 => .nil
  | k + 1 => by
    rw [List.replicate_succ, List.replicate_succ, List.flatten_cons, List.flatten_cons]
    exact h.append (RqAll.rep h k)
/-- binary operators -/
def rBin (op : Operator) : R2 := fun x y H Q => ∃ G d e t, Same G H ∧ Vw G H x d ∧ Vw G H y e ∧ binD op d e = some t ∧ ∀ v H', NewT G H v t H' → Q v H'
theorem op_bin (op : Operator) : OpR X (binaryOp op) (rBin op) := by
  intro pins s σ H x y v u Q I rx ry ⟨G, d, e, t, sm, hx, hy, hb, q⟩
  have fzI : ∀ {i : Int}, t = .fz (.int i) → Q (.int i) H := fun {i} e => q _ _ (by subst e; exact .fz (.int i))
  have fzS : ∀ {i : Str}, t = .fz (.str i) → Q (.str i) H := fun {i} e => q _ _ (by subst e; exact .fz (.str i))
  cases d with
  | int i =>
    cases e with
    | int j =>
      have ex := hx.int
      have ey := hy.int
      subst ex ey
      cases op <;> simp only [binD] at hb <;> try contradiction
      case Add => exact op_add pins s σ H _ _ v u Q I rx ry ⟨i, j, rfl, rfl, fzI (Option.some.inj hb).symm⟩
      case Sub => exact op_sub pins s σ H _ _ v u Q I rx ry ⟨i, j, rfl, rfl, fzI (Option.some.inj hb).symm⟩
      case Mult =>
        split at hb
        · next h =>
          refine op_mul pins s σ H _ _ v u Q I rx ry ⟨i, j, rfl, rfl, ?_, fzI (Option.some.inj hb).symm⟩
          unfold mulOk at h
          simp only [Bool.or_eq_true, decide_eq_true_eq] at h
          exact h
        · cases hb
      case FloorDiv =>
        split at hb
        · next h => exact op_fdivN pins s σ H _ _ v u Q I rx ry ⟨i, j, rfl, rfl, h, fzI (Option.some.inj hb).symm⟩
        · cases hb
      case Mod =>
        split at hb
        · next h => exact op_modN pins s σ H _ _ v u Q I rx ry ⟨i, j, rfl, rfl, h, fzI (Option.some.inj hb).symm⟩
        · cases hb
      case Pow =>
        split at hb
        · next h => exact op_pow pins s σ H _ _ v u Q I rx ry ⟨i, j, rfl, rfl, h, fzI (Option.some.inj hb).symm⟩
        · cases hb
    | _ => cases op <;> simp [binD] at hb
  | str i =>
    cases e with
    | str j =>
      have ex := hx.str
      have ey := hy.str
      subst ex ey
      cases op <;> simp only [binD] at hb <;> try contradiction
      case Add =>
        split at hb
        · next h => exact op_add_str pins s σ H _ _ v u Q I rx ry ⟨i, j, rfl, rfl, h, fzS (Option.some.inj hb).symm⟩
        · cases hb
    | _ => cases op <;> simp [binD] at hb
  | list ds =>
    obtain ⟨a, vs, rfl, ra, ka⟩ := hx.lst sm
    cases e with
    | list es =>
      obtain ⟨b, ws, rfl, rb, kb⟩ := hy.lst sm
      cases op <;> simp only [binD] at hb <;> try contradiction
      case Add =>
        split at hb
        · next h =>
          refine op_catR pins s σ H _ _ v u Q I rx ry ⟨a, b, vs, ws, rfl, rfl, ra, rb, by rw [ka.length, kb.length]; exact h, fun p hp => q _ _ ?_⟩
          cases hb
          exact .ol hp (ka.append kb)
        · cases hb
    | _ => cases op <;> simp [binD] at hb
  | none => cases op <;> simp [binD] at hb
  | bool _ => cases op <;> cases e <;> simp [binD] at hb
  | tuple _ => cases op <;> simp [binD] at hb
  | dict _ => cases op <;> simp [binD] at hb
end
end L2.Eng

namespace L2.Eng
open PySem PySem.Spec PyProof.Rows

/-- a flat value by its data -/
def scV : D → Option V
  | .none => some .non | .bool b => some (.bl b) | .int i => some (.int i) | .str x => some (.str x) | _ => Option.none
theorem scV_flat {d : D} (f : flatD d = true) : ∃ x, scV d = some x := by
  cases d <;> first | exact ⟨_, rfl⟩ | cases f
section
variable {X : Cx} {G H : Hp} {v w : V}
theorem Vw.sc {d : D} {x : V} (h : Vw G H v d) (e : scV d = some x) : v = x := by
  cases d with
  | none => cases e; exact h.non
  | bool b => cases e; exact h.bl
  | int i => cases e; exact h.int
  | str x => cases e; exact h.str
  | list ds => cases e
  | tuple ds => cases e
  | dict _ => cases e
theorem Vw.cases' {d : D} (s : Same G H) (h : Vw G H v d) : (∃ x, scV d = some x ∧ v = x) ∨ (∃ a vs ds, d = .list ds ∧ v = .ref a ∧ Rd H a (.lst vs) ∧ RqAll G vs ds) ∨ ∃ a vs ds, d = .tuple ds ∧ v = .ref a ∧ Rd H a (.tup vs) ∧ RqAll G vs ds := by
  cases d with
  | none => exact .inl ⟨_, rfl, h.non⟩
  | bool b => exact .inl ⟨_, rfl, h.bl⟩
  | int i => exact .inl ⟨_, rfl, h.int⟩
  | str x => exact .inl ⟨_, rfl, h.str⟩
  | list ds => obtain ⟨a, vs, rfl, r, k⟩ := h.lst s; exact .inr (.inl ⟨a, vs, ds, rfl, rfl, r, k⟩)
  | tuple ds => obtain ⟨a, vs, rfl, r, k⟩ := h.tup s; exact .inr (.inr ⟨a, vs, ds, rfl, rfl, r, k⟩)
  | dict _ => exact h.dict.elim
theorem Vw.isNon {d : D} (s : Same G H) (h : Vw G H v d) : decide (v = .non) = isNonD d := by
  rcases h.cases' s with ⟨x, e, rfl⟩ | ⟨a, vs, ds, rfl, rfl, _⟩ | ⟨a, vs, ds, rfl, rfl, _⟩
  · cases d <;> simp only [scV] at e <;> first | (cases e; done) | (cases e; rfl)
  · rfl
  · rfl
theorem empty_eq {vs : List V} {ds : List D} (h : vs.length = ds.length) : (!vs.isEmpty) = !ds.isEmpty := by
  cases vs <;> cases ds <;> simp_all
theorem Vw.truth {K : PySem.W.Frag} {d : D} {k : Bool} (s : Same G H) (h : Vw G H v d) (e : truthD d = some k) : TruV K v H k := by
  rcases h.cases' s with ⟨x, q, rfl⟩ | ⟨a, vs, ds, rfl, rfl, r, k⟩ | ⟨a, vs, ds, rfl, rfl, r, k⟩
  · cases d with
    | str x =>
      cases q
      simp only [truthD] at e
      split at e
      · next z => cases e; exact ⟨z, rfl⟩
      · cases e
    | _ => cases q <;> cases e <;> rfl
  · cases e
    exact .inl ⟨vs, SqL.rd r, (empty_eq k.length).symm⟩
  · cases e
    exact .inr (.inl ⟨vs, SqT.rd r, (empty_eq k.length).symm⟩)
theorem flat_v {d : D} (h : Vw G H v d) (f : flatD d = true) : flatV v = true := by
  obtain ⟨x, e⟩ := scV_flat f
  cases h.sc e
  cases d <;> simp only [scV] at e <;> first | (cases e; done) | (cases e; rfl)
theorem eq_flat {d e : D} (h : Vw G H v d) (k : Vw G H w e) (f : flatD d = true) (g : flatD e = true) : eqV v w = PyData.eqv d e := by
  obtain ⟨x, ex⟩ := scV_flat f
  obtain ⟨y, ey⟩ := scV_flat g
  cases h.sc ex
  cases k.sc ey
  cases d <;> simp only [scV] at ex <;> first | (cases ex; done) | skip
  all_goals cases ex
  all_goals (cases e <;> simp only [scV] at ey <;> first | (cases ey; done) | skip)
  all_goals (cases ey; simp [eqV, PyData.eqv])
theorem eq_scal {d e : D} (h : Vw G H v d) (k : Vw G H w e) (f : scalD d e = true) : scal v w = true ∧ decide (v = w) = PyData.eqv d e := by
  have fd : flatD d = true := by cases d <;> first | rfl | (cases e <;> cases f)
  have fe : flatD e = true := by cases e <;> first | rfl | (cases d <;> cases f)
  obtain ⟨x, ex⟩ := scV_flat fd
  obtain ⟨y, ey⟩ := scV_flat fe
  cases h.sc ex
  cases k.sc ey
  cases d <;> simp only [scV] at ex <;> first | (cases ex; done) | skip
  all_goals cases ex
  all_goals (cases e <;> simp only [scV] at ey <;> first | (cases ey; done) | skip)
  all_goals first | (cases f; done) | (cases ey; refine ⟨rfl, ?_⟩; simp [PyData.eqv, Bool.beq_eq_decide_eq])
theorem any_flat {d : D} (h : Vw G H v d) (f : flatD d = true) : ∀ {vs : List V} {ds : List D}, RqAll G vs ds → ds.all flatD = true → vs.all flatV = true ∧ inV v vs = ds.any fun z => PyData.eqv z d
  | _, _, .nil, _ => ⟨rfl, rfl⟩
  | _, _, .cons (v := u) (vs := us) (d := c) (ds := cs) a b, g => by
    have g1 : flatD c = true ∧ cs.all flatD = true := by simpa using g
    obtain ⟨i1, i2⟩ := any_flat h f b g1.2
    have q : Vw G H u c := .inl a
    refine ⟨by rw [List.all_cons, flat_v q g1.1, i1]; rfl, ?_⟩
    show (eqV u v || inV v us) = _
    rw [List.any_cons, eq_flat q h g1.1 f, i2]
end

section
variable {X : Cx}
/-- a comparison -/
def rCmp (op : CmpOp) : R2 := fun x y H Q => ∃ G d e k, Same G H ∧ Vw G H x d ∧ Vw G H y e ∧ cmpD op d e = some k ∧ Q (.bl k) H
theorem op_cmp (hu : X.A.units + 65 < cLine) (op : CmpOp) : OpR X (compareOp op) (rCmp op) := by
  intro pins s σ H x y v u Q I rx ry ⟨G, d, e, k, sm, hx, hy, hb, q⟩
  have eqs : ∀ {b : Bool}, eqD d e = some b → (scal x y = true ∧ decide (x = y) = b) ∨ (Dp X.K H x d ∧ Dp X.K H y e ∧ SeqAt.shaped d = true ∧ SeqAt.shaped e = true ∧ PyData.eqv d e = b) := fun {b} he => by
    unfold eqD at he
    split at he
    · next h =>
      cases he
      rcases Bool.or_eq_true_iff.mp h with h | h
      · exact .inl (eq_scal hx hy h)
      · obtain ⟨h1, h2⟩ := Bool.and_eq_true_iff.mp h
        exact .inr ⟨(hx.rq sm).dp, (hy.rq sm).dp, h1, h2, rfl⟩
    · cases he
  have ins : ∀ {b : Bool}, inD d e = some b → (∃ i j, x = .str i ∧ y = .str j ∧ (!(Builtin.Str.occurrences j i 0 j.length 1).isEmpty) = b) ∨
      (∃ ds, e = .list ds ∧ Dp X.K H x d ∧ Dp X.K H y (.list ds) ∧ SeqAt.shaped d = true ∧ SeqAt.shaped (.list ds) = true ∧ (ds.any fun z => PyData.eqv z d) = b) ∨
      ∃ p xs, y = .ref p ∧ SqT X.K H p xs ∧ flatV x = true ∧ xs.all flatV = true ∧ inV x xs = b := fun {b} he => by
    cases e with
    | list ds =>
      simp only [inD] at he
      split at he
      · next h =>
        cases he
        obtain ⟨h1, h2⟩ := Bool.and_eq_true_iff.mp h
        exact .inr (.inl ⟨ds, rfl, (hx.rq sm).dp, (hy.rq sm).dp, h1, h2, rfl⟩)
      · cases he
    | tuple ds =>
      simp only [inD] at he
      split at he
      · next h =>
        cases he
        obtain ⟨h1, h2⟩ := Bool.and_eq_true_iff.mp h
        obtain ⟨a, vs, rfl, r, kk⟩ := hy.tup sm
        obtain ⟨f1, f2⟩ := any_flat hx h1 kk h2
        exact .inr (.inr ⟨a, vs, rfl, SqT.rd r, flat_v hx h1, f1, f2⟩)
      · cases he
    | str j =>
      cases d with
      | str i =>
        cases he
        exact .inl ⟨i, j, hx.str, hy.str, rfl⟩
      | _ => simp [inD] at he
    | _ => simp [inD] at he
  cases op with
  | Eq =>
    rcases eqs hb with ⟨h1, rfl⟩ | ⟨h1, h2, h3, h4, rfl⟩
    · exact op_eq pins s σ H x y v u Q I rx ry ⟨h1, q⟩
    · exact op_eqD (by omega) pins s σ H x y v u Q I rx ry ⟨d, e, h1, h2, h3, h4, q⟩
  | NotEq =>
    simp only [cmpD] at hb
    cases he : eqD d e with
    | none => rw [he] at hb; cases hb
    | some b =>
      rw [he] at hb
      cases hb
      rcases eqs he with ⟨h1, rfl⟩ | ⟨h1, h2, h3, h4, rfl⟩
      · exact op_ne pins s σ H x y v u Q I rx ry ⟨h1, q⟩
      · exact op_neD (by omega) pins s σ H x y v u Q I rx ry ⟨d, e, h1, h2, h3, h4, q⟩
  | In =>
    rcases ins hb with ⟨i, j, rfl, rfl, rfl⟩ | ⟨ds, rfl, h1, h2, h3, h4, rfl⟩ | ⟨p, xs, rfl, h1, h2, h3, rfl⟩
    · exact op_in_str pins s σ H _ _ v u Q I rx ry ⟨i, j, rfl, rfl, q⟩
    · exact op_inD hu pins s σ H _ _ v u Q I rx ry ⟨d, ds, h1, h2, h3, h4, q⟩
    · exact op_in_seq pins s σ H _ _ v u Q I rx ry ⟨p, xs, rfl, .inr h1, h2, h3, q⟩
  | NotIn =>
    simp only [cmpD] at hb
    cases he : inD d e with
    | none => rw [he] at hb; cases hb
    | some b =>
      rw [he] at hb
      cases hb
      rcases ins he with ⟨i, j, rfl, rfl, rfl⟩ | ⟨ds, rfl, h1, h2, h3, h4, rfl⟩ | ⟨p, xs, rfl, h1, h2, h3, rfl⟩
      · exact op_notIn_str pins s σ H _ _ v u Q I rx ry ⟨i, j, rfl, rfl, q⟩
      · exact op_notInD hu pins s σ H _ _ v u Q I rx ry ⟨d, ds, h1, h2, h3, h4, q⟩
      · exact op_notIn_seq pins s σ H _ _ v u Q I rx ry ⟨p, xs, rfl, .inr h1, h2, h3, q⟩
  | Is =>
    cases e with
    | none =>
      cases d <;> cases hb
      all_goals exact op_isN pins s σ H x y v u Q I rx ry ⟨hy.non, by rw [hx.isNon sm]; exact q⟩
    | bool b =>
      cases d <;> cases hb
      exact op_isBl pins s σ H x y v u Q I rx ry ⟨_, _, hx.bl, hy.bl, q⟩
    | _ => cases d <;> simp [cmpD] at hb
  | IsNot =>
    cases e with
    | none =>
      cases d <;> cases hb
      all_goals exact op_notN pins s σ H x y v u Q I rx ry ⟨hy.non, by rw [hx.isNon sm]; exact q⟩
    | bool b =>
      cases d <;> cases hb
      exact op_notBl pins s σ H x y v u Q I rx ry ⟨_, _, hx.bl, hy.bl, q⟩
    | _ => cases d <;> simp [cmpD] at hb
  | Lt =>
    cases d <;> cases e <;> simp only [cmpD] at hb <;> try contradiction
    · cases hb; exact op_lt pins s σ H x y v u Q I rx ry ⟨_, _, hx.int, hy.int, q⟩
    · cases hb; exact op_lt_str pins s σ H x y v u Q I rx ry ⟨_, _, hx.str, hy.str, q⟩
  | LtE =>
    cases d <;> cases e <;> simp only [cmpD] at hb <;> try contradiction
    cases hb; exact op_le pins s σ H x y v u Q I rx ry ⟨_, _, hx.int, hy.int, q⟩
  | Gt =>
    cases d <;> cases e <;> simp only [cmpD] at hb <;> try contradiction
    cases hb; exact op_gt pins s σ H x y v u Q I rx ry ⟨_, _, hx.int, hy.int, q⟩
  | GtE =>
    cases d <;> cases e <;> simp only [cmpD] at hb <;> try contradiction
    cases hb; exact op_ge pins s σ H x y v u Q I rx ry ⟨_, _, hx.int, hy.int, q⟩
end
end L2.Eng

namespace L2.Eng
open PySem PySem.Spec PyProof.Rows

def VwAll (G H : Hp) : List V → List D → Prop := Paired (Vw G H)
theorem VwAll.one {G H : Hp} {xs : List V} {d : D} (h : VwAll G H xs [d]) : ∃ x, xs = [x] ∧ Vw G H x d := by
  cases h with
  | cons a b => cases b; exact ⟨_, rfl, a⟩
theorem VwAll.two {G H : Hp} {xs : List V} {d e : D} (h : VwAll G H xs [d, e]) : ∃ x y, xs = [x, y] ∧ Vw G H x d ∧ Vw G H y e := by
  cases h with
  | cons a b => cases b with
    | cons b c => cases c; exact ⟨_, _, rfl, a, b⟩
theorem RqAll.atI' {G : Hp} {vs : List V} {ds : List D} (h : RqAll G vs ds) {i : Int} {d : D} (e : atI ds i = some d) : ∃ v, atI vs i = some v ∧ Rq G v d := by
  unfold atI at e ⊢
  rw [h.length]
  cases q : ixN ds.length i with
  | none => rw [q] at e; cases e
  | some j =>
    rw [q] at e
    exact h.get e
section
variable {X : Cx}
theorem CallR.of {f : Value} {r r' : List V → Hp → VK → Prop} (h : CallR X f r) (i : ∀ xs H Q, r' xs H Q → r xs H Q) : CallR X f r' := fun pins s σ H xs us Q I rv q => h pins s σ H xs us Q I rv (i _ _ _ q)

/-! ### subscripts -/
def rIdx : R2 := fun x y H Q => ∃ G d e f, Same G H ∧ Vw G H x d ∧ Vw G H y e ∧ idxD d e = some f ∧ ∀ v, Rq G v f → Q v H
theorem ix_data : IxR X rIdx := by
  intro va sl pins s σ H x y v u Q I rx ry ⟨G, d, e, f, sm, hx, hy, he, q⟩ hs
  cases d with
  | list ds =>
    cases e with
    | int i =>
      obtain ⟨a, vs, rfl, r, k⟩ := hx.lst sm
      obtain ⟨w, e1, e2⟩ := k.atI' he
      exact ix_list va sl pins s σ H _ _ v u Q I rx ry ⟨a, vs, i, w, rfl, hy.int, SqL.rd r, e1, q w e2⟩ hs
    | _ => simp [idxD] at he
  | tuple ds =>
    cases e with
    | int i =>
      obtain ⟨a, vs, rfl, r, k⟩ := hx.tup sm
      obtain ⟨w, e1, e2⟩ := k.atI' he
      exact ix_tup va sl pins s σ H _ _ v u Q I rx ry ⟨a, vs, i, w, rfl, hy.int, SqT.rd r, e1, q w e2⟩ hs
    | _ => simp [idxD] at he
  | str z =>
    cases e with
    | int i =>
      simp only [idxD] at he
      split at he
      · next hz =>
        cases hc : atI z.cps.toList i with
        | none => rw [hc] at he; cases he
        | some c =>
          rw [hc] at he
          cases he
          exact ix_str va sl pins s σ H _ _ v u Q I rx ry ⟨z, i, c, hx.str, hy.int, hz, hc, q _ (.str _)⟩ hs
      · cases he
    | _ => simp [idxD] at he
  | _ => cases e <;> simp [idxD] at he
theorem cut_rq {G : Hp} {vs : List V} {ds : List D} (h : RqAll G vs ds) (lo hi : Option Int) : RqAll G (cutV vs lo hi) (cutD ds lo hi) := by
  unfold cutV cutD
  rw [h.length]
  exact (h.drop _).take _
def rSlc : V → Option Int → Option Int → Hp → VK → Prop := fun x lo hi H Q => ∃ G d t, Same G H ∧ Vw G H x d ∧ slcD d lo hi = some t ∧ ∀ v H', NewT G H v t H' → Q v H'
theorem sl_data : SlR X rSlc := by
  intro pins s σ H x v vl vu lo hi sl Q I rx hs pl pu ⟨G, d, t, sm, hx, he, q⟩
  cases d with
  | list ds =>
    cases he
    obtain ⟨a, vs, rfl, r, k⟩ := hx.lst sm
    exact sl_list pins s σ H _ v vl vu lo hi sl Q I rx hs pl pu ⟨a, vs, rfl, SqL.rd r, fun p hp => q _ _ (.ol hp (cut_rq k lo hi))⟩
  | str z =>
    simp only [slcD] at he
    split at he
    · next hz =>
      cases he
      exact sl_str pins s σ H _ v vl vu lo hi sl Q I rx hs pl pu ⟨z, hx.str, hz, q _ _ (.fz (.str _))⟩
    · cases he
  | _ => simp [slcD] at he

/-! ### sorted -/
theorem eachVals {G H : Hp} : ∀ {vs : List V} {us : List Value} {ds : List D}, Vals vs us → RqAll G vs ds → PySem.W.EachIs (fun u (p : V × D) => RelV p.1 u ∧ Rq G p.1 p.2) us (vs.zip ds)
  | _, _, _, .nil, .nil => .nil
  | _, _, _, .cons r t, .cons a b => .cons ⟨r, a⟩ (eachVals (H := H) t b)
theorem eachOut {G : Hp} : ∀ {us : List Value} {ps : List (V × D)}, PySem.W.EachIs (fun u (p : V × D) => RelV p.1 u ∧ Rq G p.1 p.2) us ps → Vals (ps.map Prod.fst) us ∧ RqAll G (ps.map Prod.fst) (ps.map Prod.snd)
  | _, _, .nil => ⟨.nil, .nil⟩
  | _, _, .cons h t => ⟨.cons h.1 (eachOut t).1, .cons h.2 (eachOut t).2⟩
theorem zip_snd {vs : List V} {ds : List D} (h : vs.length = ds.length) : (vs.zip ds).map Prod.snd = ds := List.map_snd_zip (by omega)
theorem call_sortedD (hu : X.A.units + 68 < cLine) : CallR X (.builtin "sorted") (fun xs H Q => ∃ G ds es, Same G H ∧ VwAll G H xs [.list ds] ∧ sortD ds = some es ∧ ∀ p vs, H p = none → RqAll G vs es → Q (.ref p) (upd H p (.lst vs))) := by
  intro pins s σ H xs us Q I rv ⟨G, ds, es, sm, ha, he, q⟩
  obtain ⟨x, rfl, hx⟩ := ha.one
  obtain ⟨a, vs, rfl, r, k⟩ := hx.lst sm
  unfold sortD at he
  split at he
  · next hc =>
    cases he
    obtain ⟨c1, c2, c3, c4⟩ := hc
    obtain ⟨its, rvs, hl, hz⟩ := I.list (SqL.rd (K := X.K) r)
    rw [Vals.ref1 rv]
    have hsnd := zip_snd k.length
    have e := eachVals (H := H) rvs k
    have hal : PySem.W.AllAlike ((vs.zip ds).map Prod.snd) := by
      rw [hsnd]
      intro d hd d' hd'
      exact List.all_eq_true.mp (List.all_eq_true.mp c2 d hd) d' hd'
    have hk : PySem.W.Sortable ((vs.zip ds).map Prod.snd) := by
      rw [hsnd]
      rcases c4 with c4 | c4
      · refine .inl fun d hd => ?_
        have z := List.all_eq_true.mp c4 d hd
        match d, z with
        | .tuple (x :: r), _ => exact ⟨x, r, rfl⟩
      · refine .inr fun d hd => ?_
        have z := List.all_eq_true.mp c4 d hd
        cases d <;> first | exact Bool.noConfusion z | (refine ⟨?_, ?_⟩ <;> simp)
    refine PySem.W.sorted_data (enc := Prod.snd) (bs := vs.zip ds) (R := fun u (p : V × D) => RelV p.1 u ∧ Rq G p.1 p.2) hl.isList e ?_ hal hk (by rw [List.length_zip]; omega) (fun b hb => ?_) fun out ho eo => ?_
    · exact e.mono fun u p h => (h.2.mono sm).dp.reads I _ _ _ h.1
    · have hd : b.2 ∈ ds := by rw [← hsnd]; exact List.mem_map_of_mem hb
      have z := of_decide_eq_true (List.all_eq_true.mp c3 b.2 hd)
      have : b.2.depth ≤ 64 := z
      omega
    · obtain ⟨o1, o2⟩ := eachOut eo
      have es : ((vs.zip ds).mergeSort (PySem.W.dataLe false Prod.snd)).map Prod.snd = ds.mergeSort (PySem.W.dataLe false id) := by
        have q1 := PySem.W.sort_maps (r := PySem.W.dataLe false (Prod.snd : V × D → D)) (s := PySem.W.dataLe false (id : D → D)) Prod.snd (l := vs.zip ds) (fun _ _ _ _ => rfl)
        rw [hsnd] at q1
        exact q1
      rw [es] at o2
      obtain ⟨ep, he'⟩ := PyProof.Rows.sortedAll_at s.heap its out.toArray
      refine ⟨.ref _, upd H (s.heap.objs.size + 1) (.lst (((vs.zip ds).mergeSort (PySem.W.dataLe false Prod.snd)).map Prod.fst)), I.laid (t' := s.toks) (fun _ _ h => PyProof.Rows.sortedAll_old h) (Nat.le_succ _) ⟨?_, out, ep, o1, he'⟩, rfl, q _ _ (I.hok.fresh (Nat.le_succ _)) o2⟩
      rw [o1.length, ho, List.length_zip]
      omega
  · cases he
/-! ### built-ins -/
theorem ints_v {G H : Hp} : ∀ {ds : List D} {vs : List V} {ns : List Int}, RqAll G vs ds → intsD ds = some ns → vs = ns.map V.int
  | [], _, ns, .nil, e => by cases e; rfl
  | .int i :: r, _, ns, .cons a b, e => by
    simp only [intsD] at e
    cases q : intsD r with
    | none => rw [q] at e; cases e
    | some m =>
      rw [q] at e
      cases e
      rw [List.map_cons, a.vInt, ints_v (H := H) b q]
  | .none :: r, _, ns, .cons a b, e => by simp [intsD] at e
  | .bool _ :: r, _, ns, .cons a b, e => by simp [intsD] at e
  | .str _ :: r, _, ns, .cons a b, e => by simp [intsD] at e
  | .list _ :: r, _, ns, .cons a b, e => by simp [intsD] at e
  | .tuple _ :: r, _, ns, .cons a b, e => by simp [intsD] at e
  | .dict _ :: r, _, ns, .cons a b, e => by simp [intsD] at e
theorem maxI_is : ∀ {r : List Int} {n m : Int}, m ∈ n :: r → (∀ k ∈ n :: r, k ≤ m) → maxI n r = m
  | [], n, m, h, _ => by simp at h; exact h.symm
  | k :: r, n, m, h, a => by
    unfold maxI
    have hn := a n (by simp)
    have hk := a k (by simp)
    refine maxI_is ?_ fun j hj => ?_
    · rcases List.mem_cons.mp h with rfl | h
      · rw [if_neg (by omega)]; simp
      · rcases List.mem_cons.mp h with rfl | h
        · by_cases q : n < m
          · rw [if_pos q]; simp
          · rw [if_neg q]; have : n = m := by omega
            simp [this]
        · exact List.mem_cons_of_mem _ h
    · rcases List.mem_cons.mp hj with rfl | hj
      · split <;> assumption
      · exact a j (by simp [hj])
theorem minI_is : ∀ {r : List Int} {n m : Int}, m ∈ n :: r → (∀ k ∈ n :: r, m ≤ k) → minI n r = m
  | [], n, m, h, _ => by simp at h; exact h.symm
  | k :: r, n, m, h, a => by
    unfold minI
    have hn := a n (by simp)
    have hk := a k (by simp)
    refine minI_is ?_ fun j hj => ?_
    · rcases List.mem_cons.mp h with rfl | h
      · rw [if_neg (by omega)]; simp
      · rcases List.mem_cons.mp h with rfl | h
        · by_cases q : m < n
          · rw [if_pos q]; simp
          · rw [if_neg q]; have : n = m := by omega
            simp [this]
        · exact List.mem_cons_of_mem _ h
    · rcases List.mem_cons.mp hj with rfl | hj
      · split <;> assumption
      · exact a j (by simp [hj])
def Bi.val : Bi → Value
  | .len => .builtin "len" | .abs => .builtin "abs" | .int => .type "int" | .str => .type "str" | .sum => .builtin "sum" | .list => .type "list" | .sorted => .builtin "sorted"
  | .max2 => .builtin "max" | .min2 => .builtin "min" | .maxL => .builtin "max" | .minL => .builtin "min"
def rBi (b : Bi) : List V → Hp → VK → Prop := fun xs H Q => ∃ G ds t, Same G H ∧ VwAll G H xs ds ∧ biD b ds = some t ∧ ∀ v H', NewT G H v t H' → Q v H'
theorem call_bi (hc : X.calm = true) (hu : X.A.units + 68 < cLine) (b : Bi) : CallR X b.val (rBi b) := by
  intro pins s σ H xs us Q I rv ⟨G, ds, t, sm, ha, he, q⟩
  have fzI : ∀ {i : Int}, t = .fz (.int i) → Q (.int i) H := fun {i} e => q _ _ (by subst e; exact .fz (.int i))
  cases b with
  | len =>
    match ds, he with
    | [.list es], he =>
      obtain ⟨x, rfl, hx⟩ := ha.one
      obtain ⟨a, vs, rfl, r, k⟩ := hx.lst sm
      cases he
      exact call_len pins s σ H _ us Q I rv ⟨_, vs.length, rfl, .inl ⟨vs, SqL.rd r, rfl⟩, by rw [k.length]; exact fzI rfl⟩
    | [.tuple es], he =>
      obtain ⟨x, rfl, hx⟩ := ha.one
      obtain ⟨a, vs, rfl, r, k⟩ := hx.tup sm
      cases he
      exact call_len pins s σ H _ us Q I rv ⟨_, vs.length, rfl, .inr ⟨vs, SqT.rd r, rfl⟩, by rw [k.length]; exact fzI rfl⟩
    | [.str z], he =>
      obtain ⟨x, rfl, hx⟩ := ha.one
      simp only [biD] at he
      split at he
      · next hz =>
        cases he
        exact call_len pins s σ H _ us Q I rv ⟨_, z.length, rfl, by rw [hx.str]; exact ⟨hz, rfl⟩, fzI rfl⟩
      · cases he
  | abs =>
    match ds, he with
    | [.int i], he =>
      obtain ⟨x, rfl, hx⟩ := ha.one
      cases he
      exact call_abs pins s σ H _ us Q I rv ⟨i, by rw [hx.int], fzI rfl⟩
  | int =>
    match ds, he with
    | [.int i], he =>
      obtain ⟨x, rfl, hx⟩ := ha.one
      cases he
      exact call_int1 pins s σ H _ us Q I rv (.inl ⟨i, by rw [hx.int], fzI rfl⟩)
  | str =>
    match ds, he with
    | [.int i], he =>
      obtain ⟨x, rfl, hx⟩ := ha.one
      simp only [biD] at he
      split at he
      · next hz =>
        cases he
        exact call_str_int pins s σ H _ us Q I rv ⟨i, by rw [hx.int], hz, q _ _ (.fz (.str _))⟩
      · cases he
  | sum =>
    match ds, he with
    | [.list es], he =>
      obtain ⟨x, rfl, hx⟩ := ha.one
      obtain ⟨a, vs, rfl, r, k⟩ := hx.lst sm
      simp only [biD] at he
      cases hn : intsD es with
      | none => rw [hn] at he; cases he
      | some ns =>
        rw [hn] at he
        cases he
        exact cr_sum hc pins s σ H _ us Q I rv ⟨a, ns, rfl, by rw [← ints_v (H := H) k hn]; exact SqL.rd r, fzI rfl⟩
  | list =>
    match ds, he with
    | [.list es], he =>
      obtain ⟨x, rfl, hx⟩ := ha.one
      obtain ⟨a, vs, rfl, r, k⟩ := hx.lst sm
      cases he
      exact call_list_of pins s σ H _ us Q I rv ⟨a, vs, rfl, .inl (SqL.rd r), fun l hl => q _ _ (.ol hl k)⟩
    | [.tuple es], he =>
      obtain ⟨x, rfl, hx⟩ := ha.one
      obtain ⟨a, vs, rfl, r, k⟩ := hx.tup sm
      cases he
      exact call_list_of pins s σ H _ us Q I rv ⟨a, vs, rfl, .inr (SqT.rd r), fun l hl => q _ _ (.ol hl k)⟩
  | sorted =>
    match ds, he with
    | [.list es], he =>
      simp only [biD] at he
      cases hn : sortD es with
      | none => rw [hn] at he; cases he
      | some fs =>
        rw [hn] at he
        cases he
        exact call_sortedD hu pins s σ H _ us Q I rv ⟨G, es, fs, sm, ha, hn, fun p vs hp k => q _ _ (.ol hp k)⟩
  | max2 =>
    match ds, he with
    | [.int i, .int j], he =>
      obtain ⟨x, y, rfl, hx, hy⟩ := ha.two
      cases he
      exact call_max2 hc pins s σ H _ us Q I rv ⟨i, j, by rw [hx.int, hy.int], fzI rfl⟩
  | min2 =>
    match ds, he with
    | [.int i, .int j], he =>
      obtain ⟨x, y, rfl, hx, hy⟩ := ha.two
      cases he
      exact call_min2 hc pins s σ H _ us Q I rv ⟨i, j, by rw [hx.int, hy.int], fzI rfl⟩
  | maxL =>
    match ds, he with
    | [.list es], he =>
      obtain ⟨x, rfl, hx⟩ := ha.one
      obtain ⟨a, vs, rfl, r, k⟩ := hx.lst sm
      simp only [biD] at he
      cases hn : intsD es with
      | none => rw [hn] at he; cases he
      | some ns =>
        rw [hn] at he
        cases ns with
        | nil => cases he
        | cons n ns =>
          cases he
          refine cr_max hc pins s σ H _ us Q I rv ⟨a, n :: ns, rfl, by rw [← ints_v (H := H) k hn]; exact SqL.rd r, by simp, fun m h1 h2 => ?_⟩
          rw [← maxI_is h1 h2]
          exact fzI rfl
  | minL =>
    match ds, he with
    | [.list es], he =>
      obtain ⟨x, rfl, hx⟩ := ha.one
      obtain ⟨a, vs, rfl, r, k⟩ := hx.lst sm
      simp only [biD] at he
      cases hn : intsD es with
      | none => rw [hn] at he; cases he
      | some ns =>
        rw [hn] at he
        cases ns with
        | nil => cases he
        | cons n ns =>
          cases he
          refine cr_min hc pins s σ H _ us Q I rv ⟨a, n :: ns, rfl, by rw [← ints_v (H := H) k hn]; exact SqL.rd r, by simp, fun m h1 h2 => ?_⟩
          rw [← minI_is h1 h2]
          exact fzI rfl
end
end L2.Eng

namespace L2.Eng
open PySem PySem.Spec PyProof.Rows

/-! ### isinstance -/
def tyD : D → String
  | .none => "NoneType" | .bool _ => "bool" | .int _ => "int" | .str _ => "str" | .list _ => "list" | .tuple _ => "tuple" | .dict _ => "dict"
def Kd.nm : Kd → String
  | .int => "int" | .bool => "bool" | .str => "str" | .list => "list" | .tuple => "tuple"
theorem kitB_at (k : Kd) (d : D) : kitB (tyD d) k.nm = some (isKd k d) ∨ ∃ kvs, d = .dict kvs := by
  have all : ∀ k : Kd, kitB "NoneType" k.nm = some false ∧ kitB "bool" k.nm = some (decide (k = .int ∨ k = .bool)) ∧ kitB "int" k.nm = some (decide (k = .int)) ∧ kitB "str" k.nm = some (decide (k = .str)) ∧ kitB "list" k.nm = some (decide (k = .list)) ∧ kitB "tuple" k.nm = some (decide (k = .tuple)) := by
    intro k
    cases k <;> decide +kernel
  obtain ⟨a1, a2, a3, a4, a5, a6⟩ := all k
  cases d with
  | none => left; rw [show tyD .none = "NoneType" from rfl, a1]; cases k <;> rfl
  | bool b => left; rw [show tyD (.bool b) = "bool" from rfl, a2]; cases k <;> rfl
  | int b => left; rw [show tyD (.int b) = "int" from rfl, a3]; cases k <;> rfl
  | str b => left; rw [show tyD (.str b) = "str" from rfl, a4]; cases k <;> rfl
  | list b => left; rw [show tyD (.list b) = "list" from rfl, a5]; cases k <;> rfl
  | tuple b => left; rw [show tyD (.tuple b) = "tuple" from rfl, a6]; cases k <;> rfl
  | dict b => exact .inr ⟨b, rfl⟩
theorem Vw.ty {K : PySem.W.Frag} {G H : Hp} {v : V} {d : D} (s : Same G H) (h : Vw G H v d) : TyX K H v (.type (tyD d)) := by
  cases d with
  | none => rw [h.non]; exact .base .non
  | bool b => rw [h.bl]; exact .base (.bl b)
  | int i => rw [h.int]; exact .base (.int i)
  | str x => rw [h.str]; exact .base (.str x)
  | list ds =>
    obtain ⟨a, vs, rfl, r, k⟩ := h.lst s
    rcases r with r | ⟨o, r⟩
    · exact .base (.lst r)
    · exact .base (.frz r)
  | tuple ds =>
    obtain ⟨a, vs, rfl, r, k⟩ := h.tup s
    rcases r with r | ⟨o, r⟩
    · exact .base (.tup r)
    · exact .fTuple r
  | dict _ => exact h.dict.elim
theorem Vw.kit {K : PySem.W.Frag} {G H : Hp} {v : V} {d : D} (k : Kd) (h : Vw G H v d) : PySem.W.kitOne K (.type (tyD d)) (.type k.nm) = some (isKd k d) := by
  rcases kitB_at k d with e | ⟨kvs, rfl⟩
  · exact kit_ty e
  · exact h.dict.elim
theorem Vw.kits {K : PySem.W.Frag} {G H : Hp} {v : V} {d : D} (h : Vw G H v d) : ∀ ks : List Kd, PySem.W.kitAny K (.type (tyD d)) (ks.map fun k => .type k.nm) = some (ks.any fun k => isKd k d)
  | [] => rfl
  | k :: ks => by
    rw [List.any_cons]
    refine kitAny_cons (h.kit k) (fun e => ?_) (fun e => ?_)
    · rw [e, Vw.kits h ks]; rfl
    · rw [e]; rfl
/-! ### methods -/
section
variable {X : Cx}
theorem mt_idx (hu : X.A.units + 68 < cLine) : MtR X "list.index" (fun x xs H Q => ∃ G ds d j, Same G H ∧ Vw G H x (.list ds) ∧ VwAll G H xs [d] ∧ SeqAt.shaped d = true ∧ SeqAt.shaped (.list ds) = true ∧ idxOfD d ds = some j ∧ Q (.int (j : Nat)) H) := by
  intro pins s σ H x xs v us Q I rx rxs ⟨G, ds, d, j, sm, hx, ha, h1, h2, hj, q⟩
  obtain ⟨y, rfl, hy⟩ := ha.one
  obtain ⟨a, vs, rfl, r, k⟩ := hx.lst sm
  unfold idxOfD at hj
  obtain ⟨hlt, hz, hno⟩ := List.findIdx?_eq_some_iff_getElem.mp hj
  refine mt_indexD (by omega) pins s σ H _ _ v us Q I rx rxs ⟨a, y, d, ds, j, ds[j], rfl, rfl, (hx.rq sm).dp, (hy.rq sm).dp, h2, h1, List.getElem?_eq_getElem hlt, hz, fun m z hm hz' => ?_, q⟩
  have hml : m < ds.length := by omega
  rw [List.getElem?_eq_getElem hml] at hz'
  cases hz'
  have := hno m hm
  simpa using this
def Mu.id : Mu → String
  | .append => "list.append" | .extend => "list.extend" | .pop => "list.pop" | .popAt => "list.pop" | .insert => "list.insert"
theorem RqAll.dropLast {G : Hp} {vs : List V} {ds : List D} (h : RqAll G vs ds) : RqAll G vs.dropLast ds.dropLast := by
  rw [List.dropLast_eq_take, List.dropLast_eq_take, h.length]
  exact h.take _
/-- extend by a list that can be read -/
theorem mt_extR : MtM X "list.extend" (fun x ws H Q => ∃ p b xs zs, x = .ref p ∧ ws = [.ref b] ∧ H p = some (.lst xs) ∧ Rd H b (.lst zs) ∧ xs.length + zs.length ≤ sizeLine ∧ Q .non (upd H p (.lst (xs ++ zs)))) := by
  intro pins s σ H x ws v us Q I rx rv ⟨p, b, xs, zs, ex, ew, hp, hb, hz, q⟩
  subst ex ew
  cases rx
  obtain ⟨w, ew, rw1⟩ := rv.one
  subst ew
  cases rw1
  obtain ⟨_, i1, n1, r1, l1, e1⟩ := Inv.lstR I (Rd.of hp)
  obtain ⟨_, i2, n2, r2, l2, e2⟩ := Inv.lstR I hb
  have small : i1.toArray.size + i2.toArray.size ≤ sizeLine := by simp only [List.size_toArray]; omega
  have notLong : ¬ (!i1.toArray.isEmpty && Builtin.List.listTooLong (i1.toArray.size + i2.toArray.size)) = true := by rw [notLongL small, Bool.and_false]; decide
  have meets := AutoSeq1.list_extend_list_list_0 p i1.toArray n1 b i2.toArray n2 notLong (by simp only [List.size_toArray]; omega) (by omega)
  refine call_meets F.slot_list_extend ⟨_, e1, rfl⟩ F.entry_list_extend (F.args_list_extend_2 _ _) meets ⟨e1, e2, .non, _, ?_, rfl, q⟩
  exact I.lset (its' := i1 ++ i2) hp e1 (by simp) (r1.append r2) (by rw [List.length_append]; omega)
/-- a method that changes the list at a -/
def rMu (m : Mu) : V → List V → Hp → VK → Prop := fun x xs H Q => ∃ G ds es a vs ys d, Same G H ∧ x = .ref a ∧ H a = some (.lst vs) ∧ RqAll G vs ds ∧ RqAll G xs es ∧ muD m ds es = some (ys, d) ∧
  ∀ v ws, RqAll G ws ys → Rq G v d → Q v (upd H a (.lst ws))
theorem rq_one {G : Hp} {xs : List V} {d : D} (h : RqAll G xs [d]) : ∃ x, xs = [x] ∧ Rq G x d := by
  cases h with
  | cons a b => cases b; exact ⟨_, rfl, a⟩
theorem mt_mu (m : Mu) : MtR X m.id (rMu m) := by
  intro pins s σ H x xs v us Q I rx rxs ⟨G, ds, es, a, vs, ys, d, sm, hx, ha, k, ke, hm, q⟩
  subst hx
  cases m with
  | append =>
    match es, hm with
    | [e], hm =>
      obtain ⟨y, rfl, hy⟩ := rq_one ke
      simp only [muD] at hm
      split at hm
      · next hl =>
        cases hm
        exact mt_append pins s σ H _ _ v us Q I rx rxs ⟨a, vs, y, rfl, rfl, ha, by rw [k.length]; exact hl, q _ _ (k.append (.cons hy .nil)) .non⟩
      · cases hm
  | extend =>
    match es, hm with
    | [.list e], hm =>
      obtain ⟨y, rfl, hy⟩ := rq_one ke
      obtain ⟨b, ws, rfl, r, kb⟩ := hy.lst'
      simp only [muD] at hm
      split at hm
      · next hl =>
        cases hm
        exact mt_extR pins s σ H _ _ v us Q I rx rxs ⟨a, b, vs, ws, rfl, rfl, ha, Rd.mono sm r, by rw [k.length, kb.length]; exact hl, q _ _ (k.append kb) .non⟩
      · cases hm
  | pop =>
    match es, hm with
    | [], hm =>
      cases ke
      simp only [muD] at hm
      cases hd : ds[ds.length - 1]? with
      | none => rw [hd] at hm; cases hm
      | some z =>
        rw [hd] at hm
        cases hm
        obtain ⟨w, e1, e2⟩ := k.get hd
        exact mt_pop pins s σ H _ _ v us Q I rx rxs ⟨a, vs, w, rfl, rfl, ha, by rw [k.length]; exact e1, q _ _ k.dropLast e2⟩
  | popAt =>
    match es, hm with
    | [.int i], hm =>
      obtain ⟨y, rfl, hy⟩ := rq_one ke
      cases hy.vInt
      simp only [muD] at hm
      split at hm
      · next hl =>
        cases hs : seqIndex? i ds.length with
        | none => rw [hs] at hm; cases hm
        | some j =>
          rw [hs] at hm
          simp only [Option.bind_some] at hm
          cases hd : ds[j]? with
          | none => rw [hd] at hm; cases hm
          | some z =>
            rw [hd] at hm
            cases hm
            obtain ⟨w, e1, e2⟩ := k.get hd
            exact mt_popAt pins s σ H _ _ v us Q I rx rxs ⟨a, vs, i, j, w, rfl, rfl, ha, hl.1, hl.2, by rw [k.length]; exact hs, e1, q _ _ (k.eraseIdx j) e2⟩
      · cases hm
  | insert => simp [muD] at hm
end
end L2.Eng

/-! EngD1: readings by what the small language computes. -/
namespace L2.Eng
open PySem PySem.Spec PyProof.Rows

/-! ### results as wishes -/
def wpR {α : Type} (r : R α) (P : α → Rho → Prop) (E : Ex → Rho → Prop) : Prop := match r with
  | .ok a ρ => P a ρ
  | .exc x ρ => E x ρ
  | .no => False
theorem wpR_bind {α β : Type} {r : R α} {f : α → Rho → R β} {P : β → Rho → Prop} {E : Ex → Rho → Prop} : wpR (r.bind f) P E = wpR r (fun a ρ => wpR (f a ρ) P E) E := by
  cases r <;> rfl
theorem wpR_map {α β : Type} {r : R α} {f : α → β} {P : β → Rho → Prop} {E : Ex → Rho → Prop} : wpR (r.map f) P E = wpR r (fun a ρ => P (f a) ρ) E := by
  cases r <;> rfl
theorem wpR_of {α : Type} {o : Option α} {ρ : Rho} {P : α → Rho → Prop} {E : Ex → Rho → Prop} (h : wpR (R.of o ρ) P E) : ∃ a, o = some a ∧ P a ρ := by
  cases o with
  | none => exact h.elim
  | some a => exact ⟨a, rfl, h⟩
theorem wpR.mono {α : Type} {r : R α} {P P' : α → Rho → Prop} {E E' : Ex → Rho → Prop} (h : wpR r P E) (hP : ∀ a ρ, P a ρ → P' a ρ) (hE : ∀ x ρ, E x ρ → E' x ρ) : wpR r P' E' := by
  cases r with
  | ok a ρ => exact hP _ _ h
  | exc x ρ => exact hE _ _ h
  | no => exact h

/-! ### forgetting what is held -/
theorem HoldL.sub {G H : Hp} {L L' : List (V × T)} (s : L'.Sublist L) : ∀ {f : List Addr}, HoldL G H L f → ∃ f', HoldL G H L' f' ∧ f'.Sublist f := by
  induction s with
  | slnil => intro f h; exact ⟨f, h, .refl _⟩
  | cons a _ ih =>
    intro f h
    cases h with
    | cons h1 h2 =>
      obtain ⟨f', h3, q⟩ := ih h2
      exact ⟨f', h3, q.trans (List.sublist_append_right _ _)⟩
  | cons_cons a _ ih =>
    intro f h
    cases h with
    | cons h1 h2 =>
      obtain ⟨f', h3, q⟩ := ih h2
      exact ⟨_, .cons h1 h3, (List.Sublist.refl _).append q⟩
theorem Held.sub {G H : Hp} {L L' : List (V × T)} (h : Held G H L) (s : L'.Sublist L) : Held G H L' := by
  obtain ⟨f, h, n⟩ := h
  obtain ⟨f', h', q⟩ := h.sub s
  exact ⟨f', h', n.sublist q⟩
theorem Rel.sub {G H : Hp} {ρ : Rho} {τ τ' : List (V × T)} {σ : St} (R : Rel G ρ τ σ H) (s : τ'.Sublist τ) : Rel G ρ τ' σ H :=
  ⟨R.same, R.slots, R.held.sub ((List.Sublist.refl _).append s)⟩
theorem Rel.perm {G H : Hp} {ρ : Rho} {τ τ' : List (V × T)} {σ : St} (R : Rel G ρ τ σ H) (s : τ.Perm τ') : Rel G ρ τ' σ H :=
  ⟨R.same, R.slots, R.held.perm (List.Perm.append_left _ s)⟩
theorem Rel.first {G H : Hp} {ρ : Rho} {τ : List (V × T)} {x : V × T} {σ : St} (R : Rel G ρ (x :: τ) σ H) : Held G H [x] :=
  R.held.mid.sub (List.Sublist.cons_cons _ (List.nil_sublist _))
theorem Rel.tmp {G H : Hp} {ρ : Rho} {A τ : List (V × T)} {x : V × T} {σ : St} (R : Rel G ρ (A ++ x :: τ) σ H) : Held G H [x] :=
  (R.perm List.perm_middle).first
theorem Rel.slot {G H : Hp} {ρ : Rho} {τ : List (V × T)} {σ : St} (R : Rel G ρ τ σ H) {i : Nat} {t : T} (h : ρ[i]? = some (some t)) : ∃ v, σ[i]? = some (some v) ∧ Held G H [(v, t)] := by
  obtain ⟨v, e, R1⟩ := R.out h
  exact ⟨v, e, R1.first⟩
/-- the thing on top is frozen -/
theorem Rel.freeze {G H : Hp} {ρ : Rho} {τ : List (V × T)} {σ : St} {v : V} {t : T} {d : D} (R : Rel G ρ ((v, t) :: τ) σ H) (e : t.view = some d) : ∃ G', Same G G' ∧ Rel G' ρ ((v, .fz d) :: τ) σ H := by
  obtain ⟨G', s1, s2, h⟩ := R.held.mid.freeze R.same e
  exact ⟨G', s1, s2, R.slots, h.unmid⟩
theorem Rel.fz {G H : Hp} {ρ : Rho} {τ : List (V × T)} {σ : St} {v : V} {d : D} (R : Rel G ρ ((v, .fz d) :: τ) σ H) : Rq G v d := R.held.mid.fz
theorem Rel.addFz {G H : Hp} {ρ : Rho} {τ : List (V × T)} {σ : St} {v : V} {d : D} (R : Rel G ρ τ σ H) (r : Rq G v d) : Rel G ρ ((v, .fz d) :: τ) σ H := ⟨R.same, R.slots, (R.held.addFz r).unmid⟩

/-! ### operands -/
def Opd.push (o : Opd) (v : V) (τ : List (V × T)) : List (V × T) := match o with
  | .tmp t => (v, t) :: τ
  | .sl _ => τ
def Opd.at_ (o : Opd) (v : V) (σ : St) : Prop := match o with
  | .tmp _ => True
  | .sl i => σ[i]? = some (some v)
theorem Opd.sub (o : Opd) (v : V) (τ : List (V × T)) : τ.Sublist (o.push v τ) := by
  cases o with
  | tmp t => exact List.sublist_cons_self _ _
  | sl i => exact .refl _
theorem slotT_some {ρ : Rho} {i : Nat} {t : T} (h : slotT ρ i = some t) : ρ[i]? = some (some t) := by
  unfold slotT at h
  cases e : ρ[i]? with
  | none => rw [e] at h; cases h
  | some o => rw [e] at h; cases o with
    | none => cases h
    | some u => cases h; rfl
theorem Opd.vw {G H : Hp} {ρ : Rho} {A τ : List (V × T)} {σ : St} {o : Opd} {v : V} {d : D} (R : Rel G ρ (A ++ o.push v τ) σ H) (a : o.at_ v σ) (e : o.see ρ = some d) : Vw G H v d := by
  cases o with
  | tmp t => exact (Rel.tmp R).vw e
  | sl i =>
    simp only [Opd.see] at e
    cases q : slotT ρ i with
    | none => rw [q] at e; cases e
    | some t =>
      rw [q] at e
      obtain ⟨w, e1, h⟩ := R.slot (slotT_some q)
      rw [show σ[i]? = some (some v) from a] at e1
      cases e1
      exact h.vw e

/-! ### exceptions -/
/-- x lies as an exception of the class cls, its own dict at d -/
def ExOk (K : PySem.W.Frag) (mg : Str → Option Value) (x : Ex) (cls : Value) (d : Option Addr) (G : Hp) (H : Hp) : Prop :=
  mg x.c = some cls ∧ ((x.fs = [] ∧ d = none) ∨ ∃ a f y v, x.fs = [(f, y)] ∧ d = some a ∧ H a = some (.xd [(f, v)]) ∧ Rq G v y)
section
variable (X : Cx) (W : WX)
def ExP (G : Hp) (τ : List (V × T)) (σ : St) (x : Ex) (ρ : Rho) : Prop := ∀ cls d G' H', ExOk X.K X.mg x cls d G' H' → Same G G' → Rel G' ρ τ σ H' → W cls d σ H'
end
section
variable {X : Cx} {W : WX}
theorem ExP.mono {G G1 : Hp} {τ τ1 : List (V × T)} {σ : St} {x : Ex} {ρ : Rho} (h : ExP X W G τ σ x ρ) (s : Same G G1) (t : τ.Sublist τ1) : ExP X W G1 τ1 σ x ρ := fun cls d G' H' e s' R => h cls d G' H' e (s.trans s') (R.sub t)
end
/-! ### readings -/
section
variable (X : Cx) (W : WX)
def tO (f : Rho → R Opd) : TE := fun σ H Q => ∃ G ρ τ, Rel G ρ τ σ H ∧ wpR (f ρ) (fun o ρ' => ∀ v G' H', Same G G' → Rel G' ρ' (o.push v τ) σ H' → o.at_ v σ → Q v H') (ExP X W G τ σ)
def tT (f : Rho → R T) : TE := fun σ H Q => ∃ G ρ τ, Rel G ρ τ σ H ∧ wpR (f ρ) (fun t ρ' => ∀ v G' H', Same G G' → Rel G' ρ' ((v, t) :: τ) σ H' → Q v H') (ExP X W G τ σ)
def tD (f : Rho → R D) : TE := fun σ H Q => ∃ G ρ τ, Rel G ρ τ σ H ∧ wpR (f ρ) (fun d ρ' => ∀ v G' H', Same G G' → Rel G' ρ' τ σ H' → Rq G' v d → Q v H') (ExP X W G τ σ)
def tK (f : Rho → R Bool) : TT := fun σ H Q => ∃ G ρ τ, Rel G ρ τ σ H ∧ wpR (f ρ) (fun k ρ' => ∀ G' H', Same G G' → Rel G' ρ' τ σ H' → Q k H') (ExP X W G τ σ)
def pushes : List Opd → List V → List (V × T) → List (V × T)
  | o :: os, v :: vs, τ => pushes os vs (o.push v τ)
  | _, _, τ => τ
def ats : List Opd → List V → St → Prop
  | [], [], _ => True
  | o :: os, v :: vs, σ => o.at_ v σ ∧ ats os vs σ
  | _, _, _ => False
def tOs (f : Rho → R (List Opd)) : TA := fun σ H Q => ∃ G ρ τ, Rel G ρ τ σ H ∧ wpR (f ρ) (fun os ρ' => ∀ vs G' H', Same G G' → Rel G' ρ' (pushes os vs τ) σ H' → ats os vs σ → Q vs H') (ExP X W G τ σ)
def tDs (f : Rho → R (List D)) : TA := fun σ H Q => ∃ G ρ τ, Rel G ρ τ σ H ∧ wpR (f ρ) (fun ds ρ' => ∀ vs G' H', Same G G' → Rel G' ρ' τ σ H' → RqAll G' vs ds → Q vs H') (ExP X W G τ σ)
def tOI (f : Rho → R (Option Int)) : TO := fun σ H Q => ∃ G ρ τ, Rel G ρ τ σ H ∧ wpR (f ρ) (fun o ρ' => ∀ G' H', Same G G' → Rel G' ρ' τ σ H' → Q o H') (ExP X W G τ σ)
end
section
variable {X : Cx} {W : WX} {G H : Hp} {ρ : Rho} {τ : List (V × T)} {σ : St}
theorem _root_.L2.PE.weak {e : Expr} {t t' : TE} (h : PE X e t) (w : ∀ σ H Q, t' σ H Q → t σ H Q) : PE X e t' := ⟨fun pins s σ H Q I q => h.run pins s σ H Q I (w _ _ _ q)⟩
theorem _root_.L2.PT.weak {e : Expr} {t t' : TT} (h : PT X e t) (w : ∀ σ H Q, t' σ H Q → t σ H Q) : PT X e t' := ⟨fun pins s σ H Q I q => h.run pins s σ H Q I (w _ _ _ q)⟩
theorem _root_.L2.PW.weak {e : Expr} {t t' : TT} (h : PW X e t) (w : ∀ σ H Q, t' σ H Q → t σ H Q) : PW X e t' := ⟨fun wh pins s σ H Q I q => h.run wh pins s σ H Q I (w _ _ _ q)⟩
theorem _root_.L2.PA.weak {e : List Expr} {t t' : TA} (h : PA X e t) (w : ∀ σ H Q, t' σ H Q → t σ H Q) : PA X e t' := ⟨fun p pins s σ H Q I q => h.run p pins s σ H Q I (w _ _ _ q)⟩
theorem _root_.L2.PO.weak {e : Option Expr} {t t' : TO} (h : PO X e t) (w : ∀ σ H Q, t' σ H Q → t σ H Q) : PO X e t' := ⟨fun pins s σ H Q I q => h.run pins s σ H Q I (w _ _ _ q)⟩
theorem tO.step {f : Rho → R Opd} {P : Opd → Rho → Prop} {E : Ex → Rho → Prop} {K : VK} (R : Rel G ρ τ σ H) (h : wpR (f ρ) P E) (hE : ∀ x ρ', E x ρ' → ExP X W G τ σ x ρ')
    (k : ∀ o ρ' v G' H', P o ρ' → Same G G' → Rel G' ρ' (o.push v τ) σ H' → o.at_ v σ → K v H') : tO X W f σ H K :=
  ⟨G, ρ, τ, R, h.mono (fun o ρ' p v G' H' s1 R1 a => k o ρ' v G' H' p s1 R1 a) hE⟩
theorem tT.step {f : Rho → R T} {P : T → Rho → Prop} {E : Ex → Rho → Prop} {K : VK} (R : Rel G ρ τ σ H) (h : wpR (f ρ) P E) (hE : ∀ x ρ', E x ρ' → ExP X W G τ σ x ρ')
    (k : ∀ t ρ' v G' H', P t ρ' → Same G G' → Rel G' ρ' ((v, t) :: τ) σ H' → K v H') : tT X W f σ H K :=
  ⟨G, ρ, τ, R, h.mono (fun o ρ' p v G' H' s1 R1 => k o ρ' v G' H' p s1 R1) hE⟩
theorem tD.step {f : Rho → R D} {P : D → Rho → Prop} {E : Ex → Rho → Prop} {K : VK} (R : Rel G ρ τ σ H) (h : wpR (f ρ) P E) (hE : ∀ x ρ', E x ρ' → ExP X W G τ σ x ρ')
    (k : ∀ d ρ' v G' H', P d ρ' → Same G G' → Rel G' ρ' τ σ H' → Rq G' v d → K v H') : tD X W f σ H K :=
  ⟨G, ρ, τ, R, h.mono (fun o ρ' p v G' H' s1 R1 q => k o ρ' v G' H' p s1 R1 q) hE⟩
theorem tK.step {f : Rho → R Bool} {P : Bool → Rho → Prop} {E : Ex → Rho → Prop} {K : Bool → Hp → Prop} (R : Rel G ρ τ σ H) (h : wpR (f ρ) P E) (hE : ∀ x ρ', E x ρ' → ExP X W G τ σ x ρ')
    (k : ∀ b ρ' G' H', P b ρ' → Same G G' → Rel G' ρ' τ σ H' → K b H') : tK X W f σ H K :=
  ⟨G, ρ, τ, R, h.mono (fun o ρ' p G' H' s1 R1 => k o ρ' G' H' p s1 R1) hE⟩
theorem tOs.step {f : Rho → R (List Opd)} {P : List Opd → Rho → Prop} {E : Ex → Rho → Prop} {K : List V → Hp → Prop} (R : Rel G ρ τ σ H) (h : wpR (f ρ) P E) (hE : ∀ x ρ', E x ρ' → ExP X W G τ σ x ρ')
    (k : ∀ os ρ' vs G' H', P os ρ' → Same G G' → Rel G' ρ' (pushes os vs τ) σ H' → ats os vs σ → K vs H') : tOs X W f σ H K :=
  ⟨G, ρ, τ, R, h.mono (fun o ρ' p vs G' H' s1 R1 a => k o ρ' vs G' H' p s1 R1 a) hE⟩
theorem tDs.step {f : Rho → R (List D)} {P : List D → Rho → Prop} {E : Ex → Rho → Prop} {K : List V → Hp → Prop} (R : Rel G ρ τ σ H) (h : wpR (f ρ) P E) (hE : ∀ x ρ', E x ρ' → ExP X W G τ σ x ρ')
    (k : ∀ ds ρ' vs G' H', P ds ρ' → Same G G' → Rel G' ρ' τ σ H' → RqAll G' vs ds → K vs H') : tDs X W f σ H K :=
  ⟨G, ρ, τ, R, h.mono (fun o ρ' p vs G' H' s1 R1 a => k o ρ' vs G' H' p s1 R1 a) hE⟩
theorem tOI.step {f : Rho → R (Option Int)} {P : Option Int → Rho → Prop} {E : Ex → Rho → Prop} {K : Option Int → Hp → Prop} (R : Rel G ρ τ σ H) (h : wpR (f ρ) P E) (hE : ∀ x ρ', E x ρ' → ExP X W G τ σ x ρ')
    (k : ∀ b ρ' G' H', P b ρ' → Same G G' → Rel G' ρ' τ σ H' → K b H') : tOI X W f σ H K :=
  ⟨G, ρ, τ, R, h.mono (fun o ρ' p G' H' s1 R1 => k o ρ' G' H' p s1 R1) hE⟩
theorem pushes_sub : ∀ (os : List Opd) (vs : List V) (τ : List (V × T)), τ.Sublist (pushes os vs τ)
  | o :: os, v :: vs, τ => (Opd.sub o v τ).trans (pushes_sub os vs _)
  | [], _, τ => by cases ‹List V› <;> exact .refl _
  | _ :: _, [], τ => .refl _
theorem pushes_app : ∀ (os : List Opd) (vs : List V) (τ : List (V × T)), ∃ A, pushes os vs τ = A ++ τ
  | o :: os, v :: vs, τ => by
    obtain ⟨A, e⟩ := pushes_app os vs (o.push v τ)
    cases o with
    | tmp t => exact ⟨A ++ [(v, t)], by unfold pushes; rw [e]; unfold Opd.push; simp⟩
    | sl i => exact ⟨A, by unfold pushes; rw [e]; rfl⟩
  | [], vs, τ => ⟨[], by cases vs <;> rfl⟩
  | _ :: _, [], τ => ⟨[], rfl⟩
theorem sees_vw : ∀ {os : List Opd} {vs : List V} {τ : List (V × T)} {A : List (V × T)} {ds : List D}, Rel G ρ (A ++ pushes os vs τ) σ H → ats os vs σ → sees ρ os = some ds → VwAll G H vs ds
  | [], [], _, _, ds, _, _, e => by cases e; exact .nil
  | o :: os, v :: vs, τ, A, ds, R, a, e => by
    unfold sees at e
    cases q : o.see ρ with
    | none => rw [q] at e; cases e
    | some d =>
      rw [q] at e
      cases q2 : sees ρ os with
      | none => simp [q2] at e
      | some es =>
        simp [q2] at e
        subst e
        obtain ⟨B, eB⟩ := pushes_app os vs (o.push v τ)
        refine .cons ?_ (sees_vw R a.2 q2)
        refine Opd.vw (A := A ++ B) (τ := τ) ?_ a.1 q
        rw [List.append_assoc, ← eB]
        exact R
  | [], _ :: _, _, _, _, _, a, _ => a.elim
  | _ :: _, [], _, _, _, _, a, _ => a.elim
end
end L2.Eng

/-! EngD2: which text an expression of the small language stands for. -/
namespace L2.Eng
open PySem PySem.Spec PyProof.Rows

def dEq : D → D → Bool
  | .none, .none => true
  | .bool a, .bool b => a == b
  | .int a, .int b => a == b
  | .str a, .str b => a == b
  | _, _ => false
def dEqs : List D → List D → Bool
  | [], [] => true
  | a :: as, b :: bs => dEq a b && dEqs as bs
  | _, _ => false
theorem dEq_eq {d e : D} (h : dEq d e = true) : d = e := by
  cases d <;> cases e <;> simp_all [dEq]
theorem dEqs_eq : ∀ {ds es : List D}, dEqs ds es = true → ds = es
  | [], [], _ => rfl
  | a :: as, b :: bs, h => by
    have h' : dEq a b = true ∧ dEqs as bs = true := by simpa [dEqs] using h
    rw [dEq_eq h'.1, dEqs_eq h'.2]
  | [], _ :: _, h => by simp [dEqs] at h
  | _ :: _, [], h => by simp [dEqs] at h

/-- what the text's top has: its defs with how many parameters and the last ones' defaults, its numbers and texts, the built-in names that are still the built-in ones -/
structure Tbl where
  fns : List (Str × Nat × List D)
  gls : List (Str × D)
  bls : List Str
  excs : List Str
  hds : List Str
structure Ctx where
  N : List Str
  sc : Scope
  tb : Tbl
def visB (sc : Scope) (x : Str) : Bool := match sc.names.lookup x with
  | some .local => true | some .cell => true | some .free => true | _ => false
def locB (sc : Scope) (x : Str) : Bool := match sc.names.lookup x with
  | some .local => true | some .cell => true | _ => false
def glbB (sc : Scope) (x : Str) : Bool := match sc.names.lookup x with
  | some .globalImplicit => true | _ => false
def noDbg (x : Str) : Bool := !(x == ("__debug__" : Str)) && !(x == ("__classdict__" : Str)) && !decide (x = ("__name__" : Str))
def Ctx.nameOk (c : Ctx) (i : Nat) (x : Str) : Bool := decide (c.N[i]? = some x) && visB c.sc x && noDbg x
def Ctx.storeOk (c : Ctx) (i : Nat) (x : Str) : Bool := decide (c.N[i]? = some x) && locB c.sc x
def Ctx.bltOk (c : Ctx) (x : Str) : Bool := glbB c.sc x && noDbg x && decide (x ∈ c.tb.bls)
def noStar : Expr → Bool
  | .Starred .. => false
  | _ => true
def noSet : Expr → Bool
  | .Set .. => false
  | _ => true
def noSlice : Expr → Bool
  | .Slice .. => false
  | _ => true
def noCall0 : Expr → Bool
  | .Call (.Name _ _) [] [] _ => false
  | _ => true
def plainT : Expr → Bool
  | .UnaryOp .Not _ _ => false
  | .BoolOp .. => false
  | .IfExp .. => false
  | .Compare .. => false
  | _ => true
def Bi.nm : Bi → Str
  | .len => "len" | .abs => "abs" | .int => "int" | .str => "str" | .sum => "sum" | .list => "list" | .sorted => "sorted"
  | .max2 => "max" | .min2 => "min" | .maxL => "max" | .minL => "min"
def Kd.py : Kd → Str
  | .int => "int" | .bool => "bool" | .str => "str" | .list => "list" | .tuple => "tuple"
def Mu.py : Mu → Str
  | .append => "append" | .extend => "extend" | .pop => "pop" | .popAt => "pop" | .insert => "insert"
def Mu.ar : Mu → Nat
  | .append => 1 | .extend => 1 | .pop => 0 | .popAt => 1 | .insert => 2
def Es.len : Es → Nat
  | .nil => 0
  | .cons _ es => es.len + 1
def Ctx.fnOk (c : Ctx) (f : Str) (n : Nat) (ds : List D) : Bool := match c.tb.fns.lookup f with
  | some (np, dfl) => decide (n + ds.length = np) && decide (ds.length ≤ dfl.length) && dEqs ds (dfl.drop (dfl.length - ds.length)) && ds.all flatD
  | none => false
def ckKs (c : Ctx) : List Kd → List Expr → Bool
  | [], [] => true
  | k :: ks, .Name x _ :: es => decide (x = k.py) && c.bltOk x && ckKs c ks es
  | _, _ => false
def ckTgs (c : Ctx) : List Nat → List Expr → Bool
  | [], [] => true
  | i :: is, .Name x _ :: es => c.storeOk i x && ckTgs c is es
  | _, _ => false
def ckTg (c : Ctx) : Tg → Expr → Bool
  | .one i, .Name x _ => c.storeOk i x
  | .tup is, .Tuple es _ _ => ckTgs c is es
  | _, _ => false
/-- may stand as a test -/
def tOk : E → Bool
  | .ite _ _ _ => false
  | .and_ a b => tOk a && tOk b
  | .or_ a b => tOk a && tOk b
  | .not_ a => tOk a
  | _ => true
mutual
def ckE (c : Ctx) : E → Expr → Bool
  | .nm i, .Name x _ => c.nameOk i x
  | .mv i, .Name x _ => c.nameOk i x
  | .int i, .Constant (.int j) _ _ => decide (i = j)
  | .str x, .Constant (.str y) _ _ => decide (x = y)
  | .bl b, .Constant (.bool d) _ _ => b == d
  | .non, .Constant .none _ _ => true
  | .glb x d, .Name y _ => decide (x = y) && glbB c.sc x && noDbg x && flatD d && (match c.tb.gls.lookup x with | some e => dEq d e | none => false)
  | .bin op a b, .BinOp x o y _ => decide (op = o) && ckE c a x && ckE c b y
  | .neg a, .UnaryOp .USub x _ => ckE c a x
  | .cmp op a b, .Compare x [o] [y] _ => decide (op = o) && ckE c a x && ckE c b y && noSet y
  | .chn o1 o2 a b d, .Compare x [p1, p2] [y, z] _ => decide (o1 = p1) && decide (o2 = p2) && ckE c a x && ckE c b y && ckE c d z && noSet z
  | .and_ a b, .BoolOp .And (x :: y :: r) pos => ckE c a x && (match r with | [] => ckE c b y | z :: r' => ckE c b (.BoolOp .And (y :: z :: r') pos))
  | .or_ a b, .BoolOp .Or (x :: y :: r) pos => ckE c a x && (match r with | [] => ckE c b y | z :: r' => ckE c b (.BoolOp .Or (y :: z :: r') pos))
  | .not_ a, .UnaryOp .Not x _ => ckE c a x
  | .ite t a b, .IfExp x y z _ => tOk t && ckE c t x && ckE c a y && ckE c b z
  | .lst es, .List xs _ => ckEs c es xs
  | .tup es, .Tuple xs _ _ => ckEs c es xs
  | .idx a i, .Subscript x y _ => ckE c a x && ckE c i y && noSlice y
  | .slc a lo hi, .Subscript x (.Slice l h none _) _ => ckE c a x && ckOE c lo l && ckOE c hi h
  | .call f es ds, .Call (.Name x _) as [] _ => decide (x = f) && glbB c.sc x && noDbg x && ckEs c es as && c.fnOk f es.len ds
  | .bi b es, .Call (.Name x _) (a :: as) [] _ => decide (x = b.nm) && c.bltOk x && ckEs c es (a :: as)
  | .rl1 e, .Call (.Name x _) [.Call (.Name r _) [a] [] _] [] _ => decide (x = ("list" : Str)) && c.bltOk x && decide (r = ("range" : Str)) && c.bltOk r && ckE c e a && noStar a
  | .rl2 e f, .Call (.Name x _) [.Call (.Name r _) [a, b] [] _] [] _ => decide (x = ("list" : Str)) && c.bltOk x && decide (r = ("range" : Str)) && c.bltOk r && ckE c e a && noStar a && ckE c f b && noStar b
  | .isi a ks, .Call (.Name x _) [y, z] [] _ => decide (x = ("isinstance" : Str)) && c.bltOk x && ckE c a y && noStar y && (match ks, z with
    | [k], .Name n _ => decide (n = k.py) && c.bltOk n
    | ks, .Tuple es _ _ => ckKs c ks es && decide (ks.length < 100)
    | _, _ => false)
  | .me m o es, .Call (.Attribute x n apos) (a :: as) [] cpos => decide (m = .index) && decide (n = ("index" : Str)) && ckE c o x && noCall0 x && decide (as = []) && (apos.endLine == cpos.line) && ckEs c es (a :: as)
  | .mu m i es, .Call (.Attribute (.Name x _) n apos) as [] cpos => decide (m ≠ .insert) && decide (n = m.py) && c.nameOk i x && decide (as.length = m.ar) && (apos.endLine == cpos.line) && ckEs c es as
  | .lc tg own it cd elt, .ListComp ee [⟨te, ie, ifs, 0⟩] scope _ =>
    blkC c.N c.sc scope (own.filterMap fun i => (c.N[i]?).map fun x => (x, i)) && decide ((own.filterMap fun i => (c.N[i]?).map fun x => (x, i)).map (·.2) = own) && ckTg ⟨c.N, scope, c.tb⟩ tg te && decide own.Nodup && tg.is.all (fun i => decide (i ∈ own)) && noSet ie &&
      ckI c it ie && ckE ⟨c.N, scope, c.tb⟩ elt ee && ckC ⟨c.N, scope, c.tb⟩ cd ifs
  | _, _ => false
def ckEs (c : Ctx) : Es → List Expr → Bool
  | .nil, [] => true
  | .cons e es, x :: xs => ckE c e x && noStar x && ckEs c es xs
  | _, _ => false
def ckOE (c : Ctx) : OE → Option Expr → Bool
  | .none, none => true
  | .some e, some x => ckE c e x
  | _, _ => false
def ckC (c : Ctx) : OE → List Expr → Bool
  | .none, [] => true
  | .some e, [x] => tOk e && ckE c e x
  | _, _ => false
def ckI (c : Ctx) : It → Expr → Bool
  | .opd e, x => ckE c e x
  | .rng1 e, x => match x with
    | .Call (.Name r _) [a] [] _ => decide (r = ("range" : Str)) && c.bltOk r && ckE c e a && noStar a
    | _ => false
  | .rng2 e f, x => match x with
    | .Call (.Name r _) [a, b] [] _ => decide (r = ("range" : Str)) && c.bltOk r && ckE c e a && noStar a && ckE c f b && noStar b
    | _ => false
  | .revR1 e, x => match x with
    | .Call (.Name q _) [.Call (.Name r _) [a] [] _] [] _ => decide (q = ("reversed" : Str)) && c.bltOk q && decide (r = ("range" : Str)) && c.bltOk r && ckE c e a && noStar a
    | _ => false
  | _, _ => false
end
end L2.Eng

/-! EngD3: the context, calls of defs. -/
namespace L2.Eng
open PySem PySem.Spec PyProof.Rows

theorem set_none_self {ρ : Rho} {i : Nat} (h : ρ[i]? = none ∨ ρ[i]? = some none) : ρ.set i none = ρ := by
  apply List.ext_getElem?
  intro j
  by_cases q : i = j
  · subst q
    rcases h with h | h
    · rw [h]
      have := List.getElem?_eq_none_iff.mp h
      simp [this]
    · rw [h]
      have := (List.getElem?_eq_some_iff.mp h).1
      simp [this]
  · rw [List.getElem?_set_ne q]
theorem its_drop {σ : St} {ρ : Rho} (k : SlotsOk σ ρ) (i : Nat) : ∃ A, (its σ ρ).Perm (A ++ its σ (ρ.set i none)) := by
  cases e : ρ[i]? with
  | none => exact ⟨[], by rw [set_none_self (.inl e)]; exact .refl _⟩
  | some o =>
    cases o with
    | none => exact ⟨[], by rw [set_none_self (.inr e)]; exact .refl _⟩
    | some u =>
      obtain ⟨w, _, p, _⟩ := k.get e
      exact ⟨[(w, u)], p⟩
/-- a thing is laid at the slot that refers to it; what was known there is forgotten -/
theorem Rel.lay {G H : Hp} {ρ : Rho} {τ : List (V × T)} {σ : St} {i : Nat} {v : V} {t : T} (R : Rel G ρ ((v, t) :: τ) σ H) (h : σ[i]? = some (some v)) : Rel G (ρ.set i (some t)) τ σ H := by
  obtain ⟨a, b⟩ := SlotsOk.put t R.slots h
  obtain ⟨A, p⟩ := its_drop R.slots i
  refine ⟨R.same, a, Held.perm (L := (v, t) :: (its σ (ρ.set i none) ++ τ)) ?_ (b.append_right _).symm⟩
  have h2 : Held G H (A ++ (its σ (ρ.set i none) ++ (v, t) :: τ)) := by
    rw [← List.append_assoc]
    exact R.held.perm (p.append_right _)
  exact h2.right.mid
theorem Rel.wipe {G H : Hp} {ρ : Rho} {τ : List (V × T)} {σ : St} (R : Rel G ρ τ σ H) (i : Nat) : Rel G (ρ.set i none) τ σ H := by
  cases e : ρ[i]? with
  | none => rw [set_none_self (.inl e)]; exact R
  | some o =>
    cases o with
    | none => rw [set_none_self (.inr e)]; exact R
    | some u =>
      obtain ⟨v, _, R1⟩ := R.out e
      exact R1.sub (List.sublist_cons_self _ _)

/-! ### calls -/
def spF (Φ : Fx) (K : PySem.W.Frag) (mg : Str → Option Value) (f : Str) (np : Nat) : Sp := fun vs H Q E => ∃ G ts τ, Same G H ∧ Held G H (vs.zip ts ++ τ) ∧ vs.length = np ∧ ts.length = np ∧
  match Φ.call f ts with
  | .ok t us => us.length = np → ∀ v G' H', Same G G' → Same G' H' → Held G' H' ((v, t) :: (vs.zip us ++ τ)) → Q v H'
  | .exc x us => us.length = np → ∀ cls d G' H', ExOk K mg x cls d G' H' → Same G G' → Same G' H' → Held G' H' (vs.zip us ++ τ) → E cls d H'
  | .no => False
/-- the class that a name stands for -/
def clsOf (mg : Str → Option Value) (h : Str) : Option Value := match mg h with
  | some c => some c
  | none => bootBuiltins h
abbrev excMro : List Value := [.type "ValueError", .type "Exception", .type "BaseException", .type "object"]
/-- what a def promises where it is called with the exception that is handled: d, whatever the heap -/
structure FnX (P : Program) (w : World) (K : PySem.W.Frag) (mg : Str → Option Value) (base : Heap) (k : Nat) (f : Addr) (fd : FuncData) (ps : List Str) (cls : Value) (d : D) : Prop where
  len : ps.length = 1
  run : ∀ (A : Around) (outer : List Env) (s : Shared) (H : Hp) (args : Args) (Q : VK) (p : Addr × Obj), L2H.RoomH k A → L2H.Hot1 A p → Zc cls none p.2 → L2H.PinOk outer H s p → Env0 P w K mg base A outer s H →
    BindsTo s fd args (ps.zip [Value.ref p.1]) → (∀ v H', scV d = some v → Same H H' → Q v H') → codeAny (model P w) A (.call (.ref f) args) (L2.CR (L2N.CX P w) outer P w H s Q fun _ _ _ => False) s
structure FnsOk (Φ : Fx) (tb : Tbl) (P : Program) (w : World) (K : PySem.W.Frag) (mg : Str → Option Value) (base : Heap) (k : Nat) : Prop where
  bl : ∀ x, x ∈ tb.bls → mg x = none
  gl : ∀ x d, tb.gls.lookup x = some d → ∃ u, mg x = some u ∧ ∀ z, scV d = some z → RelV z u
  fn : ∀ f np dfl, tb.fns.lookup f = some (np, dfl) → ∃ a fd ps, mg f = some (.ref a) ∧ PySem.W.keepIn K (.ref a) = true ∧ ps.length = np ∧ FnOk P w K mg base (L2N.CX P w) k a fd ps (spF Φ K mg f np) ∧
    ∀ j, j ≤ dfl.length → ∃ us zs, Paired (fun z d => scV d = some z) zs (dfl.drop j) ∧ Vals zs us ∧ Binds K fd ps us
  ex : ∀ x, x ∈ tb.excs → ∃ C, mg x = some (.ref C) ∧ PySem.W.excIn K C excMro "ValueError.__new__" = true ∧ PySem.W.keepIn K (.ref C) = true ∧ PySem.W.subIn K (.ref C) (.type "BaseException") = some true ∧ PySem.W.typeIn K (.ref C) = some (.type "type")
  hd : ∀ h, h ∈ tb.hds → ∃ c, clsOf mg h = some c
  sb : ∀ x h b cls c, Φ.sub x h = some b → mg x = some cls → clsOf mg h = some c → PySem.W.exmOne K cls c = some b
  hot : ∀ f x d, Φ.hot f x = some d → ∃ a fd ps cls, mg f = some (.ref a) ∧ mg x = some cls ∧ PySem.W.keepIn K (.ref a) = true ∧ Binds K fd ps [] ∧ FnX P w K mg base k a fd ps cls d
structure ScpOk (sc : Scope) (X : Cx) : Prop where
  vis : ∀ x, visB sc x = true → Vis X.env.scope x
  gl : ∀ x, glbB sc x = true → Gl X x
  loc : ∀ x, locB sc x = true → Loc X.env.scope x ∧ (X.fn x = true ∨ X.env.scope.names.lookup x = some .local)
  free : ∀ x, sc.names.lookup x = some .cell ∨ sc.names.lookup x = some .free → X.env.scope.names.lookup x = some .cell ∨ X.env.scope.names.lookup x = some .free
structure XOk (Φ : Fx) (W : WX) (c : Ctx) (X : Cx) : Prop where
  hN : X.N = c.N
  nd : c.N.Nodup
  scp : ScpOk c.sc X
  calm : X.calm = true
  hu : X.A.units + 68 < cLine
  tk : L2N.Takes X W
  mod : ∃ k, Room k X.A ∧ FnsOk Φ c.tb X.prog X.w X.K X.mg X.base k

def tmps : List Opd → List V → List (V × T)
  | .tmp t :: os, v :: vs => (v, t) :: tmps os vs
  | .sl _ :: os, _ :: vs => tmps os vs
  | _, _ => []
theorem pushes_perm : ∀ (os : List Opd) (vs : List V) (τ : List (V × T)), (pushes os vs τ).Perm (tmps os vs ++ τ)
  | .tmp t :: os, v :: vs, τ => by
    refine (pushes_perm os vs ((v, t) :: τ)).trans ?_
    exact List.perm_middle
  | .sl i :: os, v :: vs, τ => pushes_perm os vs τ
  | [], [], τ => .refl _
  | [], _ :: _, τ => .refl _
  | .tmp t :: _, [], τ => .refl _
  | .sl t :: _, [], τ => .refl _
theorem takeA_ok {G H : Hp} {σ : St} : ∀ {os : List Opd} {vs : List V} {ρ ρ' : Rho} {B : List (V × T)} {ts : List T}, Rel G ρ (tmps os vs ++ B) σ H → ats os vs σ → takeA os ρ = some (ts, ρ') →
    Rel G ρ' (vs.zip ts ++ B) σ H ∧ ts.length = os.length
  | [], [], ρ, ρ', B, ts, R, a, e => by
    cases e
    exact ⟨R, rfl⟩
  | .tmp t :: os, v :: vs, ρ, ρ', B, ts, R, a, e => by
    simp only [takeA] at e
    cases q : takeA os ρ with
    | none => rw [q] at e; cases e
    | some z =>
      rw [q] at e
      cases e
      have R1 : Rel G ρ (tmps os vs ++ (v, t) :: B) σ H := R.perm List.perm_middle.symm
      obtain ⟨R2, l⟩ := takeA_ok (ρ' := z.2) (ts := z.1) R1 a.2 q
      exact ⟨R2.perm List.perm_middle, by simp [l]⟩
  | .sl i :: os, v :: vs, ρ, ρ', B, ts, R, a, e => by
    simp only [takeA] at e
    have av : σ[i]? = some (some v) := a.1
    cases q0 : slotT ρ i with
    | none => rw [q0] at e; cases e
    | some t =>
      rw [q0] at e
      have hs := slotT_some q0
      cases t with
      | fz d =>
        simp only at e
        cases q : takeA os ρ with
        | none => rw [q] at e; cases e
        | some z =>
          rw [q] at e
          cases e
          obtain ⟨w, e1, h⟩ := R.slot hs
          rw [av] at e1
          cases e1
          have R1 : Rel G ρ (tmps os vs ++ (v, .fz d) :: B) σ H := (R.addFz h.fz).perm List.perm_middle.symm
          obtain ⟨R2, l⟩ := takeA_ok (ρ' := z.2) (ts := z.1) R1 a.2 q
          exact ⟨R2.perm List.perm_middle, by simp [l]⟩
      | ol ds =>
        simp only at e
        cases q : takeA os (ρ.set i none) with
        | none => rw [q] at e; cases e
        | some z =>
          rw [q] at e
          cases e
          obtain ⟨w, e1, R0⟩ := R.out hs
          rw [av] at e1
          cases e1
          have R1 : Rel G (ρ.set i none) (tmps os vs ++ (v, .ol ds) :: B) σ H := R0.perm List.perm_middle.symm
          obtain ⟨R2, l⟩ := takeA_ok (ρ' := z.2) (ts := z.1) R1 a.2 q
          exact ⟨R2.perm List.perm_middle, by simp [l]⟩
      | od ds =>
        simp only at e
        cases q : takeA os (ρ.set i none) with
        | none => rw [q] at e; cases e
        | some z =>
          rw [q] at e
          cases e
          obtain ⟨w, e1, R0⟩ := R.out hs
          rw [av] at e1
          cases e1
          have R1 : Rel G (ρ.set i none) (tmps os vs ++ (v, .od ds) :: B) σ H := R0.perm List.perm_middle.symm
          obtain ⟨R2, l⟩ := takeA_ok (ρ' := z.2) (ts := z.1) R1 a.2 q
          exact ⟨R2.perm List.perm_middle, by simp [l]⟩
  | [], _ :: _, _, _, _, _, _, a, _ => a.elim
  | _ :: _, [], _, _, _, _, _, a, _ => a.elim
theorem putA_ok {G H : Hp} {σ : St} : ∀ {os : List Opd} {vs : List V} {ts us : List T} {ρ : Rho} {B : List (V × T)}, Rel G ρ (vs.zip us ++ B) σ H → ats os vs σ → ts.length = os.length → us.length = os.length →
    Rel G (putA os ts us ρ) B σ H
  | [], [], _, _, ρ, B, R, a, l1, l2 => R
  | .tmp t :: os, v :: vs, t0 :: ts, u :: us, ρ, B, R, a, l1, l2 => by
    have R1 : Rel G ρ (vs.zip us ++ B) σ H := R.sub (List.sublist_cons_self _ _)
    have := putA_ok (os := os) (ts := ts) (us := us) R1 a.2 (by simpa using l1) (by simpa using l2)
    simpa only [putA] using this
  | .sl i :: os, v :: vs, t0 :: ts, u :: us, ρ, B, R, a, l1, l2 => by
    have av : σ[i]? = some (some v) := a.1
    cases t0 with
    | fz d =>
      have R1 : Rel G ρ (vs.zip us ++ B) σ H := R.sub (List.sublist_cons_self _ _)
      have := putA_ok (os := os) (ts := ts) (us := us) R1 a.2 (by simpa using l1) (by simpa using l2)
      simpa only [putA] using this
    | ol ds =>
      have R1 : Rel G (ρ.set i (some u)) (vs.zip us ++ B) σ H := Rel.lay R av
      have := putA_ok (os := os) (ts := ts) (us := us) R1 a.2 (by simpa using l1) (by simpa using l2)
      simpa only [putA] using this
    | od ds =>
      have R1 : Rel G (ρ.set i (some u)) (vs.zip us ++ B) σ H := Rel.lay R av
      have := putA_ok (os := os) (ts := ts) (us := us) R1 a.2 (by simpa using l1) (by simpa using l2)
      simpa only [putA] using this
  | [], _ :: _, _, _, _, _, _, a, _, _ => a.elim
  | _ :: _, [], _, _, _, _, _, a, _, _ => a.elim
  | _ :: _, _ :: _, [], _, _, _, _, _, l1, _ => by simp at l1
  | _ :: _, _ :: _, _ :: _, [], _, _, _, _, _, l2 => by simp at l2
theorem ats_len : ∀ {os : List Opd} {vs : List V} {σ : St}, ats os vs σ → os.length = vs.length
  | [], [], _, _ => rfl
  | o :: os, v :: vs, σ, a => congrArg (· + 1) (ats_len a.2)
  | [], _ :: _, _, a => a.elim
  | _ :: _, [], _, a => a.elim
theorem putA_more : ∀ {os : List Opd} {ts us xs ys : List T} {ρ : Rho}, ts.length = os.length → us.length = os.length → putA os (ts ++ xs) (us ++ ys) ρ = putA os ts us ρ
  | [], _, _, _, _, _, _, _ => by simp [putA]
  | .tmp t :: os, t0 :: ts, u :: us, xs, ys, ρ, l1, l2 => by
    simp only [List.cons_append, putA]
    exact putA_more (by simpa using l1) (by simpa using l2)
  | .sl i :: os, t0 :: ts, u :: us, xs, ys, ρ, l1, l2 => by
    cases t0 with
    | fz d => simp only [List.cons_append, putA]; exact putA_more (by simpa using l1) (by simpa using l2)
    | ol d => simp only [List.cons_append, putA]; exact putA_more (by simpa using l1) (by simpa using l2)
    | od d => simp only [List.cons_append, putA]; exact putA_more (by simpa using l1) (by simpa using l2)
  | _ :: _, [], _, _, _, _, l1, _ => by simp at l1
  | _ :: _, _ :: _, [], _, _, _, _, l2 => by simp at l2
/-- what a call asks -/
theorem spF_of {Φ : Fx} {X : Cx} {f : Str} {np : Nat} {os : List Opd} {vs zs : List V} {ds : List D} {G H : Hp} {ρ : Rho} {τ : List (V × T)} {σ : St} {Q : VK} {E : XK}
    (R : Rel G ρ (pushes os vs τ) σ H) (a : ats os vs σ) (hz : Paired (fun z d => scV d = some z) zs ds) (hn : os.length + ds.length = np)
    (h : wpR (callF Φ f os ds ρ) (fun t ρ' => ∀ v G' H', Same G G' → Rel G' ρ' ((v, t) :: τ) σ H' → Q v H') (fun x ρ' => ∀ cls d G' H', ExOk X.K X.mg x cls d G' H' → Same G G' → Rel G' ρ' τ σ H' → E cls d H')) :
    spF Φ X.K X.mg f np (vs ++ zs) H Q E := by
  unfold callF at h
  cases q : takeA os ρ with
  | none => rw [q] at h; exact h.elim
  | some z =>
    obtain ⟨ts, ρ'⟩ := z
    rw [q] at h
    simp only at h
    obtain ⟨R1, l⟩ := takeA_ok (R.perm (pushes_perm os vs τ)) a q
    have lv := ats_len a
    have lz : zs.length = ds.length := Paired.length hz
    have zipped : ∀ us : List T, us.length = np → (vs ++ zs).zip us = vs.zip (us.take os.length) ++ zs.zip (us.drop os.length) := fun us hu => by
      have e : us = us.take os.length ++ us.drop os.length := (List.take_append_drop _ _).symm
      conv => lhs; rw [e]
      rw [List.zip_append (by rw [List.length_take]; omega)]
    have rz : ∀ {zs : List V} {ds : List D}, Paired (fun z d => scV d = some z) zs ds → RqAll G zs ds := fun {zs ds} hz => by
      induction hz with
      | nil => exact .nil
      | cons e _ ih =>
        rename_i z d _ _ _
        refine .cons ?_ ih
        cases d <;> cases e
        · exact .non
        · exact .bl _
        · exact .int _
        · exact .str _
    have hT : (ts ++ ds.map T.fz).length = np := by rw [List.length_append, List.length_map]; omega
    refine ⟨G, ts ++ ds.map T.fz, its σ ρ' ++ τ, R1.same, ?_, by rw [List.length_append]; omega, hT, ?_⟩
    · rw [zipped _ hT, List.take_left' (by omega), List.drop_left' (by omega)]
      have h1 : Held G H (zs.zip (ds.map T.fz) ++ (its σ ρ' ++ (vs.zip ts ++ τ))) := R1.held.addAll (rz hz)
      refine h1.perm ?_
      rw [List.append_assoc]
      exact (List.Perm.append_left _ (List.perm_append_comm_assoc _ _ _)).trans (List.perm_append_comm_assoc _ _ _)
    · have back : ∀ {us : List T} {G' H' : Hp} {A : List (V × T)}, us.length = np → Same G' H' → Held G' H' (A ++ ((vs ++ zs).zip us ++ (its σ ρ' ++ τ))) → Rel G' (putA os ts us ρ') (A ++ τ) σ H' := fun {us G' H' A} hu s2 hh => by
        have hh2 : Held G' H' (its σ ρ' ++ (vs.zip (us.take os.length) ++ (A ++ τ))) := by
          rw [zipped us hu] at hh
          have h3 : Held G' H' (zs.zip (us.drop os.length) ++ (its σ ρ' ++ (vs.zip (us.take os.length) ++ (A ++ τ)))) := by
            refine hh.perm ?_
            rw [List.append_assoc]
            refine (List.Perm.append_left _ (List.perm_append_comm_assoc _ _ _)).trans ?_
            refine (List.perm_append_comm_assoc _ _ _).trans (List.Perm.append_left _ ?_)
            refine (List.Perm.append_left _ (List.perm_append_comm_assoc _ _ _)).trans ?_
            refine (List.perm_append_comm_assoc _ _ _).trans (List.Perm.append_left _ ?_)
            exact List.perm_append_comm_assoc _ _ _
          exact h3.right
        have Rn : Rel G' ρ' (vs.zip (us.take os.length) ++ (A ++ τ)) σ H' := ⟨s2, R1.slots, hh2⟩
        have := putA_ok (os := os) (ts := ts) (us := us.take os.length) Rn a l (by rw [List.length_take]; omega)
        have e : us = us.take os.length ++ us.drop os.length := (List.take_append_drop _ _).symm
        have e2 : putA os ts us ρ' = putA os ts (us.take os.length) ρ' := by
          have q3 := putA_more (os := os) (ts := ts) (us := us.take os.length) (xs := []) (ys := us.drop os.length) (ρ := ρ') l (by rw [List.length_take]; omega)
          rw [← e, List.append_nil] at q3
          exact q3
        rw [e2]
        exact this
      cases hc : Φ.call f (ts ++ ds.map T.fz) with
      | ok t us =>
        rw [hc] at h
        simp only at h ⊢
        intro hu v G' H' s1 s2 hh
        exact h v G' H' s1 (back (A := [(v, t)]) hu s2 hh)
      | exc x us =>
        rw [hc] at h
        simp only at h ⊢
        intro hu cls d G' H' e s1 s2 hh
        exact h cls d G' H' e s1 (back (A := []) hu s2 hh)
      | no =>
        rw [hc] at h
        exact h.elim
end L2.Eng

/-! EngD4: expressions, one by one. -/
namespace L2.Eng
open PySem PySem.Spec PyProof.Rows

theorem nameOk_split {c : Ctx} {i : Nat} {x : Str} (h : c.nameOk i x = true) : c.N[i]? = some x ∧ visB c.sc x = true ∧ noDbg x = true := by
  unfold Ctx.nameOk at h
  simp only [Bool.and_eq_true, decide_eq_true_eq] at h
  exact ⟨h.1.1, h.1.2, h.2⟩
theorem noDbg_split {x : Str} (h : noDbg x = true) : (x == ("__debug__" : Str)) = false ∧ (x == ("__classdict__" : Str)) = false ∧ x ≠ "__name__" := by
  unfold noDbg at h
  simp only [Bool.and_eq_true, Bool.not_eq_true', decide_eq_false_iff_not] at h
  exact ⟨h.1.1, h.1.2, h.2⟩
theorem bltOk_split {c : Ctx} {x : Str} (h : c.bltOk x = true) : glbB c.sc x = true ∧ noDbg x = true ∧ x ∈ c.tb.bls := by
  unfold Ctx.bltOk at h
  simp only [Bool.and_eq_true, decide_eq_true_eq] at h
  exact ⟨h.1.1, h.1.2, h.2⟩
theorem star1 {e : Expr} (h : noStar e = true) (es : List Expr) (env : Env) : starEach (e :: es) env = (false, eval e env) :: starEach es env := by
  cases e <;> first | rfl | cases h
theorem ckEs_star {c : Ctx} : ∀ {es : Es} {xs : List Expr}, ckEs c es xs = true → ∀ x ∈ xs, noStar x = true
  | .nil, [], _ => fun x h => nomatch h
  | .cons e es, x :: xs, h => by
    simp only [ckEs, Bool.and_eq_true] at h
    intro y hy
    rcases List.mem_cons.mp hy with rfl | hy
    · exact h.1.2
    · exact ckEs_star h.2 y hy
  | .nil, _ :: _, h => by simp [ckEs] at h
  | .cons _ _, [], h => by simp [ckEs] at h
theorem ckEs_len {c : Ctx} : ∀ {es : Es} {xs : List Expr}, ckEs c es xs = true → xs.length = es.len
  | .nil, [], _ => rfl
  | .cons e es, x :: xs, h => by
    simp only [ckEs, Bool.and_eq_true] at h
    exact congrArg (· + 1) (ckEs_len h.2)
  | .nil, _ :: _, h => by simp [ckEs] at h
  | .cons _ _, [], h => by simp [ckEs] at h
theorem plainAll {pos : Pos} {env : Env} : ∀ {xs : List Expr}, (∀ x ∈ xs, noStar x = true) → (backTo pos (starEach xs env)).any (·.1) = false
  | [], _ => rfl
  | x :: xs, h => by
    rw [star1 (h x (List.mem_cons_self ..))]
    show (false || (backTo pos (starEach xs env)).any (·.1)) = false
    rw [plainAll fun y hy => h y (List.mem_cons_of_mem _ hy)]
    rfl
section
variable {Φ : Fx} {W : WX} {c : Ctx} {X : Cx}
theorem XOk.blt (ok : XOk Φ W c X) {x : Str} (h : c.bltOk x = true) : Gl X x ∧ X.mg x = none ∧ (x == ("__debug__" : Str)) = false ∧ x ≠ "__name__" := by
  obtain ⟨h1, h2, h3⟩ := bltOk_split h
  obtain ⟨k, _, m⟩ := ok.mod
  exact ⟨ok.scp.gl x h1, m.bl x h3, (noDbg_split h2).1, (noDbg_split h2).2.2⟩

/-! ### names, constants -/
theorem d_var (ok : XOk Φ W c X) {i : Nat} {x : Str} {pos : Pos} (h : c.nameOk i x = true) : PE X (.Name x pos) (tVar i) := by
  obtain ⟨h1, h2, h3⟩ := nameOk_split h
  exact pe_var (by rw [ok.hN]; exact h1) (ok.scp.vis x h2) (noDbg_split h3).1 (noDbg_split h3).2.1
theorem d_nm (ok : XOk Φ W c X) {i : Nat} {x : Str} {pos : Pos} (h : c.nameOk i x = true) : PE X (.Name x pos) (tO X W (ev2 Φ (.nm i)).1) := by
  refine (d_var ok h).weak fun σ H Q ⟨G, ρ, τ, R, h⟩ => ?_
  simp only [ev2, dfl] at h
  cases q : slotT ρ i with
  | none => rw [q] at h; exact h.elim
  | some t =>
    rw [q] at h
    obtain ⟨v, e, _⟩ := R.slot (slotT_some q)
    exact ⟨v, e, h v G H (Same.refl _) R e⟩
theorem d_mv (ok : XOk Φ W c X) {i : Nat} {x : Str} {pos : Pos} (h : c.nameOk i x = true) : PE X (.Name x pos) (tO X W (ev2 Φ (.mv i)).1) := by
  refine (d_var ok h).weak fun σ H Q ⟨G, ρ, τ, R, h⟩ => ?_
  simp only [ev2, dfl] at h
  exact h.elim
theorem d_take (ok : XOk Φ W c X) {i : Nat} {x : Str} {pos : Pos} (h : c.nameOk i x = true) : PE X (.Name x pos) (tT X W (takeSlot i)) := by
  refine (d_var ok h).weak fun σ H Q ⟨G, ρ, τ, R, h⟩ => ?_
  unfold takeSlot at h
  cases q : slotT ρ i with
  | none => rw [q] at h; exact h.elim
  | some t =>
    rw [q] at h
    simp only [Option.bind_some] at h
    cases e : t.view with
    | none => rw [e] at h; exact h.elim
    | some d =>
      rw [e] at h
      obtain ⟨v, ev, R1⟩ := R.out (slotT_some q)
      obtain ⟨G', s1, R2⟩ := R1.freeze e
      have R3 := Rel.lay (R2.addFz R2.fz) ev
      rw [List.set_set] at R3
      exact ⟨v, ev, h v G' H s1 R3⟩
theorem d_move (ok : XOk Φ W c X) {i : Nat} {x : Str} {pos : Pos} (h : c.nameOk i x = true) : PE X (.Name x pos) (tT X W (moveSlot i)) := by
  refine (d_var ok h).weak fun σ H Q ⟨G, ρ, τ, R, h⟩ => ?_
  unfold moveSlot at h
  cases q : slotT ρ i with
  | none => rw [q] at h; exact h.elim
  | some t =>
    rw [q] at h
    obtain ⟨v, ev, R1⟩ := R.out (slotT_some q)
    exact ⟨v, ev, h v G H (Same.refl _) R1⟩
theorem d_const {e : Expr} {v : V} {d : D} (h : PE X e (tC v)) (r : ∀ G, Rq G v d) : PE X e (tO X W fun ρ => .ok (.tmp (.fz d)) ρ) :=
  h.weak fun σ H Q ⟨G, ρ, τ, R, h⟩ => h v G H (Same.refl _) (R.addFz (r G)) trivial
theorem scV_rq {d : D} {z : V} (e : scV d = some z) (G : Hp) : Rq G z d := by
  cases d <;> cases e
  · exact .non
  · exact .bl _
  · exact .int _
  · exact .str _
theorem d_glb (ok : XOk Φ W c X) {x : Str} {d : D} {pos : Pos} (hg : glbB c.sc x = true) (hd : noDbg x = true) (hf : flatD d = true) (hl : c.tb.gls.lookup x = some d) : PE X (.Name x pos) (tO X W fun ρ => .ok (.tmp (.fz d)) ρ) := by
  obtain ⟨k, _, m⟩ := ok.mod
  obtain ⟨u, hm, hr⟩ := m.gl x d hl
  obtain ⟨z, e⟩ := scV_flat hf
  exact d_const (pe_glob (ok.scp.gl x hg) hm (hr z e) (noDbg_split hd).1) (scV_rq e)
/-! ### taken, frozen -/
theorem d_tmp {e : Expr} {o : Rho → R Opd} (h : PE X e (tO X W o)) : PE X e (tT X W fun ρ => (o ρ).bind fun x ρ1 => match x with | .tmp t => .ok t ρ1 | .sl _ => .no) :=
  h.weak fun σ H Q ⟨G, ρ, τ, R, h⟩ => by
    rw [wpR_bind] at h
    refine tO.step R h (fun _ _ z => z) fun o ρ' v G' H' p s1 R1 a => ?_
    cases o with
    | tmp t => exact p v G' H' s1 R1
    | sl i => exact p.elim
theorem d_asT (ok : XOk Φ W c X) {a : E} {e : Expr} (hc : ckE c a e = true) (h : PE X e (tO X W (ev2 Φ a).1)) : PE X e (tT X W (asT a (ev2 Φ a).1)) := by
  cases a with
  | nm i =>
    cases e <;> simp only [ckE] at hc <;> try contradiction
    exact d_take ok hc
  | mv i =>
    cases e <;> simp only [ckE] at hc <;> try contradiction
    exact d_move ok hc
  | _ => exact d_tmp h
theorem d_frz {e : Expr} {f : Rho → R T} (h : PE X e (tT X W f)) : PE X e (tD X W fun ρ => frz (f ρ)) :=
  h.weak fun σ H Q ⟨G, ρ, τ, R, h⟩ => by
    unfold frz at h
    rw [wpR_bind] at h
    refine tT.step R h (fun _ _ z => z) fun t ρ' v G' H' p s1 R1 => ?_
    obtain ⟨d, e, p⟩ := wpR_of p
    obtain ⟨G2, s2, R2⟩ := R1.freeze e
    exact p v G2 H' (s1.trans s2) (R2.sub (List.sublist_cons_self _ _)) R2.fz
/-! ### truth -/
theorem d_truth {e : Expr} {o : Rho → R Opd} (h : PE X e (tO X W o)) (he : plainT e = true) : PT X e (tK X W (dfl o).2) := by
  have hp : ∀ whole, isTrue e X.env whole = (do let v ← whole; standAt e.pos; holding [v] (truthy v)) := by
    intro whole
    cases e <;> first | rfl | cases he | skip
    case UnaryOp op x p => cases op <;> first | rfl | cases he
  refine (pt_truth h hp).weak fun σ H Q ⟨G, ρ, τ, R, h⟩ => ?_
  simp only [dfl] at h
  rw [wpR_bind] at h
  refine tO.step R h (fun _ _ z => z) fun o ρ' v G' H' p s1 R1 a => ?_
  obtain ⟨k, e, p⟩ := wpR_of p
  cases ed : o.see ρ' with
  | none => rw [ed] at e; cases e
  | some d =>
    rw [ed] at e
    have w : Vw G' H' v d := Opd.vw (A := []) R1 a ed
    exact ⟨k, w.truth R1.same e, p G' H' s1 (R1.sub (Opd.sub _ _ _))⟩
/-! ### operators -/
theorem bind2 {α : Type} {x y : Option D} {f : D → D → Option α} {a : α} (h : (x.bind fun d => y.bind fun e => f d e) = some a) : ∃ d e, x = some d ∧ y = some e ∧ f d e = some a := by
  cases x with
  | none => cases h
  | some d => cases y with
    | none => cases h
    | some e => exact ⟨d, e, rfl, rfl, h⟩
theorem Opd.vw2 {G H : Hp} {ρ : Rho} {τ : List (V × T)} {σ : St} {o p : Opd} {v w : V} {d : D} (R : Rel G ρ (p.push w (o.push v τ)) σ H) (a : o.at_ v σ) (e : o.see ρ = some d) : Vw G H v d := by
  cases p with
  | tmp t => exact Opd.vw (A := [(w, t)]) R a e
  | sl i => exact Opd.vw (A := []) R a e
theorem Opd.sub2 (o p : Opd) (v w : V) (τ : List (V × T)) : τ.Sublist (p.push w (o.push v τ)) := (Opd.sub o v τ).trans (Opd.sub p w _)
/-- two operands, one behind the other -/
theorem d_two {a b : Expr} {oa ob : Rho → R Opd} {K : V → V → Hp → Prop} {G H : Hp} {ρ : Rho} {τ : List (V × T)} {σ : St} {P : Opd → Opd → Rho → Prop}
    (R : Rel G ρ τ σ H) (h : wpR (oa ρ) (fun x ρ1 => wpR (ob ρ1) (fun y ρ2 => P x y ρ2) (ExP X W G τ σ)) (ExP X W G τ σ))
    (k : ∀ x y v w ρ2 G2 H2, P x y ρ2 → Same G G2 → Rel G2 ρ2 (y.push w (x.push v τ)) σ H2 → x.at_ v σ → y.at_ w σ → K v w H2) :
    tO X W oa σ H fun v H1 => tO X W ob σ H1 fun w H2 => K v w H2 := by
  refine tO.step R h (fun _ _ z => z) fun x ρ1 v G1 H1 p s1 R1 a1 => ?_
  refine tO.step R1 p (fun _ _ z => z.mono s1 (Opd.sub _ _ _)) fun y ρ2 w G2 H2 q s2 R2 a2 => ?_
  exact k x y v w ρ2 G2 H2 q (s1.trans s2) R2 a1 a2
theorem d_bin (op : Operator) {a b : Expr} {oa ob : Rho → R Opd} {pos : Pos} (ha : PE X a (tO X W oa)) (hb : PE X b (tO X W ob)) :
    PE X (.BinOp a op b pos) (tO X W fun ρ => (oa ρ).bind fun x ρ1 => (ob ρ1).bind fun y ρ2 => R.of ((x.see ρ2).bind fun d => (y.see ρ2).bind fun e => (binD op d e).map Opd.tmp) ρ2) := by
  refine (pe_op (op_bin op) ha hb).weak fun σ H Q ⟨G, ρ, τ, R, h⟩ => ?_
  simp only [wpR_bind] at h
  refine d_two (a := a) (b := b) R h fun x y v w ρ2 G2 H2 p s R2 a1 a2 => ?_
  obtain ⟨o, e, p⟩ := wpR_of p
  obtain ⟨d, f, e1, e2, e⟩ := bind2 e
  cases eb : binD op d f with
  | none => rw [eb] at e; cases e
  | some t =>
    rw [eb] at e
    cases e
    refine ⟨G2, d, f, t, R2.same, Opd.vw2 R2 a1 e1, Opd.vw (A := []) R2 a2 e2, eb, fun v' H' n => ?_⟩
    obtain ⟨G3, s3, R3⟩ := (R2.sub (Opd.sub2 _ _ _ _ _)).new n
    exact p v' G3 H' (s.trans s3) R3 trivial
theorem noSet_in {e : Expr} (h : noSet e = true) (op : CmpOp) : behindInMarks op e = false := by
  cases e <;> first | rfl | cases h
theorem d_cmpK {op : CmpOp} {a b : Expr} {oa ob : Rho → R Opd} {G H : Hp} {ρ : Rho} {τ : List (V × T)} {σ : St} {P : Bool → Rho → Prop} {K : VK}
    (R : Rel G ρ τ σ H) (h : wpR (cmpB op oa ob ρ) P (ExP X W G τ σ)) (k : ∀ b ρ2 G2 H2, P b ρ2 → Same G G2 → Rel G2 ρ2 τ σ H2 → K (.bl b) H2) : tOp (rCmp op) (tO X W oa) (tO X W ob) σ H K := by
  simp only [cmpB, wpR_bind] at h
  refine d_two (a := a) (b := b) R h fun x y v w ρ2 G2 H2 p s R2 a1 a2 => ?_
  obtain ⟨o, e, p⟩ := wpR_of p
  obtain ⟨d, f, e1, e2, e⟩ := bind2 e
  exact ⟨G2, d, f, o, R2.same, Opd.vw2 R2 a1 e1, Opd.vw (A := []) R2 a2 e2, e, k o ρ2 G2 H2 p s (R2.sub (Opd.sub2 _ _ _ _ _))⟩
theorem d_cmp (ok : XOk Φ W c X) (op : CmpOp) {a b : Expr} {oa ob : Rho → R Opd} {pos : Pos} (ha : PE X a (tO X W oa)) (hb : PE X b (tO X W ob)) (hs : noSet b = true) :
    PE X (.Compare a [op] [b] pos) (tO X W fun ρ => ofB (cmpB op oa ob ρ)) ∧ PT X (.Compare a [op] [b] pos) (tK X W (cmpB op oa ob)) := by
  have hu := ok.hu
  refine ⟨(pe_cmpR (op_cmp (by omega) op) ha hb (noSet_in hs op)).weak fun σ H Q ⟨G, ρ, τ, R, h⟩ => ?_, (pt_cmpR (op_cmp (by omega) op) ha hb (noSet_in hs op)).weak fun σ H Q ⟨G, ρ, τ, R, h⟩ => ?_⟩
  · simp only [ofB, wpR_map] at h
    exact d_cmpK (a := a) (b := b) R h fun b ρ2 G2 H2 p s R2 => p _ G2 H2 s (R2.addFz (.bl b)) trivial
  · exact d_cmpK (a := a) (b := b) R h fun b ρ2 G2 H2 p s R2 => ⟨b, rfl, p G2 H2 s R2⟩
end
end L2.Eng

/-! EngD5: more expressions. -/
namespace L2.Eng
open PySem PySem.Spec PyProof.Rows

section
variable {Φ : Fx} {W : WX} {c : Ctx} {X : Cx}
theorem d_neg {a : Expr} {oa : Rho → R Opd} {pos : Pos} (ha : PE X a (tO X W oa)) :
    PE X (.UnaryOp .USub a pos) (tO X W fun ρ => (oa ρ).bind fun x ρ1 => R.of ((x.see ρ1).bind fun d => (negD d).map fun e => .tmp (.fz e)) ρ1) := by
  refine (pe_un un_neg ha).weak fun σ H Q ⟨G, ρ, τ, R, h⟩ => ?_
  rw [wpR_bind] at h
  refine tO.step R h (fun _ _ z => z) fun x ρ1 v G1 H1 p s1 R1 a1 => ?_
  obtain ⟨o, e, p⟩ := wpR_of p
  cases ed : x.see ρ1 with
  | none => rw [ed] at e; cases e
  | some d =>
    rw [ed] at e
    cases d with
    | int i =>
      cases e
      have w : Vw G1 H1 v (.int i) := Opd.vw (A := []) R1 a1 ed
      exact ⟨i, w.int, p (.int (-i)) G1 H1 s1 ((R1.sub (Opd.sub _ _ _)).addFz (.int _)) trivial⟩
    | _ => cases e
theorem d_chnK {o1 o2 : CmpOp} {a b : Expr} {oa ob oc : Rho → R Opd} {G H : Hp} {ρ : Rho} {τ : List (V × T)} {σ : St} {P : Bool → Rho → Prop} {K : VK}
    (R : Rel G ρ τ σ H) (h : wpR (chnB o1 o2 oa ob oc ρ) P (ExP X W G τ σ))
    (k : ∀ b ρ2 G2 H2, P b ρ2 → Same G G2 → Rel G2 ρ2 τ σ H2 → K (.bl b) H2) : tChain (rCmp o1) (rCmp o2) (tO X W oa) (tO X W ob) (tO X W oc) σ H K := by
  simp only [chnB, wpR_bind] at h
  refine d_two (a := a) (b := b) R h fun x y v w ρ2 G2 H2 p s R2 a1 a2 => ?_
  cases ex : x.see ρ2 with
  | none => rw [ex] at p; exact p.elim
  | some d1 => cases ey : y.see ρ2 with
    | none => rw [ex, ey] at p; exact p.elim
    | some d2 =>
      rw [ex, ey] at p
      simp only [Option.bind_some] at p
      cases ec : cmpD o1 d1 d2 with
      | none => rw [ec] at p; exact p.elim
      | some b1 =>
        rw [ec] at p
        refine ⟨G2, d1, d2, b1, R2.same, Opd.vw2 R2 a1 ex, Opd.vw (A := []) R2 a2 ey, ec, b1, rfl, ?_⟩
        cases b1 with
        | false => exact k false ρ2 G2 H2 p s (R2.sub (Opd.sub2 _ _ _ _ _))
        | true =>
          simp only [wpR_bind] at p
          rw [if_pos rfl]
          refine tO.step R2 p (fun _ _ z => z.mono s (Opd.sub2 _ _ _ _ _)) fun z ρ3 u G3 H3 q s3 R3 a3 => ?_
          obtain ⟨o, e, q⟩ := wpR_of q
          obtain ⟨e1, e2, f1, f2, e⟩ := bind2 e
          exact ⟨G3, e1, e2, o, R3.same, Opd.vw2 R3 a2 f1, Opd.vw (A := []) R3 a3 f2, e, k o ρ3 G3 H3 q (s.trans s3) (R3.sub ((Opd.sub2 _ _ _ _ _).trans (Opd.sub _ _ _)))⟩
theorem d_chn (ok : XOk Φ W c X) (o1 o2 : CmpOp) {a b d : Expr} {oa ob oc : Rho → R Opd} {pos : Pos} (ha : PE X a (tO X W oa)) (hb : PE X b (tO X W ob)) (hc : PE X d (tO X W oc)) (hs : noSet d = true) :
    PE X (.Compare a [o1, o2] [b, d] pos) (tO X W fun ρ => ofB (chnB o1 o2 oa ob oc ρ)) ∧ PT X (.Compare a [o1, o2] [b, d] pos) (tK X W (chnB o1 o2 oa ob oc)) := by
  have hu := ok.hu
  have hm : lastMarks [o1, o2] [b, d] = false := by show behindInMarks o2 d = false; exact noSet_in hs o2
  refine ⟨(pe_chain (op_cmp (by omega) o1) (op_cmp (by omega) o2) ha hb hc hm).weak fun σ H Q ⟨G, ρ, τ, R, h⟩ => ?_, (pt_chain (op_cmp (by omega) o1) (op_cmp (by omega) o2) ha hb hc hm).weak fun σ H Q ⟨G, ρ, τ, R, h⟩ => ?_⟩
  · simp only [ofB, wpR_map] at h
    exact d_chnK (a := a) (b := b) R h fun b ρ2 G2 H2 p s R2 => p _ G2 H2 s (R2.addFz (.bl b)) trivial
  · exact d_chnK (a := a) (b := b) R h fun b ρ2 G2 H2 p s R2 => ⟨b, rfl, p G2 H2 s R2⟩
/-! ### and, or, not, a if b else c -/
theorem truth_of {G H : Hp} {K : PySem.W.Frag} {ρ : Rho} {τ : List (V × T)} {σ : St} {v : V} {t : T} {k : Bool} (R : Rel G ρ ((v, t) :: τ) σ H) (e : t.view.bind truthD = some k) : TruV K v H k := by
  cases q : t.view with
  | none => rw [q] at e; cases e
  | some d => rw [q] at e; exact (R.first.vw q).truth R.same e
theorem d_and {a b : Expr} {rest : List Expr} {A B : Rho → R T} {pos : Pos} (ha : PE X a (tT X W A)) (hb : PE X (.BoolOp .And (b :: rest) pos) (tT X W B)) :
    PE X (.BoolOp .And (a :: b :: rest) pos) (tO X W fun ρ => (A ρ).bind fun t ρ1 => match t.view.bind truthD with
    | none => .no
    | some false => .ok (.tmp t) ρ1
    | some true => (B ρ1).map .tmp) := by
  refine (pe_andT ha hb).weak fun σ H Q ⟨G, ρ, τ, R, h⟩ => ?_
  rw [wpR_bind] at h
  refine tT.step R h (fun _ _ z => z) fun t ρ1 v G1 H1 p s1 R1 => ?_
  cases e : t.view.bind truthD with
  | none => rw [e] at p; exact p.elim
  | some k =>
    rw [e] at p
    refine ⟨k, truth_of R1 e, ?_⟩
    cases k with
    | false => exact p v G1 H1 s1 R1 trivial
    | true =>
      simp only [wpR_map] at p
      rw [if_pos rfl]
      exact tT.step (R1.sub (List.sublist_cons_self _ _)) p (fun _ _ z => z.mono s1 (.refl _)) fun t2 ρ2 w G2 H2 q s2 R2 => q w G2 H2 (s1.trans s2) R2 trivial
theorem d_or {a b : Expr} {rest : List Expr} {A B : Rho → R T} {pos : Pos} (ha : PE X a (tT X W A)) (hb : PE X (.BoolOp .Or (b :: rest) pos) (tT X W B)) :
    PE X (.BoolOp .Or (a :: b :: rest) pos) (tO X W fun ρ => (A ρ).bind fun t ρ1 => match t.view.bind truthD with
    | none => .no
    | some true => .ok (.tmp t) ρ1
    | some false => (B ρ1).map .tmp) := by
  refine (pe_orT ha hb).weak fun σ H Q ⟨G, ρ, τ, R, h⟩ => ?_
  rw [wpR_bind] at h
  refine tT.step R h (fun _ _ z => z) fun t ρ1 v G1 H1 p s1 R1 => ?_
  cases e : t.view.bind truthD with
  | none => rw [e] at p; exact p.elim
  | some k =>
    rw [e] at p
    refine ⟨k, truth_of R1 e, ?_⟩
    cases k with
    | true => exact p v G1 H1 s1 R1 trivial
    | false =>
      simp only [wpR_map] at p
      rw [if_neg Bool.false_ne_true]
      exact tT.step (R1.sub (List.sublist_cons_self _ _)) p (fun _ _ z => z.mono s1 (.refl _)) fun t2 ρ2 w G2 H2 q s2 R2 => q w G2 H2 (s1.trans s2) R2 trivial
theorem d_andT {a b : Expr} {rest : List Expr} {A B : Rho → R Bool} {pos : Pos} (ha : PT X a (tK X W A)) (hb : PW X (.BoolOp .And (b :: rest) pos) (tK X W B)) :
    PW X (.BoolOp .And (a :: b :: rest) pos) (tK X W fun ρ => (A ρ).bind fun k ρ1 => if k then B ρ1 else .ok false ρ1) := by
  refine (pw_and ha hb).weak fun σ H Q ⟨G, ρ, τ, R, h⟩ => ?_
  rw [wpR_bind] at h
  refine tK.step R h (fun _ _ z => z) fun k ρ1 G1 H1 p s1 R1 => ?_
  cases k with
  | false => exact p G1 H1 s1 R1
  | true => exact tK.step R1 p (fun _ _ z => z.mono s1 (.refl _)) fun k2 ρ2 G2 H2 q s2 R2 => q G2 H2 (s1.trans s2) R2
theorem d_orT {a b : Expr} {rest : List Expr} {A B : Rho → R Bool} {pos : Pos} (ha : PT X a (tK X W A)) (hb : PW X (.BoolOp .Or (b :: rest) pos) (tK X W B)) :
    PW X (.BoolOp .Or (a :: b :: rest) pos) (tK X W fun ρ => (A ρ).bind fun k ρ1 => if k then .ok true ρ1 else B ρ1) := by
  refine (pw_or ha hb).weak fun σ H Q ⟨G, ρ, τ, R, h⟩ => ?_
  rw [wpR_bind] at h
  refine tK.step R h (fun _ _ z => z) fun k ρ1 G1 H1 p s1 R1 => ?_
  cases k with
  | true => exact p G1 H1 s1 R1
  | false => exact tK.step R1 p (fun _ _ z => z.mono s1 (.refl _)) fun k2 ρ2 G2 H2 q s2 R2 => q G2 H2 (s1.trans s2) R2
theorem d_not {a : Expr} {oa : Rho → R Opd} {pos : Pos} (ha : PE X a (tO X W oa)) :
    PE X (.UnaryOp .Not a pos) (tO X W fun ρ => (oa ρ).bind fun x ρ1 => R.of (((x.see ρ1).bind truthD).map fun k => .tmp (.fz (.bool (!k)))) ρ1) := by
  refine (pe_notT ha).weak fun σ H Q ⟨G, ρ, τ, R, h⟩ => ?_
  rw [wpR_bind] at h
  refine tO.step R h (fun _ _ z => z) fun x ρ1 v G1 H1 p s1 R1 a1 => ?_
  obtain ⟨o, e, p⟩ := wpR_of p
  cases ed : x.see ρ1 with
  | none => rw [ed] at e; cases e
  | some d =>
    rw [ed] at e
    simp only [Option.bind_some] at e
    cases ek : truthD d with
    | none => rw [ek] at e; cases e
    | some k =>
      rw [ek] at e
      cases e
      have w : Vw G1 H1 v d := Opd.vw (A := []) R1 a1 ed
      exact ⟨k, w.truth R1.same ek, p _ G1 H1 s1 ((R1.sub (Opd.sub _ _ _)).addFz (.bl _)) trivial⟩
theorem d_notT {a : Expr} {A : Rho → R Bool} {pos : Pos} (ha : PT X a (tK X W A)) : PT X (.UnaryOp .Not a pos) (tK X W fun ρ => (A ρ).map (!·)) := by
  refine (pt_not ha).weak fun σ H Q ⟨G, ρ, τ, R, h⟩ => ?_
  rw [wpR_map] at h
  exact tK.step R h (fun _ _ z => z) fun k ρ1 G1 H1 p s1 R1 => p G1 H1 s1 R1
theorem d_ite {t a b : Expr} {C : Rho → R Bool} {A B : Rho → R T} {pos : Pos} (hc : PT X t (tK X W C)) (ha : PE X a (tT X W A)) (hb : PE X b (tT X W B)) :
    PE X (.IfExp t a b pos) (tO X W fun ρ => (C ρ).bind fun k ρ1 => if k then (A ρ1).map .tmp else (B ρ1).map .tmp) := by
  refine (pe_ifExp hc ha hb).weak fun σ H Q ⟨G, ρ, τ, R, h⟩ => ?_
  rw [wpR_bind] at h
  refine tK.step R h (fun _ _ z => z) fun k ρ1 G1 H1 p s1 R1 => ?_
  cases k with
  | true =>
    rw [if_pos rfl] at p ⊢
    rw [wpR_map] at p
    exact tT.step R1 p (fun _ _ z => z.mono s1 (.refl _)) fun t2 ρ2 w G2 H2 q s2 R2 => q w G2 H2 (s1.trans s2) R2 trivial
  | false =>
    rw [if_neg Bool.false_ne_true] at p ⊢
    rw [wpR_map] at p
    exact tT.step R1 p (fun _ _ z => z.mono s1 (.refl _)) fun t2 ρ2 w G2 H2 q s2 R2 => q w G2 H2 (s1.trans s2) R2 trivial
/-! ### lists of expressions -/
theorem a_nilO : PA X [] (tOs X W fun ρ => .ok [] ρ) := pa_nil.weak fun σ H Q ⟨G, ρ, τ, R, h⟩ => h [] G H (Same.refl _) R trivial
theorem a_consO {e : Expr} {es : List Expr} {o : Rho → R Opd} {os : Rho → R (List Opd)} (he : PE X e (tO X W o)) (hes : PA X es (tOs X W os)) (hs : noStar e = true) :
    PA X (e :: es) (tOs X W fun ρ => (o ρ).bind fun x ρ1 => (os ρ1).map (x :: ·)) := by
  refine (pa_cons he hes (star1 hs _ _)).weak fun σ H Q ⟨G, ρ, τ, R, h⟩ => ?_
  simp only [wpR_bind, wpR_map] at h
  refine tO.step R h (fun _ _ z => z) fun x ρ1 v G1 H1 p s1 R1 a1 => ?_
  exact tOs.step R1 p (fun _ _ z => z.mono s1 (Opd.sub _ _ _)) fun xs ρ2 vs G2 H2 q s2 R2 a2 => q (v :: vs) G2 H2 (s1.trans s2) R2 ⟨a1, a2⟩
theorem a_nilD : PA X [] (tDs X W fun ρ => .ok [] ρ) := pa_nil.weak fun σ H Q ⟨G, ρ, τ, R, h⟩ => h [] G H (Same.refl _) R .nil
theorem a_consD {e : Expr} {es : List Expr} {o : Rho → R D} {os : Rho → R (List D)} (he : PE X e (tD X W o)) (hes : PA X es (tDs X W os)) (hs : noStar e = true) :
    PA X (e :: es) (tDs X W fun ρ => (o ρ).bind fun x ρ1 => (os ρ1).map (x :: ·)) := by
  refine (pa_cons he hes (star1 hs _ _)).weak fun σ H Q ⟨G, ρ, τ, R, h⟩ => ?_
  simp only [wpR_bind, wpR_map] at h
  refine tD.step R h (fun _ _ z => z) fun x ρ1 v G1 H1 p s1 R1 r1 => ?_
  exact tDs.step R1 p (fun _ _ z => z.mono s1 (.refl _)) fun xs ρ2 vs G2 H2 q s2 R2 r2 => q (v :: vs) G2 H2 (s1.trans s2) R2 (.cons (r1.mono s2) r2)
theorem d_lst {es : List Expr} {f : Rho → R (List D)} {pos : Pos} (h : PA X es (tDs X W f)) : PE X (.List es pos) (tO X W fun ρ => (f ρ).bind fun ds ρ1 => if ds.length ≤ sizeLine then .ok (.tmp (.ol ds)) ρ1 else .no) := by
  refine (pe_lst h).weak fun σ H Q ⟨G, ρ, τ, R, h⟩ => ?_
  rw [wpR_bind] at h
  refine tDs.step R h (fun _ _ z => z) fun ds ρ1 vs G1 H1 p s1 R1 r1 => ?_
  split at p
  · next hl =>
    refine ⟨by rw [r1.length]; exact hl, fun q hq => ?_⟩
    obtain ⟨G2, s2, R2⟩ := R1.new (.ol hq r1)
    exact p _ G2 _ (s1.trans s2) R2 trivial
  · exact p.elim
theorem d_tup {es : List Expr} {f : Rho → R (List D)} {pos : Pos} {k : Nat} (h : PA X es (tDs X W f)) : PE X (.Tuple es k pos) (tO X W fun ρ => (f ρ).bind fun ds ρ1 => if ds.length ≤ sizeLine then .ok (.tmp (.fz (.tuple ds))) ρ1 else .no) := by
  refine (pe_tup h).weak fun σ H Q ⟨G, ρ, τ, R, h⟩ => ?_
  rw [wpR_bind] at h
  refine tDs.step R h (fun _ _ z => z) fun ds ρ1 vs G1 H1 p s1 R1 r1 => ?_
  split at p
  · next hl =>
    refine ⟨by rw [r1.length]; exact hl, fun q hq => ?_⟩
    obtain ⟨G2, s2, R2⟩ := R1.new (.tup hq r1)
    exact p _ G2 _ (s1.trans s2) R2 trivial
  · exact p.elim
/-! ### subscripts -/
theorem d_idx {a b : Expr} {oa ob : Rho → R Opd} {pos : Pos} (ha : PE X a (tO X W oa)) (hb : PE X b (tO X W ob)) (hs : noSlice b = true) :
    PE X (.Subscript a b pos) (tO X W fun ρ => (oa ρ).bind fun x ρ1 => (ob ρ1).bind fun y ρ2 => R.of ((x.see ρ2).bind fun d => (y.see ρ2).bind fun e => (idxD d e).map fun f => .tmp (.fz f)) ρ2) := by
  have hp : PlainIx b := by
    intro o i
    cases b <;> first | rfl | cases hs
  refine (pe_ix ix_data ha hb hp).weak fun σ H Q ⟨G, ρ, τ, R, h⟩ => ?_
  simp only [wpR_bind] at h
  refine d_two (a := a) (b := b) R h fun x y v w ρ2 G2 H2 p s R2 a1 a2 => ?_
  obtain ⟨o, e, p⟩ := wpR_of p
  obtain ⟨d, f, e1, e2, e⟩ := bind2 e
  cases eb : idxD d f with
  | none => rw [eb] at e; cases e
  | some g =>
    rw [eb] at e
    cases e
    exact ⟨G2, d, f, g, R2.same, Opd.vw2 R2 a1 e1, Opd.vw (A := []) R2 a2 e2, eb, fun u r => p u G2 H2 s ((R2.sub (Opd.sub2 _ _ _ _ _)).addFz r) trivial⟩
theorem o_none : PO X none (tOI X W fun ρ => .ok none ρ) := po_none.weak fun σ H Q ⟨G, ρ, τ, R, h⟩ => h G H (Same.refl _) R
theorem o_some {e : Expr} {o : Rho → R Opd} (he : PE X e (tO X W o)) : PO X (some e) (tOI X W fun ρ => (o ρ).bind fun x ρ1 => R.of ((x.see ρ1).bind fun d => match d with | .int i => some (some i) | _ => none) ρ1) := by
  refine (po_some he).weak fun σ H Q ⟨G, ρ, τ, R, h⟩ => ?_
  rw [wpR_bind] at h
  refine tO.step R h (fun _ _ z => z) fun x ρ1 v G1 H1 p s1 R1 a1 => ?_
  obtain ⟨q, e, p⟩ := wpR_of p
  cases ed : x.see ρ1 with
  | none => rw [ed] at e; cases e
  | some d =>
    rw [ed] at e
    cases d with
    | int i =>
      cases e
      have w : Vw G1 H1 v (.int i) := Opd.vw (A := []) R1 a1 ed
      exact ⟨i, w.int, p G1 H1 s1 (R1.sub (Opd.sub _ _ _))⟩
    | _ => cases e
theorem d_slc {a : Expr} {lo hi : Option Expr} {oa : Rho → R Opd} {ol oh : Rho → R (Option Int)} {pos p2 : Pos} (ha : PE X a (tO X W oa)) (hl : PO X lo (tOI X W ol)) (hh : PO X hi (tOI X W oh)) :
    PE X (.Subscript a (.Slice lo hi none p2) pos) (tO X W fun ρ => (oa ρ).bind fun x ρ1 => (ol ρ1).bind fun l ρ2 => (oh ρ2).bind fun h ρ3 => R.of ((x.see ρ3).bind fun d => (slcD d l h).map Opd.tmp) ρ3) := by
  refine (pe_slice sl_data ha hl hh).weak fun σ H Q ⟨G, ρ, τ, R, h⟩ => ?_
  simp only [wpR_bind] at h
  refine tO.step R h (fun _ _ z => z) fun x ρ1 v G1 H1 p s1 R1 a1 => ?_
  refine tOI.step R1 p (fun _ _ z => z.mono s1 (Opd.sub _ _ _)) fun l ρ2 G2 H2 p s2 R2 => ?_
  refine tOI.step R2 p (fun _ _ z => z.mono (s1.trans s2) (Opd.sub _ _ _)) fun u ρ3 G3 H3 p s3 R3 => ?_
  obtain ⟨o, e, p⟩ := wpR_of p
  cases ed : x.see ρ3 with
  | none => rw [ed] at e; cases e
  | some d =>
    rw [ed] at e
    simp only [Option.bind_some] at e
    cases eb : slcD d l u with
    | none => rw [eb] at e; cases e
    | some t =>
      rw [eb] at e
      cases e
      refine ⟨G3, d, t, R3.same, Opd.vw (A := []) R3 a1 ed, eb, fun v' H' n => ?_⟩
      obtain ⟨G4, s4, R4⟩ := (R3.sub (Opd.sub _ _ _)).new n
      exact p v' G4 H' (((s1.trans s2).trans s3).trans s4) R4 trivial
end
end L2.Eng

/-! EngD6: calls and methods. -/
namespace L2.Eng
open PySem PySem.Spec PyProof.Rows

section
variable {Φ : Fx} {W : WX} {c : Ctx} {X : Cx}
/-- a def's call where the last parameters take their defaults and what is raised is wished for at these slots -/
theorem run_dflt {CX : CXT} {k : Nat} {f : Addr} {fd : FuncData} {ps : List Str} {sp : Sp} {dvs : List V} {ds : List Value} {E : XK} {pins : List (Addr × Obj)} {σ : St} {H : Hp} {s : Shared} {Q : VK} {us : List Value} {vs : List V}
    (F : FnOk X.prog X.w X.K X.mg X.base CX k f fd ps sp) (hr : Room k X.A) (hb : Binds X.K fd ps ds) (hd : Vals dvs ds) (hx : PassesAt CX X σ E) (I : Inv X pins σ H s) (r : Vals vs us) (h : sp (vs ++ dvs) H Q E) :
    wpAny (model X.prog X.w) X.A (call (.ref f) us) (EP X pins σ Q) X.xe s := by
  have both := r.append hd
  have size : (us ++ ds).length = ps.length := both.length.symm.trans (F.len _ _ _ _ h)
  have ran := F.run X.A X.stack s H ⟨us, []⟩ (us ++ ds) (vs ++ dvs) Q E hr I.env0 (hb s us I.kIn size) both h
  refine wpAny_call (codeAny_mono ran fun z s2 q => ?_)
  match z, q with
  | .error e, q => exact hx pins H s e s2 I q
  | .ok (.ret u), q => exact I.after q
  | .ok .next, q => exact q.elim
  | .ok .brk, q => exact q.elim
  | .ok .cont, q => exact q.elim
theorem d_call (ok : XOk Φ W c X) {f : Str} {as : List Expr} {os : Rho → R (List Opd)} {ds : List D} {p pos : Pos} {n : Nat} (hg : glbB c.sc f = true) (hd : noDbg f = true) (ha : PA X as (tOs X W os)) (hst : ∀ x ∈ as, noStar x = true)
    (hlen : ∀ ρ xs ρ', os ρ = .ok xs ρ' → xs.length = n) (h0' : as = [] → os = fun ρ => .ok [] ρ) (hfn : c.fnOk f n ds = true) :
    PE X (.Call (.Name f p) as [] pos) (tO X W fun ρ => (os ρ).bind fun xs ρ1 => (callF Φ f xs ds ρ1).map .tmp) := by
  obtain ⟨k, room, m⟩ := ok.mod
  unfold Ctx.fnOk at hfn
  cases hl : c.tb.fns.lookup f with
  | none => rw [hl] at hfn; cases hfn
  | some q =>
    obtain ⟨np, dfl⟩ := q
    rw [hl] at hfn
    simp only [Bool.and_eq_true, decide_eq_true_eq] at hfn
    obtain ⟨⟨⟨hn, hle⟩, hds⟩, hfl⟩ := hfn
    obtain ⟨a, fd, ps, hm, hk, hps, F, hb⟩ := m.fn f np dfl hl
    obtain ⟨us, zs, hz, hv, hbind⟩ := hb (dfl.length - ds.length) (by omega)
    rw [← dEqs_eq hds] at hz
    have red : ∀ {σ : St} {H : Hp} {Q : VK}, tO X W (fun ρ => (os ρ).bind fun xs ρ1 => (callF Φ f xs ds ρ1).map .tmp) σ H Q → tOs X W os σ H fun vs H1 => spF Φ X.K X.mg f np (vs ++ zs) H1 Q (WE W σ) := by
      intro σ H Q ⟨G, ρ, τ, R, h⟩
      simp only [wpR_bind, wpR_map] at h
      refine ⟨G, ρ, τ, R, ?_⟩
      cases hos : os ρ with
      | no => rw [hos] at h; exact h.elim
      | exc x ρ1 => rw [hos] at h; exact h
      | ok xs ρ1 =>
        rw [hos] at h
        intro vs G1 H1 s1 R1 a1
        have h2 : wpR (callF Φ f xs ds ρ1) (fun a ρ => ∀ (v : V) (G' H' : Hp), Same G G' → Rel G' ρ ((Opd.tmp a).push v τ) σ H' → (Opd.tmp a).at_ v σ → Q v H') (ExP X W G τ σ) := h
        refine spF_of R1 a1 hz (by rw [hlen _ _ _ hos]; exact hn) (h2.mono (fun t ρ2 q v G2 H2 s2 R2 => q v G2 H2 (s1.trans s2) R2 trivial) fun x ρ2 q cls d G2 H2 e s2 R2 => q cls d G2 H2 e (s1.trans s2) R2)
    refine ⟨fun pins s σ H Q I h => wpAny_Call_Name_kw (ld_glob I (ok.scp.gl f hg) hm ?_ (noDbg_split hd).1)⟩
    have argsRun := ha.run pos pins s σ H _ I (red h)
    cases as with
    | nil =>
      have h3 : spF Φ X.K X.mg f np ([] ++ zs) H Q (WE W σ) := by
        have eo := h0' rfl
        obtain ⟨G, ρ, τ, R, h⟩ := red h
        rw [eo] at h
        exact h [] G H (Same.refl _) R trivial
      exact PySem.W.callWith_K0 I.kIn hk (run_dflt (us := []) F room hbind hv (L2N.passAt ok.tk σ) I .nil h3)
    | cons e es =>
      refine PySem.W.callWith_K (h₀ := X.base) I.ok.mod.kin hk (thn argsRun fun us1 s1 ⟨vs, H1, I1, r, q⟩ => ⟨I1.kIn, ?_⟩) (star1 (hst e (List.mem_cons_self ..)) _ _) (plainAll fun y hy => hst y (List.mem_cons_of_mem _ hy))
      exact run_dflt F room hbind hv (L2N.passAt ok.tk σ) I1 r q
/-! ### built-ins -/
theorem boot_bi (b : Bi) : bootBuiltins b.nm = some b.val := by
  cases b <;> decide +kernel
theorem pe_val {f : Value} {r : List V → Hp → VK → Prop} {x : Str} {e : Expr} {es : List Expr} {t : TA} {p pos : Pos} (hf : (∃ id, f = .builtin id) ∨ ∃ T, f = .type T) (hc : CallR X f r) (hg : Gl X x) (hm : X.mg x = none) (hv : bootBuiltins x = some f) (ha : PA X (e :: es) t) (hn : x ≠ "__name__")
    (hdb : (x == ("__debug__" : Str)) = false) (hst : ∀ y ∈ e :: es, noStar y = true) : PE X (.Call (.Name x p) (e :: es) [] pos) (tCB r t) := by
  have h1 := star1 (hst e (List.mem_cons_self ..)) es X.env
  have h2 : (backTo pos (starEach es X.env)).any (·.1) = false := plainAll fun y hy => hst y (List.mem_cons_of_mem _ hy)
  rcases hf with ⟨id, rfl⟩ | ⟨T, rfl⟩
  · exact pe_callB hc hg hm hv ha hn hdb h1 h2
  · exact pe_callTy hc hg hm hv ha hn hdb h1 h2
theorem d_bi (ok : XOk Φ W c X) (b : Bi) {e : Expr} {es : List Expr} {os : Rho → R (List Opd)} {p pos : Pos} {x : Str} (hx : x = b.nm) (hb : c.bltOk x = true) (ha : PA X (e :: es) (tOs X W os)) (hst : ∀ y ∈ e :: es, noStar y = true) :
    PE X (.Call (.Name x p) (e :: es) [] pos) (tO X W fun ρ => (os ρ).bind fun os ρ1 => R.of ((sees ρ1 os).bind fun ds => (biD b ds).map Opd.tmp) ρ1) := by
  obtain ⟨g1, g2, g3, g4⟩ := ok.blt hb
  subst hx
  refine (pe_val (by cases b <;> first | exact .inl ⟨_, rfl⟩ | exact .inr ⟨_, rfl⟩) (call_bi ok.calm ok.hu b) g1 g2 (boot_bi b) ha g4 g3 hst).weak fun σ H Q ⟨G, ρ, τ, R, h⟩ => ?_
  rw [wpR_bind] at h
  refine tOs.step R h (fun _ _ z => z) fun os ρ1 vs G1 H1 p s1 R1 a1 => ?_
  obtain ⟨o, e, p⟩ := wpR_of p
  cases es : sees ρ1 os with
  | none => rw [es] at e; cases e
  | some ds =>
    rw [es] at e
    simp only [Option.bind_some] at e
    cases eb : biD b ds with
    | none => rw [eb] at e; cases e
    | some t =>
      rw [eb] at e
      cases e
      refine ⟨G1, ds, t, R1.same, sees_vw (A := []) R1 a1 es, eb, fun v' H' n => ?_⟩
      obtain ⟨G2, s2, R2⟩ := (R1.sub (pushes_sub _ _ _)).new n
      exact p v' G2 H' (s1.trans s2) R2 trivial
theorem rng_rq (G : Hp) (i j : Int) : RqAll G (rgV i j) (rngD i j) := by
  unfold rgV rngD
  generalize List.range (j - i).toNat = l
  induction l with
  | nil => exact .nil
  | cons a r ih => exact .cons (.int _) ih
theorem d_rngL1 (ok : XOk Φ W c X) {a : Expr} {oa : Rho → R Opd} {p1 p2 pos pos2 : Pos} (h1 : c.bltOk "list" = true) (h2 : c.bltOk "range" = true) (ha : PE X a (tO X W oa)) (hs : noStar a = true) :
    PE X (.Call (.Name "list" p1) [.Call (.Name "range" p2) [a] [] pos2] [] pos) (tO X W fun ρ => (oa ρ).bind fun x ρ1 => R.of ((x.see ρ1).bind fun d => (rl1D d).map Opd.tmp) ρ1) := by
  obtain ⟨g1, g2, _, _⟩ := ok.blt h1
  obtain ⟨k1, k2, _, _⟩ := ok.blt h2
  refine (pe_listRg ok.calm g1 g2 (prg_1 k1 k2 ha (star1 hs _ _)) (by rfl)).weak fun σ H Q ⟨G, ρ, τ, R, h⟩ => ?_
  simp only [wpR_bind] at h
  refine tO.step R h (fun _ _ z => z) fun x ρ1 v G1 H1 p s1 R1 a1 => ?_
  obtain ⟨o, e, p⟩ := wpR_of p
  cases ed : x.see ρ1 with
  | none => rw [ed] at e; cases e
  | some d =>
    rw [ed] at e
    simp only [Option.bind_some] at e
    cases d with
    | int j =>
      simp only [rl1D] at e
      split at e
      · next hj =>
        cases e
        have w : Vw G1 H1 v (.int j) := Opd.vw (A := []) R1 a1 ed
        refine ⟨j, w.int, ⟨by decide, by decide, hj.1, ?_, ?_⟩, fun q hq => ?_⟩
        · have := hj.2; omega
        · have := hj.2; omega
        · obtain ⟨G2, s2, R2⟩ := (R1.sub (Opd.sub _ _ _)).new (.ol hq (rng_rq G1 0 j))
          exact p _ G2 _ (s1.trans s2) R2 trivial
      · cases e
    | _ => simp [rl1D] at e
theorem d_rngL2 (ok : XOk Φ W c X) {a b : Expr} {oa ob : Rho → R Opd} {p1 p2 pos pos2 : Pos} (h1 : c.bltOk "list" = true) (h2 : c.bltOk "range" = true) (ha : PE X a (tO X W oa)) (hs : noStar a = true) (hb : PE X b (tO X W ob)) (hs2 : noStar b = true) :
    PE X (.Call (.Name "list" p1) [.Call (.Name "range" p2) [a, b] [] pos2] [] pos) (tO X W fun ρ => (oa ρ).bind fun x ρ1 => (ob ρ1).bind fun y ρ2 => R.of ((x.see ρ2).bind fun d => (y.see ρ2).bind fun e => (rl2D d e).map Opd.tmp) ρ2) := by
  obtain ⟨g1, g2, _, _⟩ := ok.blt h1
  obtain ⟨k1, k2, _, _⟩ := ok.blt h2
  refine (pe_listRg ok.calm g1 g2 (prg_2 k1 k2 ha hb (star1 hs _ _) (star1 hs2 _ _) (plainAll fun y hy => by simp at hy; subst hy; exact hs2)) (by rfl)).weak fun σ H Q ⟨G, ρ, τ, R, h⟩ => ?_
  simp only [wpR_bind] at h
  refine d_two (a := a) (b := b) R h fun x y v w ρ2 G2 H2 p s R2 a1 a2 => ?_
  obtain ⟨o, e, p⟩ := wpR_of p
  cases ed : x.see ρ2 with
  | none => rw [ed] at e; cases e
  | some d => cases ed2 : y.see ρ2 with
    | none => rw [ed, ed2] at e; cases e
    | some d2 =>
      rw [ed, ed2] at e
      simp only [Option.bind_some] at e
      cases d with
      | int i =>
        cases d2 with
        | int j =>
          simp only [rl2D] at e
          split at e
          · next hj =>
            cases e
            refine ⟨i, j, (Opd.vw2 R2 a1 ed).int, (Opd.vw (A := []) R2 a2 ed2).int, hj, fun q hq => ?_⟩
            obtain ⟨G3, s3, R3⟩ := (R2.sub (Opd.sub2 _ _ _ _ _)).new (.ol hq (rng_rq G2 i j))
            exact p _ G3 _ (s.trans s3) R3 trivial
          · cases e
        | _ => simp [rl2D] at e
      | _ => simp [rl2D] at e
/-! ### isinstance -/
theorem boot_kd (k : Kd) : bootBuiltins k.py = some (.type k.nm) := by cases k <;> decide +kernel
theorem d_cls (ok : XOk Φ W c X) {k : Kd} {x : Str} {pos : Pos} (hx : x = k.py) (hb : c.bltOk x = true) : PE X (.Name x pos) (tC (.ty k.nm)) := by
  obtain ⟨g1, g2, g3, g4⟩ := ok.blt hb
  subst hx
  exact pe_bltn g1 g2 (boot_kd k) rfl g4 g3
theorem a_cls (ok : XOk Φ W c X) : ∀ {ks : List Kd} {es : List Expr}, ckKs c ks es = true → PA X es (fun _ H Q => Q (ks.map fun k => .ty k.nm) H)
  | [], [], _ => pa_nil
  | k :: ks, .Name x _ :: es, h => by
    simp only [ckKs, Bool.and_eq_true, decide_eq_true_eq] at h
    exact (pa_cons (d_cls ok h.1.1 h.1.2) (a_cls ok h.2) (star1 rfl _ _)).weak fun σ H Q q => q
  | [], _ :: _, h => by simp [ckKs] at h
  | _ :: _, [], h => by simp [ckKs] at h
theorem d_isi1 (ok : XOk Φ W c X) {a : Expr} {oa : Rho → R Opd} {k : Kd} {x : Str} {p1 p2 pos : Pos} (h1 : c.bltOk "isinstance" = true) (ha : PE X a (tO X W oa)) (hs : noStar a = true) (hx : x = k.py) (hb : c.bltOk x = true) :
    PE X (.Call (.Name "isinstance" p1) [a, .Name x p2] [] pos) (tO X W fun ρ => (oa ρ).bind fun x ρ1 => R.of ((x.see ρ1).map fun d => .tmp (.fz (.bool ([k].any fun k => isKd k d)))) ρ1) := by
  obtain ⟨g1, g2, g3, g4⟩ := ok.blt h1
  have hst : ∀ y ∈ [a, .Name x p2], noStar y = true := fun y hy => by
    simp only [List.mem_cons, List.not_mem_nil, or_false] at hy
    rcases hy with rfl | rfl
    · exact hs
    · rfl
  refine (pe_val (.inl ⟨_, rfl⟩) call_isi g1 g2 PyProof.Rows.boot_isinstance (pa_cons ha (pa_cons (d_cls ok hx hb) pa_nil (star1 rfl _ _)) (star1 hs _ _)) g4 g3 hst).weak fun σ H Q ⟨G, ρ, τ, R, h⟩ => ?_
  rw [wpR_bind] at h
  refine tO.step R h (fun _ _ z => z) fun o ρ1 v G1 H1 p s1 R1 a1 => ?_
  obtain ⟨q, e, p⟩ := wpR_of p
  cases ed : o.see ρ1 with
  | none => rw [ed] at e; cases e
  | some d =>
    rw [ed] at e
    cases e
    have w : Vw G1 H1 v d := Opd.vw (A := []) R1 a1 ed
    refine ⟨v, .ty k.nm, .type (tyD d), .type k.nm, isKd k d, rfl, .ty _, w.ty R1.same, w.kit k, ?_⟩
    have := p (.bl (isKd k d)) G1 H1 s1 ((R1.sub (Opd.sub _ _ _)).addFz (by simpa using Rq.bl _)) trivial
    exact this
theorem d_isiT (ok : XOk Φ W c X) {a : Expr} {oa : Rho → R Opd} {ks : List Kd} {es : List Expr} {p1 p2 pos : Pos} {kk : Nat} (h1 : c.bltOk "isinstance" = true) (ha : PE X a (tO X W oa)) (hs : noStar a = true) (hk : ckKs c ks es = true) (hl : ks.length ≤ sizeLine) :
    PE X (.Call (.Name "isinstance" p1) [a, .Tuple es kk p2] [] pos) (tO X W fun ρ => (oa ρ).bind fun x ρ1 => R.of ((x.see ρ1).map fun d => .tmp (.fz (.bool (ks.any fun k => isKd k d)))) ρ1) := by
  obtain ⟨g1, g2, g3, g4⟩ := ok.blt h1
  have hst : ∀ y ∈ [a, .Tuple es kk p2], noStar y = true := fun y hy => by
    simp only [List.mem_cons, List.not_mem_nil, or_false] at hy
    rcases hy with rfl | rfl
    · exact hs
    · rfl
  refine (pe_val (.inl ⟨_, rfl⟩) call_isiT g1 g2 PyProof.Rows.boot_isinstance (pa_cons ha (pa_cons (pe_tup (a_cls ok hk)) pa_nil (star1 rfl _ _)) (star1 hs _ _)) g4 g3 hst).weak fun σ H Q ⟨G, ρ, τ, R, h⟩ => ?_
  rw [wpR_bind] at h
  refine tO.step R h (fun _ _ z => z) fun o ρ1 v G1 H1 p s1 R1 a1 => ?_
  obtain ⟨q, e, p⟩ := wpR_of p
  cases ed : o.see ρ1 with
  | none => rw [ed] at e; cases e
  | some d =>
    rw [ed] at e
    cases e
    refine ⟨by rw [List.length_map]; exact hl, fun t ht => ?_⟩
    have g := R1.same.free ht
    have R2 : Rel (upd G1 t (.tup (ks.map fun k => V.ty k.nm))) ρ1 (o.push v τ) σ (upd H1 t (.tup (ks.map fun k => V.ty k.nm))) := ⟨Same.updBoth R1.same, R1.slots, R1.held.newFz R1.same ht⟩
    have w : Vw _ _ v d := Opd.vw (A := []) R2 a1 ed
    have pc : ∀ l : List Kd, Paired ClsV (l.map fun k => V.ty k.nm) (l.map fun k => Value.type k.nm) := fun l => by
      induction l with
      | nil => exact .nil
      | cons k r ih => exact .cons (.ty _) ih
    refine ⟨v, t, _, .type (tyD d), ks.map fun k => .type k.nm, _, rfl, upd_same, pc ks, w.ty R2.same, w.kits ks, ?_⟩
    exact p _ _ _ (s1.trans (Same.updOut g)) ((R2.sub (Opd.sub _ _ _)).addFz (.bl _)) trivial
/-! ### methods -/
theorem d_index (ok : XOk Φ W c X) {o a : Expr} {oo : Rho → R Opd} {os : Rho → R (List Opd)} {ap pos : Pos} (ho : PE X o (tO X W oo)) (ha : PA X [a] (tOs X W os)) (h0 : noCall0 o = true) (hl : (ap.endLine == pos.line) = true) (hs : noStar a = true) :
    PE X (.Call (.Attribute o "index" ap) [a] [] pos) (tO X W fun ρ => (oo ρ).bind fun x ρ1 => if ((x.see ρ1).map (meTy .index)).getD false then (os ρ1).bind fun os ρ2 => R.of ((x.see ρ2).bind fun d => (sees ρ2 os).bind fun ds => (meD .index d ds).map Opd.tmp) ρ2 else .no) := by
  have hbase : attributeBase o "index" X.env (eval o X.env) = eval o X.env := by
    unfold attributeBase
    split
    · exact absurd h0 (by simp [noCall0])
    · rfl
  have st := star1 hs [] X.env
  have hfew : ((backTo pos (starEach [a] X.env)).all (fun x => !x.1) && (backToKw pos (keywordEach [] X.env)).all (fun x => x.1.isSome) && decide ([a].length + ([] : List Keyword).length + (if ([] : List Keyword).isEmpty then 0 else 1) < 30)) = true := by
    rw [st]; rfl
  refine (pe_bm PySem.F.plainAttrs_list PySem.F.slot_list_index PySem.F.type_list_index (mt_idx ok.hu) ho ha hbase hfew hl st rfl).weak fun σ H Q ⟨G, ρ, τ, R, h⟩ => ?_
  rw [wpR_bind] at h
  refine tO.step R h (fun _ _ z => z) fun x ρ1 v G1 H1 p s1 R1 a1 => ?_
  split at p
  · next hk =>
    have isL : tyV X.K "list" v H1 := by
      cases ed : x.see ρ1 with
      | none => rw [ed] at hk; simp at hk
      | some d =>
        rw [ed] at hk
        cases d with
        | list ds =>
          obtain ⟨a, vs, rfl, r, _⟩ := (Opd.vw (A := []) R1 a1 ed).lst R1.same
          exact .inl ⟨rfl, vs, SqL.rd r⟩
        | _ => simp [meTy] at hk
    refine ⟨isL, ?_⟩
    rw [wpR_bind] at p
    refine tOs.step R1 p (fun _ _ z => z.mono s1 (Opd.sub _ _ _)) fun os ρ2 vs G2 H2 p s2 R2 a2 => ?_
    obtain ⟨o, e, p⟩ := wpR_of p
    cases ed : x.see ρ2 with
    | none => rw [ed] at e; cases e
    | some d =>
      cases es : sees ρ2 os with
      | none => rw [ed, es] at e; cases e
      | some ds =>
        rw [ed, es] at e
        simp only [Option.bind_some] at e
        have wa : VwAll G2 H2 vs ds := sees_vw (A := []) R2 a2 es
        have wx : Vw G2 H2 v d := by
          obtain ⟨A, eA⟩ := pushes_app os vs (x.push v τ)
          exact Opd.vw (A := A) (τ := τ) (by rw [← eA]; exact R2) a1 ed
        match d, ds, e with
        | .list l, [q], e =>
          simp only [meD] at e
          split at e
          · next hsh =>
            cases ej : idxOfD q l with
            | none => rw [ej] at e; cases e
            | some j =>
              rw [ej] at e
              cases e
              obtain ⟨h1, h2⟩ := Bool.and_eq_true_iff.mp hsh
              exact ⟨G2, l, q, j, R2.same, wx, wa, h1, h2, ej, p _ G2 H2 (s1.trans s2) ((R2.sub ((Opd.sub x v τ).trans (pushes_sub _ _ _))).addFz (.int _)) trivial⟩
          · cases e
  · exact p.elim
theorem d_mu (ok : XOk Φ W c X) (m : Mu) (hm : m ≠ .insert) {i : Nat} {x : Str} {as : List Expr} {os : Rho → R (List D)} {p0 ap pos : Pos} (hx : c.nameOk i x = true) (ha : PA X as (tDs X W os)) (har : as.length = m.ar) (hl : (ap.endLine == pos.line) = true) (hst : ∀ y ∈ as, noStar y = true)
    (h0 : as = [] → os = fun ρ => .ok [] ρ) :
    PE X (.Call (.Attribute (.Name x p0) m.py ap) as [] pos) (tO X W fun ρ => if isOl (slotT ρ i) then (os ρ).bind (muFin m i) else .no) := by
  have slot : Slot "list" m.py m.id := by
    cases m with
    | append => exact PySem.F.slot_list_append
    | extend => exact PySem.F.slot_list_extend
    | pop => exact PySem.F.slot_list_pop
    | popAt => exact PySem.F.slot_list_pop
    | insert => exact absurd rfl hm
  have typ : typeOf (.builtin m.id) = pure (.type "method_descriptor") := by
    cases m with
    | append => exact PySem.F.type_list_append
    | extend => exact PySem.F.type_list_extend
    | pop => exact PySem.F.type_list_pop
    | popAt => exact PySem.F.type_list_pop
    | insert => exact absurd rfl hm
  have fin : ∀ {σ : St} {H : Hp} {Q : VK}, (∃ G ρ τ, Rel G ρ τ σ H ∧ wpR ((os ρ).bind (muFin m i)) (fun o ρ' => ∀ v G' H', Same G G' → Rel G' ρ' (o.push v τ) σ H' → o.at_ v σ → Q v H') (ExP X W G τ σ)) → ∀ v, σ[i]? = some (some v) → tDs X W os σ H fun vs H1 => rMu m v vs H1 Q := by
    intro σ H Q ⟨G, ρ, τ, R, h⟩ v ev
    rw [wpR_bind] at h
    refine tDs.step R h (fun _ _ z => z) fun ds ρ1 vs G1 H1 p s1 R1 r1 => ?_
    unfold muFin at p
    cases q : slotT ρ1 i with
    | none => rw [q] at p; exact p.elim
    | some t =>
      rw [q] at p
      cases t with
      | fz _ => exact p.elim
      | od _ => exact p.elim
      | ol xs =>
        simp only at p
        cases em : muD m xs ds with
        | none => rw [em] at p; exact p.elim
        | some yd =>
          obtain ⟨ys, d⟩ := yd
          rw [em] at p
          obtain ⟨w, ew, R2⟩ := R1.out (slotT_some q)
          rw [ev] at ew
          cases ew
          obtain ⟨a, us, ea, g, eh, rq, put, _⟩ := R2.held.mid.ol
          subst ea
          refine ⟨G1, xs, ds, a, us, ys, d, R1.same, rfl, eh, rq, r1, em, fun u ws rw1 ru => ?_⟩
          have R3 : Rel G1 (ρ1.set i none) ((.ref a, .ol ys) :: τ) σ (upd H1 a (.lst ws)) := ⟨Same.updFree R1.same g, R2.slots, (put ws ys rw1).unmid⟩
          have R4 := Rel.lay R3 ev
          rw [List.set_set] at R4
          exact p u G1 _ s1 (R4.addFz ru) trivial
  have typed : ∀ {σ : St} {H : Hp} {Q : VK}, (∃ G ρ τ, Rel G ρ τ σ H ∧ isOl (slotT ρ i) = true) → ∃ v, σ[i]? = some (some v) ∧ tyV X.K "list" v H := by
    intro σ H Q ⟨G, ρ, τ, R, h⟩
    cases q : slotT ρ i with
    | none => rw [q] at h; cases h
    | some t =>
      rw [q] at h
      cases t with
      | fz _ => cases h
      | od _ => cases h
      | ol xs =>
        obtain ⟨v, ev, hh⟩ := R.slot (slotT_some q)
        obtain ⟨a, us, ea, g, eh, rq, put, _⟩ := hh.ol
        subst ea
        exact ⟨_, ev, .inl ⟨rfl, us, SqL.rd (.inl eh)⟩⟩
  have main : ∀ {σ : St} {H : Hp} {Q : VK}, tO X W (fun ρ => if isOl (slotT ρ i) then (os ρ).bind (muFin m i) else .no) σ H Q → ∃ v, σ[i]? = some (some v) ∧ tyV X.K "list" v H ∧ tDs X W os σ H fun vs H1 => rMu m v vs H1 Q := by
    intro σ H Q ⟨G, ρ, τ, R, h⟩
    simp only at h
    split at h
    · next hk =>
      obtain ⟨v, ev, ty⟩ := typed (Q := Q) ⟨G, ρ, τ, R, hk⟩
      exact ⟨v, ev, ty, fin ⟨G, ρ, τ, R, h⟩ v ev⟩
    · exact h.elim
  have hbase : attributeBase (.Name x p0) m.py X.env (eval (.Name x p0) X.env) = eval (.Name x p0) X.env := rfl
  cases as with
  | nil =>
    refine (pe_bm0 PySem.F.plainAttrs_list slot typ (mt_mu m) (d_var ok hx) hbase hl).weak fun σ H Q q => ?_
    obtain ⟨v, ev, ty, q⟩ := main q
    refine ⟨v, ev, ty, ?_⟩
    rw [h0 rfl] at q
    obtain ⟨G, ρ, τ, R, q⟩ := q
    exact q [] G H (Same.refl _) R .nil
  | cons e es =>
    have st := star1 (hst e (List.mem_cons_self ..)) es X.env
    have rest : ∀ y ∈ es, noStar y = true := fun y hy => hst y (List.mem_cons_of_mem _ hy)
    have short : (e :: es).length < 30 := by rw [har]; cases m <;> decide
    have none1 : ∀ l : List Expr, (∀ y ∈ l, noStar y = true) → (backTo pos (starEach l X.env)).all (fun x => !x.1) = true := fun l => by
      induction l with
      | nil => intro _; rfl
      | cons a r ih =>
        intro hl
        rw [star1 (hl a (List.mem_cons_self ..))]
        show (true && (backTo pos (starEach r X.env)).all fun x => !x.1) = true
        rw [ih fun y hy => hl y (List.mem_cons_of_mem _ hy)]
        rfl
    have hfew : ((backTo pos (starEach (e :: es) X.env)).all (fun x => !x.1) && (backToKw pos (keywordEach [] X.env)).all (fun x => x.1.isSome) && decide ((e :: es).length + ([] : List Keyword).length + (if ([] : List Keyword).isEmpty then 0 else 1) < 30)) = true := by
      rw [none1 _ hst, decide_eq_true (by simpa using short)]
      rfl
    refine (pe_bm PySem.F.plainAttrs_list slot typ (mt_mu m) (d_var ok hx) ha hbase hfew hl st (plainAll rest)).weak fun σ H Q q => ?_
    exact main q
end
end L2.Eng

/-! EngD7: targets, walks, comprehensions. -/
namespace L2.Eng
open PySem PySem.Spec PyProof.Rows

/-! ### slots that are put out of sight -/
theorem hideS : ∀ {σ : St} {ρ : Rho} (i : Nat), SlotsOk σ ρ → SlotsOk (σ.set i none) (ρ.set i none) ∧ its (σ.set i none) (ρ.set i none) = its σ (ρ.set i none)
  | [], [], _, _ => ⟨trivial, rfl⟩
  | none :: σ, none :: ρ, 0, k => ⟨k, rfl⟩
  | some _ :: σ, none :: ρ, 0, k => ⟨k, rfl⟩
  | some _ :: σ, some _ :: ρ, 0, k => ⟨k, rfl⟩
  | none :: σ, none :: ρ, i + 1, k => hideS (σ := σ) (ρ := ρ) i k
  | some _ :: σ, none :: ρ, i + 1, k => hideS (σ := σ) (ρ := ρ) i k
  | some v :: σ, some t :: ρ, i + 1, k => by
    obtain ⟨a, b⟩ := hideS (σ := σ) (ρ := ρ) i k
    exact ⟨a, congrArg ((v, t) :: ·) b⟩
theorem unhideS : ∀ {σ : St} {ρ : Rho} (i : Nat), SlotsOk (σ.set i none) ρ → SlotsOk σ (ρ.set i none) ∧ its σ (ρ.set i none) = its (σ.set i none) ρ
  | [], [], _, _ => ⟨trivial, rfl⟩
  | none :: σ, none :: ρ, 0, k => ⟨k, rfl⟩
  | some _ :: σ, none :: ρ, 0, k => ⟨k, rfl⟩
  | none :: σ, none :: ρ, i + 1, k => unhideS (σ := σ) (ρ := ρ) i k
  | some _ :: σ, none :: ρ, i + 1, k => unhideS (σ := σ) (ρ := ρ) i k
  | some v :: σ, some t :: ρ, i + 1, k => by
    obtain ⟨a, b⟩ := unhideS (σ := σ) (ρ := ρ) i k
    exact ⟨a, congrArg ((v, t) :: ·) b⟩
  | none :: _, some _ :: _, 0, k => False.elim k
  | some _ :: _, some _ :: _, 0, k => False.elim k
  | none :: _, some _ :: _, _ + 1, k => False.elim k
  | none :: _, [], 0, k => False.elim k
  | none :: _, [], _ + 1, k => False.elim k
  | some _ :: _, [], 0, k => False.elim k
  | some _ :: _, [], _ + 1, k => False.elim k
  | [], _ :: _, _, k => False.elim k
theorem slotT_of {ρ : Rho} {i : Nat} {t : T} (h : ρ[i]? = some (some t)) : slotT ρ i = some t := by unfold slotT; rw [h]; rfl
theorem slotT_none {ρ : Rho} {i : Nat} (h : slotT ρ i = none) : ρ[i]? = none ∨ ρ[i]? = some none := by
  unfold slotT at h
  cases e : ρ[i]? with
  | none => exact .inl rfl
  | some o => rw [e] at h; cases o with
    | none => exact .inr rfl
    | some t => cases h
section
variable {G H : Hp} {ρ : Rho} {τ : List (V × T)} {σ : St}
theorem Rel.hide (R : Rel G ρ τ σ H) (i : Nat) : ∃ A, Rel G (ρ.set i none) (A ++ τ) (σ.set i none) H ∧ ∀ {G' : Hp} {ρ' : Rho} {τ' : List (V × T)} {H' : Hp}, Rel G' ρ' (A ++ τ') (σ.set i none) H' → Rel G' (ρ'.set i (slotT ρ i)) τ' σ H' := by
  have un : ∀ {G' : Hp} {ρ' : Rho} {τ' : List (V × T)} {H' : Hp}, Rel G' ρ' τ' (σ.set i none) H' → Rel G' (ρ'.set i none) τ' σ H' := fun {G' ρ' τ' H'} R' => by
    obtain ⟨a, b⟩ := unhideS i R'.slots
    exact ⟨R'.same, a, by rw [b]; exact R'.held⟩
  cases e : slotT ρ i with
  | none =>
    obtain ⟨a, b⟩ := hideS i R.slots
    refine ⟨[], ⟨R.same, a, ?_⟩, fun R' => un R'⟩
    rw [b, set_none_self (slotT_none e)]
    exact R.held
  | some t =>
    obtain ⟨v, ev, R1⟩ := R.out (slotT_some e)
    obtain ⟨a, b⟩ := hideS i R.slots
    refine ⟨[(v, t)], ⟨R.same, a, by rw [b]; exact R1.held⟩, fun {G' ρ' τ' H'} R' => ?_⟩
    have R2 := Rel.lay (un R') ev
    rw [List.set_set] at R2
    exact R2
theorem slotT_wipe {i : Nat} : ∀ {own : List Nat}, i ∉ own → slotT (wipeR ρ own) i = slotT ρ i
  | [], _ => rfl
  | j :: own, h => by
    have hj : j ≠ i := fun e => h (e ▸ List.mem_cons_self ..)
    show slotT ((wipeR ρ own).set j none) i = _
    unfold slotT
    rw [List.getElem?_set_ne hj]
    exact slotT_wipe fun m => h (List.mem_cons_of_mem _ m)
theorem Rel.hideAll (R : Rel G ρ τ σ H) : ∀ {own : List Nat}, own.Nodup → ∃ A, Rel G (wipeR ρ own) (A ++ τ) (L2.wipe σ own) H ∧ ∀ {G' : Hp} {ρ' : Rho} {τ' : List (V × T)} {H' : Hp}, Rel G' ρ' (A ++ τ') (L2.wipe σ own) H' → Rel G' (backR ρ ρ' own) τ' σ H'
  | [], _ => ⟨[], R, fun R' => R'⟩
  | i :: own, nd => by
    obtain ⟨n1, n2⟩ := List.nodup_cons.mp nd
    obtain ⟨A1, R1, b1⟩ := Rel.hideAll R n2
    obtain ⟨A2, R2, b2⟩ := R1.hide i
    refine ⟨A2 ++ A1, by rw [List.append_assoc]; exact R2, fun {G' ρ' τ' H'} R' => ?_⟩
    rw [List.append_assoc] at R'
    have R3 := b2 R'
    rw [slotT_wipe n1] at R3
    exact b1 R3
end
theorem wipe_same : ∀ {σ σ' : St} {own : List Nat}, σ.length = σ'.length → (∀ j, j ∉ own → σ[j]? = σ'[j]?) → wipe σ own = wipe σ' own := by
  intro σ σ' own hl h
  have at_ : ∀ (σ : St) (own : List Nat) (j : Nat), (wipe σ own)[j]? = if j ∈ own then (if j < σ.length then some none else none) else σ[j]? := by
    intro σ own
    induction own with
    | nil => intro j; simp [wipe]
    | cons i r ih =>
      intro j
      show ((wipe σ r).set i none)[j]? = _
      by_cases e : i = j
      · subst e
        rw [if_pos (List.mem_cons_self ..), List.getElem?_set_self', ih i]
        by_cases hr : i ∈ r
        · rw [if_pos hr]; split <;> simp
        · rw [if_neg hr]
          by_cases hi : i < σ.length
          · rw [if_pos hi, List.getElem?_eq_getElem hi]; rfl
          · rw [if_neg hi, List.getElem?_eq_none_iff.mpr (Nat.le_of_not_lt hi)]; rfl
      · rw [List.getElem?_set_ne e, ih j]
        have : (j ∈ i :: r) = (j ∈ r) := by simp [Ne.symm e]
        simp only [this]
  apply List.ext_getElem?
  intro j
  rw [at_, at_, hl]
  by_cases m : j ∈ own
  · rw [if_pos m, if_pos m]
  · rw [if_neg m, if_neg m]; exact h j m

/-! ### targets -/
def gAll : List Nat → TGs
  | [] => gNil
  | i :: is => gCons (gName i) (gAll is)
/-- a tuple's or a list's items, each to its target -/
def gSeq (K : PySem.W.Frag) (n : Nat) (t : TGs) : TG := fun v σ H Q => gTup K n t v σ H Q ∨ gLst K n t v σ H Q
theorem pg_seq {X : Cx} {pos : Pos} {es : List Expr} {k : Nat} {t : TGs} {n : Nat} (hc : X.calm = true) (h : PGs X es t) (hn : (assignEach es X.env).length = n) (hst : (assignEach es X.env).findIdx? (·.1) = none) : PG X (.Tuple es k pos) (gSeq X.K n t) :=
  ⟨fun pins s σ H v u Q I r hw => hw.elim (fun w => (pg_tup hc h hn hst).run pins s σ H v u Q I r w) (fun w => (pg_lst hc h hn hst).run pins s σ H v u Q I r w)⟩
def gOf (K : PySem.W.Frag) : Tg → TG
  | .one i => gName i
  | .tup is => gSeq K is.length (gAll is)
theorem storeOk_split {c : Ctx} {i : Nat} {x : Str} (h : c.storeOk i x = true) : c.N[i]? = some x ∧ locB c.sc x = true := by
  unfold Ctx.storeOk at h
  simpa using h
section
variable {Φ : Fx} {W : WX} {c : Ctx} {X : Cx}
theorem g_name (ok : XOk Φ W c X) {i : Nat} {x : Str} {pos : Pos} (h : c.storeOk i x = true) : PG X (.Name x pos) (gName i) := by
  obtain ⟨h1, h2⟩ := storeOk_split h
  exact pg_name (by rw [ok.hN]; exact ok.nd) (by rw [ok.hN]; exact h1) (ok.scp.loc x h2).1 (ok.scp.loc x h2).2
theorem g_names (ok : XOk Φ W c X) : ∀ {is : List Nat} {es : List Expr}, ckTgs c is es = true → PGs X es (gAll is) ∧ (assignEach es X.env).length = is.length ∧ (assignEach es X.env).findIdx? (·.1) = none
  | [], [], _ => ⟨pgs_nil, rfl, rfl⟩
  | i :: is, .Name x p :: es, h => by
    simp only [ckTgs, Bool.and_eq_true] at h
    obtain ⟨a, b, d⟩ := g_names ok h.2
    refine ⟨pgs_cons (g_name ok h.1) a (by rfl), ?_, ?_⟩
    · show (assignEach es X.env).length + 1 = _
      rw [b]; rfl
    · show List.findIdx? (fun x => x.1) ((false, assign (.Name x p) X.env) :: assignEach es X.env) = none
      rw [List.findIdx?_cons]
      simp [d]
  | [], _ :: _, h => by simp [ckTgs] at h
  | _ :: _, [], h => by simp [ckTgs] at h
theorem g_of (ok : XOk Φ W c X) {tg : Tg} {e : Expr} (h : ckTg c tg e = true) : PG X e (gOf X.K tg) := by
  cases tg with
  | one i =>
    cases e <;> simp only [ckTg] at h <;> try contradiction
    exact g_name ok h
  | tup is =>
    cases e <;> simp only [ckTg] at h <;> try contradiction
    obtain ⟨a, b, d⟩ := g_names ok h
    exact pg_seq ok.calm a b d
end
section
variable {G H : Hp} {ρ : Rho} {τ : List (V × T)} {σ : St}
/-- the slots but these are as they were -/
def But (l : List Nat) (σ σ' : St) : Prop := σ'.length = σ.length ∧ ∀ j, j ∉ l → σ'[j]? = σ[j]?
theorem But.refl (l : List Nat) (σ : St) : But l σ σ := ⟨rfl, fun _ _ => rfl⟩
theorem But.trans {l : List Nat} {σ σ1 σ2 : St} (a : But l σ σ1) (b : But l σ1 σ2) : But l σ σ2 := ⟨b.1.trans a.1, fun j h => (b.2 j h).trans (a.2 j h)⟩
theorem But.mono {l m : List Nat} {σ σ1 : St} (a : But l σ σ1) (h : ∀ i ∈ l, i ∈ m) : But m σ σ1 := ⟨a.1, fun j hj => a.2 j fun z => hj (h j z)⟩
theorem But.set (σ : St) (i : Nat) (v : Option V) : But [i] σ (σ.set i v) := ⟨by simp, fun j h => by rw [List.getElem?_set_ne]; intro e; exact h (by simp [e])⟩
theorem put_many {K : PySem.W.Frag} : ∀ {is : List Nat} {vs : List V} {ds : List D} {ρ ρ1 : Rho} {σ : St} {Q : St → Hp → Prop}, Rel G ρ τ σ H → RqAll G vs ds → setMany is ds ρ = some ρ1 → (∀ i ∈ is, i < σ.length) →
    (∀ σ2, Rel G ρ1 τ σ2 H → But is σ σ2 → Q σ2 H) → gAll is vs σ H Q
  | [], [], [], ρ, ρ1, σ, Q, R, _, e, _, k => by
    cases e
    exact ⟨rfl, k σ R (.refl _ _)⟩
  | i :: is, v :: vs, d :: ds, ρ, ρ1, σ, Q, R, .cons r rs, e, hl, k => by
    refine ⟨v, vs, rfl, ?_⟩
    have R1 : Rel G (ρ.set i (some (.fz d))) τ (σ.set i (some v)) H := (R.addFz r).store (hl i (List.mem_cons_self ..))
    refine put_many (K := K) R1 rs e (fun j hj => by rw [List.length_set]; exact hl j (List.mem_cons_of_mem _ hj)) fun σ2 R2 b => ?_
    exact k σ2 R2 (((But.set σ i (some v)).mono fun j hj => by simp at hj; subst hj; exact List.mem_cons_self ..).trans (b.mono fun j hj => List.mem_cons_of_mem _ hj))
  | [], _ :: _, [], _, _, _, _, _, h, _, _, _ => by cases h
  | [], [], _ :: _, _, _, _, _, _, h, _, _, _ => by cases h
  | [], _ :: _, _ :: _, _, _, _, _, _, _, e, _, _ => by simp [setMany] at e
  | _ :: _, [], [], _, _, _, _, _, _, e, _, _ => by simp [setMany] at e
  | _ :: _, _ :: _, [], _, _, _, _, _, h, _, _, _ => by cases h
  | _ :: _, [], _ :: _, _, _, _, _, _, h, _, _, _ => by cases h
theorem setMany_len : ∀ {is : List Nat} {ds : List D} {ρ ρ1 : Rho}, setMany is ds ρ = some ρ1 → ds.length = is.length := by
  intro is
  induction is with
  | nil => intro ds ρ ρ1 h; cases ds <;> simp_all [setMany]
  | cons i r ih => intro ds ρ ρ1 h; cases ds with
    | nil => simp [setMany] at h
    | cons d ds => simp only [setMany] at h; simp [ih h]
theorem put_tg {K : PySem.W.Frag} {tg : Tg} {v : V} {d : D} {ρ1 : Rho} {Q : St → Hp → Prop} (R : Rel G ρ τ σ H) (r : Rq G v d) (e : tg.put d ρ = some ρ1) (hl : ∀ i ∈ tg.is, i < σ.length)
    (k : ∀ σ2, Rel G ρ1 τ σ2 H → But tg.is σ σ2 → Q σ2 H) : gOf K tg v σ H Q := by
  cases tg with
  | one i =>
    cases e
    exact k _ ((R.addFz r).store (hl i (by simp [Tg.is]))) (But.set σ i (some v))
  | tup is =>
    cases d with
    | tuple ds =>
      obtain ⟨a, vs, rfl, ra, rs⟩ := r.tup'
      simp only [Tg.put] at e
      exact .inl ⟨a, vs, rfl, SqT.rd (Rd.mono R.same ra), by rw [rs.length, setMany_len e], put_many (K := K) R rs e hl k⟩
    | list ds =>
      obtain ⟨a, vs, rfl, ra, rs⟩ := r.lst'
      simp only [Tg.put] at e
      exact .inr ⟨a, vs, rfl, SqL.rd (Rd.mono R.same ra), by rw [rs.length, setMany_len e], put_many (K := K) R rs e hl k⟩
    | _ => simp [Tg.put] at e
end
theorem ckTg_lt {Φ : Fx} {W : WX} {c : Ctx} {X : Cx} (ok : XOk Φ W c X) {tg : Tg} {e : Expr} (h : ckTg c tg e = true) : ∀ i ∈ tg.is, i < X.N.length := by
  have one : ∀ {i : Nat} {x : Str}, c.storeOk i x = true → i < X.N.length := fun {i x} h => by
    rw [ok.hN]
    exact (List.getElem?_eq_some_iff.mp (storeOk_split h).1).1
  cases tg with
  | one i =>
    cases e <;> simp only [ckTg] at h <;> try contradiction
    intro j hj
    simp [Tg.is] at hj
    subst hj
    exact one h
  | tup is =>
    cases e <;> simp only [ckTg] at h <;> try contradiction
    rename_i es _ _
    show ∀ i ∈ is, _
    revert es
    induction is with
    | nil => intro _ _ i hi; cases hi
    | cons i r ih =>
      intro es h j hj
      cases es with
      | nil => simp [ckTgs] at h
      | cons e es =>
        cases e <;> simp only [ckTgs] at h <;> try contradiction
        simp only [Bool.and_eq_true] at h
        rcases List.mem_cons.mp hj with rfl | hj
        · exact one h.1
        · exact ih es h.2 j hj
end L2.Eng

/-! EngD8: walks, comprehensions. -/
namespace L2.Eng
open PySem PySem.Spec PyProof.Rows

/-! ### walks -/
def SrcOk (src : Src) (J : L2.It) (A : List (V × T)) (σ : St) : Prop :=
  ∀ (G : Hp) (ρ : Rho) (τ : List (V × T)) (σ' : St) (H : Hp), Rel G ρ (A ++ τ) σ' H → (∀ k i n, src = .sl k i n → slotT ρ i ≠ none → σ'[i]? = σ[i]?) →
    (∀ j d, j < src.len → src.item j ρ = some d → J.go j H ∧ ∀ x H', J.yld j H x H' → H' = H ∧ Rq G x d) ∧ (src.fin ρ = true → J.stop src.len H)
section
variable (X : Cx) (W : WX)
def tI (f : Rho → R Src) : TI := fun σ H Rk => ∃ G ρ τ, Rel G ρ τ σ H ∧ wpR (f ρ) (fun src ρ' => ∀ J A G' H', Same G G' → Rel G' ρ' (A ++ τ) σ H' → SrcOk src J A σ → Rk J H') (ExP X W G τ σ)
end
theorem _root_.L2.PI.weak {X : Cx} {tg e : Expr} {t t' : TI} (h : PI X tg e t) (w : ∀ σ H R, t' σ H R → t σ H R) : PI X tg e t' := ⟨fun pins s σ H R I q => h.run pins s σ H R I (w _ _ _ q)⟩
theorem _root_.L2.PI.or {X : Cx} {tg e : Expr} {t t' : TI} (h : PI X tg e t) (h' : PI X tg e t') : PI X tg e (fun σ H R => t σ H R ∨ t' σ H R) :=
  ⟨fun pins s σ H R I q => q.elim (h.run pins s σ H R I) (h'.run pins s σ H R I)⟩
theorem itl_item {K : PySem.W.Frag} {G H : Hp} {a : Addr} {ds : List D} {j : Nat} {d : D} (s : Same G H) (w : Vw G H (.ref a) (.list ds)) (e : ds[j]? = some d) : (Itl K a).go j H ∧ ∀ x H', (Itl K a).yld j H x H' → H' = H ∧ Rq G x d := by
  obtain ⟨b, vs, eb, r, k⟩ := w.lst s
  cases eb
  obtain ⟨v, ev, rv⟩ := k.get e
  refine ⟨⟨vs, v, SqL.rd r, ev⟩, fun x H' ⟨eH, hx⟩ => ⟨eH, ?_⟩⟩
  have := hx vs (SqL.rd r)
  rw [ev] at this
  cases this
  exact rv
theorem itl_stop {K : PySem.W.Frag} {G H : Hp} {a : Addr} {ds : List D} (s : Same G H) (w : Vw G H (.ref a) (.list ds)) : (Itl K a).stop ds.length H := by
  obtain ⟨b, vs, eb, r, k⟩ := w.lst s
  cases eb
  exact ⟨vs, SqL.rd r, by rw [k.length]; exact Nat.le_refl _⟩
theorem itt_item {K : PySem.W.Frag} {G H : Hp} {a : Addr} {ds : List D} {j : Nat} {d : D} (s : Same G H) (w : Vw G H (.ref a) (.tuple ds)) (e : ds[j]? = some d) : (Itt K a).go j H ∧ ∀ x H', (Itt K a).yld j H x H' → H' = H ∧ Rq G x d := by
  obtain ⟨b, vs, eb, r, k⟩ := w.tup s
  cases eb
  obtain ⟨v, ev, rv⟩ := k.get e
  refine ⟨⟨vs, v, SqT.rd r, ev⟩, fun x H' ⟨eH, hx⟩ => ⟨eH, ?_⟩⟩
  have := hx vs (SqT.rd r)
  rw [ev] at this
  cases this
  exact rv
theorem itt_stop {K : PySem.W.Frag} {G H : Hp} {a : Addr} {ds : List D} (s : Same G H) (w : Vw G H (.ref a) (.tuple ds)) : (Itt K a).stop ds.length H := by
  obtain ⟨b, vs, eb, r, k⟩ := w.tup s
  cases eb
  exact ⟨vs, SqT.rd r, by rw [k.length]; exact Nat.le_refl _⟩
theorem vw_inj {G H : Hp} {v : V} {d e : D} : ∀ _ : Vw G H v d, True := fun _ => trivial
/-- the slot i refers to a and holds a list: the list's kind stays -/
theorem slot_vw {G H : Hp} {ρ : Rho} {τ : List (V × T)} {σ : St} {i : Nat} {v : V} {d : D} (R : Rel G ρ τ σ H) (e : (slotT ρ i).bind T.view = some d) (ev : σ[i]? = some (some v)) : Vw G H v d := by
  cases q : slotT ρ i with
  | none => rw [q] at e; cases e
  | some t =>
    rw [q] at e
    obtain ⟨w, e1, h⟩ := R.slot (slotT_some q)
    rw [ev] at e1
    cases e1
    exact h.vw e
theorem lst_not_tup {G H : Hp} {a : Addr} {ds es : List D} (s : Same G H) (w : Vw G H (.ref a) (.list ds)) (w' : Vw G H (.ref a) (.tuple es)) : False := by
  obtain ⟨b, vs, eb, r, _⟩ := w.lst s
  obtain ⟨b', vs', eb', r', _⟩ := w'.tup s
  cases eb
  cases eb'
  rcases r with r | ⟨o, r⟩ <;> rcases r' with r' | ⟨o', r'⟩ <;> rw [r] at r' <;> cases r'
section
variable {Φ : Fx} {W : WX} {c : Ctx} {X : Cx}
def opdI (o : Rho → R Opd) (ρ : Rho) : R Src := (o ρ).bind fun x ρ1 => R.of ((x.see ρ1).bind fun d => (seqD d).map (opdSrc x)) ρ1
/-- the operand's own temporary thing -/
def Opd.own (o : Opd) (v : V) : List (V × T) := match o with
  | .tmp t => [(v, t)]
  | .sl _ => []
theorem Opd.push_own (o : Opd) (v : V) (τ : List (V × T)) : o.push v τ = o.own v ++ τ := by cases o <;> rfl
theorem fin_at {k : Bool} {i n : Nat} {ρ : Rho} (h : (Src.sl k i n).fin ρ = true) : ∃ d ds, (slotT ρ i).bind T.view = some d ∧ seqK k d = some ds ∧ ds.length = n := by
  simp only [Src.fin] at h
  cases e : (slotT ρ i).bind T.view with
  | none => rw [e] at h; cases h
  | some d =>
    rw [e] at h
    simp only [Option.bind_some] at h
    cases e2 : seqK k d with
    | none => rw [e2] at h; cases h
    | some ds => rw [e2] at h; exact ⟨d, ds, rfl, e2, of_decide_eq_true h⟩
theorem item_at {k : Bool} {i n j : Nat} {ρ : Rho} {z : D} (h : (Src.sl k i n).item j ρ = some z) : ∃ d ds, (slotT ρ i).bind T.view = some d ∧ seqK k d = some ds ∧ ds[j]? = some z := by
  simp only [Src.item] at h
  cases e : (slotT ρ i).bind T.view with
  | none => rw [e] at h; cases h
  | some d =>
    rw [e] at h
    simp only [Option.bind_some] at h
    cases e2 : seqK k d with
    | none => rw [e2] at h; cases h
    | some ds =>
      rw [e2] at h
      simp only [Option.bind_some] at h
      split at h
      · exact ⟨d, ds, rfl, e2, h⟩
      · cases h
theorem slot_ne {ρ : Rho} {i : Nat} {d : D} (h : (slotT ρ i).bind T.view = some d) : slotT ρ i ≠ none := by
  intro e
  rw [e] at h
  cases h
theorem srcL {x : Opd} {a : Addr} {ds : List D} {σ : St} (K : PySem.W.Frag) (h : x.at_ (.ref a) σ) (hv : ∀ t, x = .tmp t → t.view = some (.list ds)) : SrcOk (opdSrc x (false, ds)) (Itl K a) (x.own (.ref a)) σ := by
  intro G ρ τ σ' H R keep
  cases x with
  | tmp t =>
    have w : Vw G H (.ref a) (.list ds) := (Rel.tmp (A := []) R).vw (hv t rfl)
    exact ⟨fun j d _ e => itl_item R.same w e, fun _ => itl_stop R.same w⟩
  | sl i =>
    refine ⟨fun j d _ e => ?_, fun e => ?_⟩
    · obtain ⟨z, es, e1, e2, e3⟩ := item_at e
      have ev := (keep false i _ rfl (slot_ne e1)).trans h
      have w := slot_vw R e1 ev
      cases z <;> simp only [seqK] at e2 <;> try contradiction
      cases e2
      exact itl_item R.same w e3
    · obtain ⟨z, es, e1, e2, e3⟩ := fin_at e
      have ev := (keep false i _ rfl (slot_ne e1)).trans h
      have w := slot_vw R e1 ev
      cases z <;> simp only [seqK] at e2 <;> try contradiction
      cases e2
      have := itl_stop (K := K) R.same w
      rw [e3] at this
      exact this
theorem srcT {x : Opd} {a : Addr} {ds : List D} {σ : St} (K : PySem.W.Frag) (h : x.at_ (.ref a) σ) (hv : ∀ t, x = .tmp t → t.view = some (.tuple ds)) : SrcOk (opdSrc x (true, ds)) (Itt K a) (x.own (.ref a)) σ := by
  intro G ρ τ σ' H R keep
  cases x with
  | tmp t =>
    have w : Vw G H (.ref a) (.tuple ds) := (Rel.tmp (A := []) R).vw (hv t rfl)
    exact ⟨fun j d _ e => itt_item R.same w e, fun _ => itt_stop R.same w⟩
  | sl i =>
    refine ⟨fun j d _ e => ?_, fun e => ?_⟩
    · obtain ⟨z, es, e1, e2, e3⟩ := item_at e
      have ev := (keep true i _ rfl (slot_ne e1)).trans h
      have w := slot_vw R e1 ev
      cases z <;> simp only [seqK] at e2 <;> try contradiction
      cases e2
      exact itt_item R.same w e3
    · obtain ⟨z, es, e1, e2, e3⟩ := fin_at e
      have ev := (keep true i _ rfl (slot_ne e1)).trans h
      have w := slot_vw R e1 ev
      cases z <;> simp only [seqK] at e2 <;> try contradiction
      cases e2
      have := itt_stop (K := K) R.same w
      rw [e3] at this
      exact this
theorem i_opd {e tg : Expr} {o : Rho → R Opd} (he : PE X e (tO X W o)) : PI X tg e (tI X W (opdI o)) := by
  refine ((pi_list he).or (pi_tup he)).weak fun σ H Rk ⟨G, ρ, τ, R, h⟩ => ?_
  unfold opdI at h
  rw [wpR_bind] at h
  cases ho : o ρ with
  | no => rw [ho] at h; exact h.elim
  | exc x ρ1 => exact .inl ⟨G, ρ, τ, R, by rw [ho] at h ⊢; exact h⟩
  | ok x ρ1 =>
    rw [ho] at h
    obtain ⟨src, es, p⟩ := wpR_of (show wpR (Eng.R.of _ ρ1) _ _ from h)
    cases ed : x.see ρ1 with
    | none => rw [ed] at es; cases es
    | some d =>
      rw [ed] at es
      have hv : ∀ t, x = .tmp t → t.view = some d := fun t et => by subst et; exact ed
      cases d with
      | list ds =>
        cases es
        refine .inl ⟨G, ρ, τ, R, ?_⟩
        rw [ho]
        intro v G1 H1 s1 R1 a1
        obtain ⟨a, vs, rfl, r, k⟩ := (Opd.vw (A := []) R1 a1 ed).lst R1.same
        refine ⟨a, rfl, ⟨vs, SqL.rd r⟩, p _ (x.own (.ref a)) G1 H1 s1 ?_ (srcL X.K a1 hv)⟩
        rw [← Opd.push_own]
        exact R1
      | tuple ds =>
        cases es
        refine .inr ⟨G, ρ, τ, R, ?_⟩
        rw [ho]
        intro v G1 H1 s1 R1 a1
        obtain ⟨a, vs, rfl, r, k⟩ := (Opd.vw (A := []) R1 a1 ed).tup R1.same
        refine ⟨a, rfl, ⟨vs, SqT.rd r⟩, p _ (x.own (.ref a)) G1 H1 s1 ?_ (srcT X.K a1 hv)⟩
        rw [← Opd.push_own]
        exact R1
      | _ => cases es
theorem srcR {lo c : Int} {n : Nat} {σ : St} : SrcOk (.rng lo c n) (Itc lo c n) [] σ := fun G ρ τ σ' H R _ =>
  ⟨fun j d hj e => ⟨hj, fun x H' ⟨eH, ex⟩ => ⟨eH, by cases e; rw [ex]; exact .int _⟩⟩, fun _ => Nat.le_refl n⟩
theorem srcR1 {lo : Int} {n : Nat} {σ : St} : SrcOk (.rng lo 1 n) (Itr lo n) [] σ := fun G ρ τ σ' H R _ =>
  ⟨fun j d hj e => ⟨hj, fun x H' ⟨eH, ex⟩ => ⟨eH, by cases e; rw [ex, Int.mul_one]; exact .int _⟩⟩, fun _ => Nat.le_refl n⟩
theorem rngOk_split {i j : Int} (h : rngOk i j = true) : -(2 ^ 62) ≤ i ∧ i < 2 ^ 62 ∧ -(2 ^ 62) ≤ j ∧ j < 2 ^ 62 := of_decide_eq_true h
def rng1I (o : Rho → R Opd) (ρ : Rho) : R Src := (o ρ).bind fun x ρ1 => R.of ((x.see ρ1).bind fun d => match d with | .int j => if rngOk 0 j then some (.rng 0 1 j.toNat) else none | _ => none) ρ1
theorem i_rng1 (ok : XOk Φ W c X) {a tg : Expr} {oa : Rho → R Opd} {p pos : Pos} (h1 : c.bltOk "range" = true) (ha : PE X a (tO X W oa)) (hs : noStar a = true) : PI X tg (.Call (.Name "range" p) [a] [] pos) (tI X W (rng1I oa)) := by
  obtain ⟨g1, g2, _, _⟩ := ok.blt h1
  refine (pi_range1 g1 g2 (pa_cons ha pa_nil (star1 hs _ _)) (star1 hs _ _)).weak fun σ H Rk ⟨G, ρ, τ, R, h⟩ => ?_
  unfold rng1I at h
  rw [wpR_bind] at h
  refine tO.step R h (fun _ _ z => z) fun x ρ1 v G1 H1 p s1 R1 a1 => ?_
  obtain ⟨src, e, p⟩ := wpR_of p
  cases ed : x.see ρ1 with
  | none => rw [ed] at e; cases e
  | some d =>
    rw [ed] at e
    cases d with
    | int j =>
      simp only [Option.bind_some] at e
      split at e
      · next hj =>
        cases e
        have w : Vw G1 H1 v (.int j) := Opd.vw (A := []) R1 a1 ed
        obtain ⟨_, _, b3, b4⟩ := rngOk_split hj
        exact ⟨j, by rw [w.int], b3, b4, p _ [] G1 H1 s1 (R1.sub (Opd.sub _ _ _)) srcR1⟩
      · cases e
    | _ => cases e
def rng2I (oa ob : Rho → R Opd) (ρ : Rho) : R Src := (oa ρ).bind fun x ρ1 => (ob ρ1).bind fun y ρ2 => R.of ((x.see ρ2).bind fun d => (y.see ρ2).bind fun e => match d, e with | .int i, .int j => if rngOk i j then some (.rng i 1 (j - i).toNat) else none | _, _ => none) ρ2
theorem i_rng2 (ok : XOk Φ W c X) {a b tg : Expr} {oa ob : Rho → R Opd} {p pos : Pos} (h1 : c.bltOk "range" = true) (ha : PE X a (tO X W oa)) (hs : noStar a = true) (hb : PE X b (tO X W ob)) (hs2 : noStar b = true) :
    PI X tg (.Call (.Name "range" p) [a, b] [] pos) (tI X W (rng2I oa ob)) := by
  obtain ⟨g1, g2, _, _⟩ := ok.blt h1
  refine (pi_range2 g1 g2 (pa_cons ha (pa_cons hb pa_nil (star1 hs2 _ _)) (star1 hs _ _)) (by rw [star1 hs, star1 hs2]; rfl) (star1 hs2 _ _)).weak fun σ H Rk ⟨G, ρ, τ, R, h⟩ => ?_
  unfold rng2I at h
  simp only [wpR_bind] at h
  refine d_two (a := a) (b := b) R h fun x y v w ρ2 G2 H2 p s R2 a1 a2 => ?_
  obtain ⟨src, e, p⟩ := wpR_of p
  obtain ⟨d, f, e1, e2, e⟩ := bind2 e
  cases d with
  | int i =>
    cases f with
    | int j =>
      simp only at e
      split at e
      · next hj =>
        cases e
        have w1 := (Opd.vw2 R2 a1 e1).int
        have w2 := (Opd.vw (A := []) R2 a2 e2).int
        exact ⟨i, j, by rw [w1, w2], rngOk_split hj, p _ [] G2 H2 s (R2.sub (Opd.sub2 _ _ _ _ _)) srcR1⟩
      · cases e
    | _ => cases e
  | _ => cases e
def revR1I (o : Rho → R Opd) (ρ : Rho) : R Src := (o ρ).bind fun x ρ1 => R.of ((x.see ρ1).bind fun d => match d with | .int j => if rngOk 0 j then some (.rng ((j.toNat : Int) - 1) (-1) j.toNat) else none | _ => none) ρ1
theorem i_revR1 (ok : XOk Φ W c X) {a tg : Expr} {oa : Rho → R Opd} {p p2 pos pos2 : Pos} (h0 : c.bltOk "reversed" = true) (h1 : c.bltOk "range" = true) (ha : PE X a (tO X W oa)) (hs : noStar a = true) :
    PI X tg (.Call (.Name "reversed" p) [.Call (.Name "range" p2) [a] [] pos2] [] pos) (tI X W (revR1I oa)) := by
  obtain ⟨f1, f2, _, _⟩ := ok.blt h0
  obtain ⟨g1, g2, _, _⟩ := ok.blt h1
  refine (pi_revR f1 f2 (prg_1 g1 g2 ha (star1 hs _ _)) (by rfl)).weak fun σ H Rk ⟨G, ρ, τ, R, h⟩ => ?_
  unfold revR1I at h
  rw [wpR_bind] at h
  refine tO.step R h (fun _ _ z => z) fun x ρ1 v G1 H1 p s1 R1 a1 => ?_
  obtain ⟨src, e, p⟩ := wpR_of p
  cases ed : x.see ρ1 with
  | none => rw [ed] at e; cases e
  | some d =>
    rw [ed] at e
    cases d with
    | int j =>
      simp only [Option.bind_some] at e
      split at e
      · next hj =>
        cases e
        have w : Vw G1 H1 v (.int j) := Opd.vw (A := []) R1 a1 ed
        obtain ⟨_, _, b3, b4⟩ := rngOk_split hj
        refine ⟨j, w.int, by decide, by decide, b3, b4, p _ [] G1 H1 s1 (R1.sub (Opd.sub _ _ _)) ?_⟩
        have e1 : (j - 0).toNat = j.toNat := by rw [Int.sub_zero]
        rw [e1, Int.zero_add]
        exact srcR
      · cases e
    | _ => cases e
end
end L2.Eng

/-! EngD9: comprehensions. -/
namespace L2.Eng
open PySem PySem.Spec PyProof.Rows

theorem _root_.L2.PE.weakL {X : Cx} {e : Expr} {t t' : TE} (h : PE X e t) (w : ∀ σ H Q, σ.length = X.N.length → t' σ H Q → t σ H Q) : PE X e t' := ⟨fun pins s σ H Q I q => h.run pins s σ H Q I (w _ _ _ I.len q)⟩
theorem lookup_mapK (P : Str → NameKind → Bool) : ∀ {names : List (Str × NameKind)} {x : Str} {k : NameKind}, names.lookup x = some k →
    (names.map fun (n, k) => if P n k = true then (n, NameKind.cell) else (n, k)).lookup x = some (if P x k = true then .cell else k)
  | [], _, _, h => by simp at h
  | (n, k₀) :: r, x, k, h => by
    rw [List.map_cons]
    by_cases e : x = n
    · subst e
      have h1 : k₀ = k := by simpa [List.lookup] using h
      subst h1
      by_cases q : P x k₀ = true
      · simp [List.lookup, q]
      · simp [List.lookup, q]
    · have b : (x == n) = false := beq_eq_false_iff_ne.mpr e
      have h1 : r.lookup x = some k := by simpa [List.lookup, b] using h
      have ih := lookup_mapK P h1
      show List.lookup x ((if P n k₀ = true then (n, NameKind.cell) else (n, k₀)) :: _) = _
      by_cases q : P n k₀ = true
      · rw [if_pos q]
        show (match x == n with | true => some NameKind.cell | false => List.lookup x _) = _
        rw [b]
        exact ih
      · rw [if_neg q]
        show (match x == n with | true => some k₀ | false => List.lookup x _) = _
        rw [b]
        exact ih
section
variable {Φ : Fx} {W : WX} {c : Ctx} {X : Cx}
theorem takesN0 {X : Cx} : L2N.Takes X (fun _ _ _ _ => False) := fun _ _ ⟨_, _, _, _, _, _, _, _, _, _, _, _, _, _, _, _, w⟩ => w.elim
theorem visB_of {sc : Scope} {x : Str} (h : visB sc x = true) : ∃ k, sc.names.lookup x = some k ∧ (k = .local ∨ k = .cell ∨ k = .free) := by
  unfold visB at h
  split at h <;> first | (exact ⟨_, ‹_›, by simp⟩) | cases h
theorem locB_of {sc : Scope} {x : Str} (h : locB sc x = true) : ∃ k, sc.names.lookup x = some k ∧ (k = .local ∨ k = .cell) := by
  unfold locB at h
  split at h <;> first | (exact ⟨_, ‹_›, by simp⟩) | cases h
theorem glbB_of {sc : Scope} {x : Str} (h : glbB sc x = true) : sc.names.lookup x = some .globalImplicit := by
  unfold glbB at h
  split at h <;> first | assumption | cases h
theorem XOk.blk (ok : XOk Φ W c X) {s : Shared} {H : Hp} {scope : Scope} {cl : List (Str × Addr)} {C : Addr} {fp : List Addr} :
    XOk Φ (fun _ _ _ _ => False) ⟨c.N, scope, c.tb⟩ (X.blk s H scope (compEnvC scope cl C X.env) fp) := by
  have look : ∀ {x : Str} {k : NameKind}, scope.names.lookup x = some k → ∃ k', (compEnvC scope cl C X.env).scope.names.lookup x = some k' ∧ (k' = k ∨ (k = .free ∧ k' = .cell)) := by
    intro x k h
    have q := lookup_mapK (fun n k => k == .free && X.env.scope.kind == .function && X.env.kindOf n == some .cell) h
    refine ⟨_, q, ?_⟩
    split
    · next hb =>
      simp only [Bool.and_eq_true] at hb
      cases k <;> first | exact .inr ⟨rfl, rfl⟩ | (exact absurd hb.1.1 (by decide))
    · exact .inl rfl
  refine ⟨ok.hN, ok.nd, ⟨fun x h => ?_, fun x h => ?_, fun x h => ?_, fun x h => ?_⟩, ok.calm, ok.hu, takesN0, ok.mod⟩
  · obtain ⟨k, e, hk⟩ := visB_of h
    obtain ⟨k', e', hk'⟩ := look e
    rcases hk' with rfl | ⟨rfl, rfl⟩
    · rcases hk with rfl | rfl | rfl
      · exact .inl e'
      · exact .inr (.inl e')
      · exact .inr (.inr e')
    · exact .inr (.inl e')
  · obtain ⟨k', e', hk'⟩ := look (glbB_of h)
    rcases hk' with rfl | ⟨h1, _⟩
    · exact e'
    · cases h1
  · obtain ⟨k, e, hk⟩ := locB_of h
    obtain ⟨k', e', hk'⟩ := look e
    rcases hk' with rfl | ⟨rfl, rfl⟩
    · rcases hk with rfl | rfl
      · exact ⟨.inl e', .inr e'⟩
      · refine ⟨.inr e', .inl ?_⟩
        show (scope.names.lookup x == some .cell) = true
        rw [e]
        rfl
    · rcases hk with h | h <;> cases h
  · rcases h with h | h
    · obtain ⟨k', e', hk'⟩ := look h
      rcases hk' with rfl | ⟨h1, _⟩
      · exact .inl e'
      · cases h1
    · obtain ⟨k', e', hk'⟩ := look h
      rcases hk' with rfl | ⟨_, rfl⟩
      · exact .inr e'
      · exact .inl e'
theorem blk_of (ok : XOk Φ W c X) {scope : Scope} {own : List (Str × Nat)} (h : blkC c.N c.sc scope own = true) : BlkOk X.N X.env.scope scope own := by
  have b := blkOk_by h
  rw [ok.hN]
  exact ⟨b.kind, b.uniq, b.ix, fun y hy e => ok.scp.free y.1 (b.free y hy e), b.own⟩
theorem c_nil : PTs X [] (tK X W fun ρ => .ok true ρ) := ⟨fun pins s σ H Q I ⟨G, ρ, τ, R, h⟩ => pts_nil.run pins s σ H Q I (h G H (Same.refl _) R)⟩
theorem c_one {e : Expr} {C : Rho → R Bool} (h : PT X e (tK X W C)) : PTs X [e] (tK X W C) := pts_one h
theorem perm4 {α : Type} (x : α) (A B C : List α) : (x :: (A ++ (B ++ C))).Perm (B ++ (x :: (A ++ C))) := by
  refine (List.Perm.cons x (List.perm_append_comm_assoc A B C)).trans ?_
  exact List.perm_middle.symm
theorem perm5 {α : Type} (x : α) (A B C : List α) : (x :: (A ++ (B ++ C))).Perm (A ++ (B ++ (x :: C))) := by
  have h1 : (x :: (A ++ (B ++ C))) = x :: ((A ++ B) ++ C) := by rw [List.append_assoc]
  have h2 : A ++ (B ++ (x :: C)) = (A ++ B) ++ x :: C := by rw [List.append_assoc]
  rw [h1, h2]
  exact List.perm_middle.symm
/-- what a comprehension computes -/
def lcF (own : List Nat) (tg : Tg) (src : Rho → R Src) (C : Rho → R Bool) (el : Rho → R D) (ρ : Rho) : R Opd :=
  (src ρ).bind fun src ρ1 => (lcRun own tg src C el src.len 0 [] (wipeR ρ1 own)).bind fun ds ρ2 => .ok (.tmp (.ol ds)) (backR ρ1 ρ2 own)
/-- the walk of a comprehension -/
theorem lc_rd {own : List Nat} {tg : Tg} {src : Rho → R Src} {C : Rho → R Bool} {el : Rho → R D} (nd : own.Nodup) (htg : ∀ i ∈ tg.is, i ∈ own) (hlt : ∀ i ∈ tg.is, i < X.N.length)
    {σ : St} {H : Hp} {Q : VK} (hlen : σ.length = X.N.length) (h : tO X W (lcF own tg src C el) σ H Q) : tLc (tI X W src) (gOf X.K tg) (tK X (fun _ _ _ _ => False) C) (tD X (fun _ _ _ _ => False) el) own σ H Q := by
  obtain ⟨G, ρ, τ, R, h⟩ := h
  unfold lcF at h
  simp only [wpR_bind] at h
  refine ⟨G, ρ, τ, R, h.mono (fun src ρ1 p J A G1 H1 s1 R1 hJ L0 hL0 => ?_) fun _ _ z => z⟩
  obtain ⟨B, R2, back⟩ := Rel.hideAll R1 nd
  have inOwn : ∀ {σ2 : St}, But tg.is (L2.wipe σ own) σ2 → L2.wipe σ2 own = L2.wipe σ own := fun {σ2} b => by
    refine wipe_same (b.1.trans (wipe_length _ _)) fun j hj => ?_
    rw [b.2 j fun z => hj (htg j z)]
    exact wipe_out hj
  have lens : ∀ i ∈ tg.is, i < (L2.wipe σ own).length := fun i hi => by
    rw [wipe_length, hlen]
    exact hlt i hi
  let Fin : List D → Rho → Prop := fun ds ρ2 => wpR (Eng.R.ok (Opd.tmp (T.ol ds)) (backR ρ1 ρ2 own)) (fun o ρ' => ∀ v G' H', Same G G' → Rel G' ρ' (o.push v τ) σ H' → o.at_ v σ → Q v H') (ExP X W G τ σ)
  refine ⟨fun i m H => i + m = src.len ∧ ∃ G2 ρ2 acc, Same G1 G2 ∧ Rel G2 ρ2 ((.ref L0, .ol acc) :: (B ++ (A ++ τ))) (L2.wipe σ own) H ∧ wpR (lcRun own tg src C el m i acc ρ2) Fin (ExP X W G τ σ), ⟨src.len, Nat.zero_add _, G1, wipeR ρ1 own, [], Same.refl _, ?_, p⟩, ?_⟩
  · exact ⟨Same.updNew R2.same hL0, R2.slots, (R2.held.newList R2.same hL0 .nil).unmid⟩
  · intro i m H2 ⟨hm, G2, ρ2, acc, s2, R3, p⟩
    have RA : Rel G2 ρ2 (A ++ ((.ref L0, .ol acc) :: (B ++ τ))) (L2.wipe σ own) H2 := R3.perm (perm4 _ _ _ _)
    have keep : ∀ k i n, src = .sl k i n → slotT ρ2 i ≠ none → (L2.wipe σ own)[i]? = σ[i]? := fun k i n _ hne => by
      by_cases ho : i ∈ own
      · exfalso
        cases e : slotT ρ2 i with
        | none => exact hne e
        | some t =>
          obtain ⟨v, ev, _⟩ := R3.slot (slotT_some e)
          exact (wipe_some ev).2 ho
      · exact wipe_out ho
    obtain ⟨items, stops⟩ := hJ G2 ρ2 _ _ H2 RA keep
    cases m with
    | zero =>
      unfold lcRun at p
      split at p
      · next hf =>
        have hi : i = src.len := by omega
        subst hi
        refine .inl ⟨stops hf, ?_⟩
        have Rb := back (R3.perm (perm5 _ _ _ _))
        exact p _ G2 H2 (s1.trans s2) ((Rb.perm List.perm_middle).sub (List.Sublist.cons_cons _ (List.sublist_append_right _ _))) trivial
      · exact p.elim
    | succ m =>
      unfold lcRun at p
      have hi : i < src.len := by omega
      cases ei : src.item i ρ2 with
      | none => rw [ei] at p; exact p.elim
      | some d =>
        rw [ei] at p
        simp only at p
        obtain ⟨go, yld⟩ := items i d hi ei
        refine .inr ⟨go, fun H' => i + 1 + m = src.len ∧ ∃ G2 ρ2 acc, Same G1 G2 ∧ Rel G2 ρ2 ((.ref L0, .ol acc) :: (B ++ (A ++ τ))) (L2.wipe σ own) H' ∧ wpR (lcRun own tg src C el m (i + 1) acc ρ2) Fin (ExP X W G τ σ), fun H' hN => ⟨m, Nat.lt_succ_self m, hN⟩, fun x H' hy => ?_⟩
        obtain ⟨rfl, rx⟩ := yld x H' hy
        cases ep : tg.put d ρ2 with
        | none => rw [ep] at p; exact p.elim
        | some ρ3 =>
          rw [ep] at p
          simp only at p
          refine put_tg R3 rx ep lens fun σ2 R4 bt => ⟨inOwn bt, ?_⟩
          have stepC : wpR (C ρ3) (fun k ρ4 => wpR (if k = true then (match el ρ4 with | .ok y ρ5 => if acc.length < sizeLine then lcRun own tg src C el m (i + 1) (acc ++ [y]) (wipeR ρ5 own) else .no | _ => .no) else lcRun own tg src C el m (i + 1) acc (wipeR ρ4 own)) Fin (ExP X W G τ σ)) (fun _ _ => False) := by
            cases ec : C ρ3 with
            | no => rw [ec] at p; exact p.elim
            | exc x ρ4 => rw [ec] at p; exact p.elim
            | ok k ρ4 =>
              rw [ec] at p
              cases k with
              | true => exact p
              | false => exact p
          refine tK.step R4 stepC (fun _ _ z => z.elim) fun k ρ4 G4 H4 p s4 R5 => ?_
          cases k with
          | false =>
            rw [if_neg Bool.false_ne_true] at p ⊢
            obtain ⟨A5, R6, _⟩ := Rel.hideAll R5 nd
            rw [inOwn bt] at R6
            exact ⟨by omega, G4, wipeR ρ4 own, acc, s2.trans s4, R6.sub (List.sublist_append_right _ _), p⟩
          | true =>
            rw [if_pos rfl] at p ⊢
            have stepE : wpR (el ρ4) (fun y ρ5 => wpR (if acc.length < sizeLine then lcRun own tg src C el m (i + 1) (acc ++ [y]) (wipeR ρ5 own) else .no) Fin (ExP X W G τ σ)) (fun _ _ => False) := by
              cases ee : el ρ4 with
              | no => rw [ee] at p; exact p.elim
              | exc x ρ5 => rw [ee] at p; exact p.elim
              | ok y ρ5 => rw [ee] at p; exact p
            refine tD.step R5 stepE (fun _ _ z => z.elim) fun y ρ5 v G5 H5 p s5 R6 ry => ?_
            split at p
            · next hl =>
              obtain ⟨a, vs, ea, g, eh, rq, put, _⟩ := R6.held.mid.ol
              cases ea
              refine ⟨vs, eh, by rw [rq.length]; exact hl, by omega, G5, wipeR ρ5 own, acc ++ [y], (s2.trans s4).trans s5, ?_, p⟩
              have R7 : Rel G5 ρ5 ((.ref L0, .ol (acc ++ [y])) :: (B ++ (A ++ τ))) σ2 (upd H5 L0 (.lst (vs ++ [v]))) := ⟨Same.updFree R6.same g, R6.slots, (put _ _ (rq.append (.cons ry .nil))).unmid⟩
              obtain ⟨A8, R8, _⟩ := Rel.hideAll R7 nd
              rw [inOwn bt] at R8
              exact R8.sub (List.sublist_append_right _ _)
            · exact p.elim
/-- a comprehension as a value -/
theorem d_lc (ok : XOk Φ W c X) {own : List Nat} {tg : Tg} {te ie ee : Expr} {ifs : List Expr} {scope : Scope} {pos : Pos} {src : Rho → R Src} {C : Rho → R Bool} {el : Rho → R D}
    (hb : blkC c.N c.sc scope (own.filterMap fun i => (c.N[i]?).map fun x => (x, i)) = true) (hown : (own.filterMap fun i => (c.N[i]?).map fun x => (x, i)).map (·.2) = own) (nd : own.Nodup) (htg : ∀ i ∈ tg.is, i ∈ own) (hset : noSet ie = true)
    (hi : PI X te ie (tI X W src)) (hg : ∀ X' : Cx, XOk Φ (fun _ _ _ _ => False) ⟨c.N, scope, c.tb⟩ X' → X'.K = X.K → PG X' te (gOf X.K tg))
    (hlt : ∀ i ∈ tg.is, i < X.N.length)
    (ht : ∀ X' : Cx, XOk Φ (fun _ _ _ _ => False) ⟨c.N, scope, c.tb⟩ X' → PTs X' ifs (tK X' (fun _ _ _ _ => False) C)) (he : ∀ X' : Cx, XOk Φ (fun _ _ _ _ => False) ⟨c.N, scope, c.tb⟩ X' → PE X' ee (tD X' (fun _ _ _ _ => False) el)) :
    PE X (.ListComp ee [⟨te, ie, ifs, 0⟩] scope pos) (tO X W (lcF own tg src C el)) := by
  have hs : ∀ x, foldedSetIterable ie X.env x = pure x := by
    intro x
    cases ie <;> first | rfl | cases hset
  have p := pe_lc (pos := pos) ok.calm (by rw [ok.hN]; exact ok.nd) hi (blk_of ok hb) (g := gOf X.K tg) (tt := tK X (fun _ _ _ _ => False) C) (te := tD X (fun _ _ _ _ => False) el) (fun s H C cl fp => hg _ ok.blk rfl) (fun s H C cl fp => ht _ ok.blk) (fun s H C cl fp => he _ ok.blk) hs
  rw [hown] at p
  exact p.weakL fun σ H Q hlen h => lc_rd nd htg hlt hlen h
theorem _root_.L2.PS.weakL {X : Cx} {e : Stmt} {t t' : TS} (h : PS X e t) (w : ∀ D σ H, σ.length = X.N.length → t' D σ H → t D σ H) : PS X e t' := ⟨fun pins s σ H D I q => h.run pins s σ H D I (w _ _ _ I.len q)⟩
/-- a comprehension stored to a name -/
theorem d_setLc (ok : XOk Φ W c X) {own : List Nat} {tg : Tg} {te ie ee : Expr} {ifs : List Expr} {scope : Scope} {pos : Pos} {src : Rho → R Src} {C : Rho → R Bool} {el : Rho → R D} {i : Nat} {y : Str} {py spos : Pos}
    (hy : X.N[i]? = some y) (hyl : X.env.scope.names.lookup y = some .local) (hsw : swapsWith (.ListComp ee [⟨te, ie, ifs, 0⟩] scope pos) (some (.Name y py)) spos.line X.env = pure true)
    (hb : blkC c.N c.sc scope (own.filterMap fun i => (c.N[i]?).map fun x => (x, i)) = true) (hown : (own.filterMap fun i => (c.N[i]?).map fun x => (x, i)).map (·.2) = own) (nd : own.Nodup) (htg : ∀ i ∈ tg.is, i ∈ own) (hset : noSet ie = true)
    (hi : PI X te ie (tI X W src)) (hg : ∀ X' : Cx, XOk Φ (fun _ _ _ _ => False) ⟨c.N, scope, c.tb⟩ X' → X'.K = X.K → PG X' te (gOf X.K tg))
    (hlt : ∀ i ∈ tg.is, i < X.N.length)
    (ht : ∀ X' : Cx, XOk Φ (fun _ _ _ _ => False) ⟨c.N, scope, c.tb⟩ X' → PTs X' ifs (tK X' (fun _ _ _ _ => False) C)) (he : ∀ X' : Cx, XOk Φ (fun _ _ _ _ => False) ⟨c.N, scope, c.tb⟩ X' → PE X' ee (tD X' (fun _ _ _ _ => False) el)) :
    PS X (.Assign [.Name y py] (.ListComp ee [⟨te, ie, ifs, 0⟩] scope pos) spos) (tAsg (tO X W (lcF own tg src C el)) (gName i)) := by
  have hs : ∀ x, foldedSetIterable ie X.env x = pure x := by
    intro x
    cases ie <;> first | rfl | cases hset
  have p := ps_setLc (py := py) (spos := spos) ok.calm (by rw [ok.hN]; exact ok.nd) hy hyl hsw hi (blk_of ok hb) (g := gOf X.K tg) (tt := tK X (fun _ _ _ _ => False) C) (te := tD X (fun _ _ _ _ => False) el) (fun s H C cl fp => hg _ ok.blk rfl) (fun s H C cl fp => ht _ ok.blk) (fun s H C cl fp => he _ ok.blk) hs
  rw [hown] at p
  exact p.weakL fun D σ H hlen h => lc_rd nd htg hlt hlen h
end
end L2.Eng

/-! EngF: every expression that the checker takes. -/
namespace L2.Eng
open PySem PySem.Spec PyProof.Rows

def SE (Φ : Fx) (a : E) : Prop := ∀ {c : Ctx} {W : WX} {X : Cx}, XOk Φ W c X → ∀ {e : Expr}, ckE c a e = true → PE X e (tO X W (ev2 Φ a).1) ∧ (tOk a = true → PT X e (tK X W (ev2 Φ a).2)) ∧
  (tOk a = true → ∀ op xs p, e = .BoolOp op xs p → PW X e (tK X W (ev2 Φ a).2))
def SEs (Φ : Fx) (es : Es) : Prop := ∀ {c : Ctx} {W : WX} {X : Cx}, XOk Φ W c X → ∀ {xs : List Expr}, ckEs c es xs = true → PA X xs (tOs X W (evOs Φ es)) ∧ PA X xs (tDs X W (evDs Φ es))
def SOE (Φ : Fx) (o : OE) : Prop := ∀ {c : Ctx} {W : WX} {X : Cx}, XOk Φ W c X → (∀ {x : Option Expr}, ckOE c o x = true → PO X x (tOI X W (evOI Φ o))) ∧ ∀ {ifs : List Expr}, ckC c o ifs = true → PTs X ifs (tK X W (evC Φ o))
def SIt (Φ : Fx) (i : It) : Prop := ∀ {c : Ctx} {W : WX} {X : Cx}, XOk Φ W c X → ∀ {e tg : Expr}, ckI c i e = true → PI X tg e (tI X W (evI Φ i))
section
variable {Φ : Fx}
/-- an expression whose truth is that of its value -/
theorem plainS {a : E} {o : Rho → R Opd} (he : ev2 Φ a = dfl o) (h : ∀ {c : Ctx} {W : WX} {X : Cx}, XOk Φ W c X → ∀ {e : Expr}, ckE c a e = true → PE X e (tO X W o) ∧ (plainT e = true)) (hb : ∀ {c : Ctx} {op xs p}, ckE c a (.BoolOp op xs p) = false) : SE Φ a := by
  intro c W X ok e hc
  obtain ⟨h1, h2⟩ := h ok hc
  rw [he]
  refine ⟨h1, fun _ => d_truth h1 h2, fun _ op xs p ee => ?_⟩
  subst ee
  rw [hb] at hc
  cases hc
theorem s_nm (i : Nat) : SE Φ (.nm i) := plainS rfl (fun ok e hc => by
  cases e <;> simp only [ckE] at hc <;> try contradiction
  exact ⟨d_nm ok hc, rfl⟩) (by intros; rfl)
theorem s_mv (i : Nat) : SE Φ (.mv i) := plainS rfl (fun ok e hc => by
  cases e <;> simp only [ckE] at hc <;> try contradiction
  exact ⟨d_mv ok hc, rfl⟩) (by intros; rfl)
theorem s_int (i : Int) : SE Φ (.int i) := plainS rfl (fun ok e hc => by
  cases e <;> try (simp only [ckE] at hc; done)
  case Constant v k p =>
    cases v <;> simp only [ckE] at hc <;> try contradiction
    have hc := of_decide_eq_true hc
    subst hc
    exact ⟨d_const pe_int fun _ => .int _, rfl⟩
  all_goals (simp only [ckE] at hc; contradiction)) (by intros; rfl)
theorem s_str (x : Str) : SE Φ (.str x) := plainS rfl (fun ok e hc => by
  cases e <;> try (simp only [ckE] at hc; done)
  case Constant v k p =>
    cases v <;> simp only [ckE] at hc <;> try contradiction
    have hc := of_decide_eq_true hc
    subst hc
    exact ⟨d_const pe_str fun _ => .str _, rfl⟩
  all_goals (simp only [ckE] at hc; contradiction)) (by intros; rfl)
theorem s_bl (b : Bool) : SE Φ (.bl b) := plainS rfl (fun ok e hc => by
  cases e <;> try (simp only [ckE] at hc; done)
  case Constant v k p =>
    cases v <;> simp only [ckE] at hc <;> try contradiction
    have hc := beq_iff_eq.mp hc
    subst hc
    exact ⟨d_const pe_bl fun _ => .bl _, rfl⟩
  all_goals (simp only [ckE] at hc; contradiction)) (by intros; rfl)
theorem s_non : SE Φ .non := plainS rfl (fun ok e hc => by
  cases e <;> try (simp only [ckE] at hc; done)
  case Constant v k p =>
    cases v <;> simp only [ckE] at hc <;> try contradiction
    exact ⟨d_const pe_non fun _ => .non, rfl⟩
  all_goals (simp only [ckE] at hc; contradiction)) (by intros; rfl)
theorem s_glb (x : Str) (d : D) : SE Φ (.glb x d) := plainS rfl (fun {c W X} ok e hc => by
  cases e <;> try (simp only [ckE] at hc; done)
  case Name y p =>
    simp only [ckE, Bool.and_eq_true, decide_eq_true_eq] at hc
    obtain ⟨⟨⟨⟨rfl, h1⟩, h2⟩, h3⟩, h4⟩ := hc
    cases q : c.tb.gls.lookup x with
    | none => rw [q] at h4; cases h4
    | some d' =>
      rw [q] at h4
      have := dEq_eq h4
      subst this
      exact ⟨d_glb ok h1 h2 h3 q, rfl⟩
  all_goals (simp only [ckE] at hc; contradiction)) (by intros; rfl)
theorem s_bin {op : Operator} {a b : E} (ha : SE Φ a) (hb : SE Φ b) : SE Φ (.bin op a b) := plainS rfl (fun ok e hc => by
  cases e <;> try (simp only [ckE] at hc; done)
  case BinOp x o y p =>
    simp only [ckE, Bool.and_eq_true, decide_eq_true_eq] at hc
    obtain ⟨⟨rfl, h1⟩, h2⟩ := hc
    exact ⟨d_bin op (ha ok h1).1 (hb ok h2).1, rfl⟩
  all_goals (simp only [ckE] at hc; contradiction)) (by intros; rfl)
theorem s_neg {a : E} (ha : SE Φ a) : SE Φ (.neg a) := plainS rfl (fun ok e hc => by
  cases e <;> try (simp only [ckE] at hc; done)
  case UnaryOp o x p =>
    cases o <;> simp only [ckE] at hc <;> try contradiction
    exact ⟨d_neg (ha ok hc).1, rfl⟩
  all_goals (simp only [ckE] at hc; contradiction)) (by intros; rfl)
theorem s_cmp {op : CmpOp} {a b : E} (ha : SE Φ a) (hb : SE Φ b) : SE Φ (.cmp op a b) := fun ok e hc => by
  cases e <;> try (simp only [ckE] at hc; done)
  case Compare x os ys p =>
    match os, ys, hc with
    | [o], [y], hc =>
      simp only [ckE, Bool.and_eq_true, decide_eq_true_eq] at hc
      obtain ⟨⟨⟨rfl, h1⟩, h2⟩, h3⟩ := hc
      obtain ⟨q1, q2⟩ := d_cmp ok op (ha ok h1).1 (hb ok h2).1 h3
      exact ⟨q1, fun _ => q2, fun _ _ _ _ z => nomatch z⟩
    | [], _, hc => simp only [ckE] at hc; contradiction
    | [_], [], hc => simp only [ckE] at hc; contradiction
    | [_], _ :: _ :: _, hc => simp only [ckE] at hc; contradiction
    | _ :: _ :: _, _, hc => simp only [ckE] at hc; contradiction
  all_goals (simp only [ckE] at hc; contradiction)
theorem s_chn {o1 o2 : CmpOp} {a b d : E} (ha : SE Φ a) (hb : SE Φ b) (hd : SE Φ d) : SE Φ (.chn o1 o2 a b d) := fun ok e hc => by
  cases e <;> try (simp only [ckE] at hc; done)
  case Compare x os ys p =>
    match os, ys, hc with
    | [p1, p2], [y, z], hc =>
      simp only [ckE, Bool.and_eq_true, decide_eq_true_eq] at hc
      obtain ⟨⟨⟨⟨⟨rfl, rfl⟩, h1⟩, h2⟩, h3⟩, h4⟩ := hc
      obtain ⟨q1, q2⟩ := d_chn ok o1 o2 (ha ok h1).1 (hb ok h2).1 (hd ok h3).1 h4
      exact ⟨q1, fun _ => q2, fun _ _ _ _ z => nomatch z⟩
    | [], _, hc => simp only [ckE] at hc; contradiction
    | [_], _, hc => simp only [ckE] at hc; contradiction
    | [_, _], [], hc => simp only [ckE] at hc; contradiction
    | [_, _], [_], hc => simp only [ckE] at hc; contradiction
    | [_, _], _ :: _ :: _ :: _, hc => simp only [ckE] at hc; contradiction
    | _ :: _ :: _ :: _, _, hc => simp only [ckE] at hc; contradiction
  all_goals (simp only [ckE] at hc; contradiction)
theorem s_and {a b : E} (ha : SE Φ a) (hb : SE Φ b) : SE Φ (.and_ a b) := fun {c W X} ok e hc => by
  cases e <;> try (simp only [ckE] at hc; done)
  case BoolOp o vs pos =>
    match o, vs, hc with
    | .And, [x, y], hc =>
      simp only [ckE, Bool.and_eq_true] at hc
      obtain ⟨h1, h2⟩ := hc
      have A := ha ok h1
      have B := hb ok h2
      have pw : tOk (.and_ a b) = true → PW X (.BoolOp .And [x, y] pos) (tK X W (ev2 Φ (.and_ a b)).2) := fun t => by
        have t' : tOk a = true ∧ tOk b = true := by simpa [tOk] using t
        exact d_andT (A.2.1 t'.1) (pw_and1 (B.2.1 t'.2))
      exact ⟨d_and (d_asT ok h1 A.1) (pe_one (d_asT ok h2 B.1)), fun t => (pw t).pt, fun t op xs p ee => by cases ee; exact pw t⟩
    | .And, x :: y :: z :: r, hc =>
      simp only [ckE, Bool.and_eq_true] at hc
      obtain ⟨h1, h2⟩ := hc
      have A := ha ok h1
      have B := hb ok h2
      have pw : tOk (.and_ a b) = true → PW X (.BoolOp .And (x :: y :: z :: r) pos) (tK X W (ev2 Φ (.and_ a b)).2) := fun t => by
        have t' : tOk a = true ∧ tOk b = true := by simpa [tOk] using t
        exact d_andT (A.2.1 t'.1) (B.2.2 t'.2 _ _ _ rfl)
      exact ⟨d_and (d_asT ok h1 A.1) (d_asT ok h2 B.1), fun t => (pw t).pt, fun t op xs p ee => by cases ee; exact pw t⟩
    | .And, [], hc => simp only [ckE] at hc; contradiction
    | .And, [_], hc => simp only [ckE] at hc; contradiction
    | .Or, _, hc => simp only [ckE] at hc; contradiction
  all_goals (simp only [ckE] at hc; contradiction)
theorem s_or {a b : E} (ha : SE Φ a) (hb : SE Φ b) : SE Φ (.or_ a b) := fun {c W X} ok e hc => by
  cases e <;> try (simp only [ckE] at hc; done)
  case BoolOp o vs pos =>
    match o, vs, hc with
    | .Or, [x, y], hc =>
      simp only [ckE, Bool.and_eq_true] at hc
      obtain ⟨h1, h2⟩ := hc
      have A := ha ok h1
      have B := hb ok h2
      have pw : tOk (.or_ a b) = true → PW X (.BoolOp .Or [x, y] pos) (tK X W (ev2 Φ (.or_ a b)).2) := fun t => by
        have t' : tOk a = true ∧ tOk b = true := by simpa [tOk] using t
        exact d_orT (A.2.1 t'.1) (pw_or1 (B.2.1 t'.2))
      exact ⟨d_or (d_asT ok h1 A.1) (pe_one (d_asT ok h2 B.1)), fun t => (pw t).pt, fun t op xs p ee => by cases ee; exact pw t⟩
    | .Or, x :: y :: z :: r, hc =>
      simp only [ckE, Bool.and_eq_true] at hc
      obtain ⟨h1, h2⟩ := hc
      have A := ha ok h1
      have B := hb ok h2
      have pw : tOk (.or_ a b) = true → PW X (.BoolOp .Or (x :: y :: z :: r) pos) (tK X W (ev2 Φ (.or_ a b)).2) := fun t => by
        have t' : tOk a = true ∧ tOk b = true := by simpa [tOk] using t
        exact d_orT (A.2.1 t'.1) (B.2.2 t'.2 _ _ _ rfl)
      exact ⟨d_or (d_asT ok h1 A.1) (d_asT ok h2 B.1), fun t => (pw t).pt, fun t op xs p ee => by cases ee; exact pw t⟩
    | .Or, [], hc => simp only [ckE] at hc; contradiction
    | .Or, [_], hc => simp only [ckE] at hc; contradiction
    | .And, _, hc => simp only [ckE] at hc; contradiction
  all_goals (simp only [ckE] at hc; contradiction)
theorem s_not {a : E} (ha : SE Φ a) : SE Φ (.not_ a) := fun ok e hc => by
  cases e <;> try (simp only [ckE] at hc; done)
  case UnaryOp o x p =>
    cases o <;> simp only [ckE] at hc <;> try contradiction
    exact ⟨d_not (ha ok hc).1, fun t => d_notT ((ha ok hc).2.1 t), fun _ _ _ _ z => nomatch z⟩
  all_goals (simp only [ckE] at hc; contradiction)
theorem s_ite {t a b : E} (ht : SE Φ t) (ha : SE Φ a) (hb : SE Φ b) : SE Φ (.ite t a b) := fun ok e hc => by
  cases e <;> try (simp only [ckE] at hc; done)
  case IfExp x y z p =>
    simp only [ckE, Bool.and_eq_true] at hc
    obtain ⟨⟨⟨h0, h1⟩, h2⟩, h3⟩ := hc
    exact ⟨d_ite ((ht ok h1).2.1 h0) (d_asT ok h2 (ha ok h2).1) (d_asT ok h3 (hb ok h3).1), fun z => by simp [tOk] at z, fun z => by simp [tOk] at z⟩
  all_goals (simp only [ckE] at hc; contradiction)
theorem s_lst {es : Es} (h : SEs Φ es) : SE Φ (.lst es) := plainS rfl (fun ok e hc => by
  cases e <;> try (simp only [ckE] at hc; done)
  case List xs p =>
    simp only [ckE] at hc
    exact ⟨d_lst (h ok hc).2, rfl⟩
  all_goals (simp only [ckE] at hc; contradiction)) (by intros; rfl)
theorem s_tup {es : Es} (h : SEs Φ es) : SE Φ (.tup es) := plainS rfl (fun ok e hc => by
  cases e <;> try (simp only [ckE] at hc; done)
  case Tuple xs k p =>
    simp only [ckE] at hc
    exact ⟨d_tup (h ok hc).2, rfl⟩
  all_goals (simp only [ckE] at hc; contradiction)) (by intros; rfl)
theorem s_idx {a i : E} (ha : SE Φ a) (hi : SE Φ i) : SE Φ (.idx a i) := plainS rfl (fun ok e hc => by
  cases e <;> try (simp only [ckE] at hc; done)
  case Subscript x y p =>
    simp only [ckE, Bool.and_eq_true] at hc
    obtain ⟨⟨h1, h2⟩, h3⟩ := hc
    exact ⟨d_idx (ha ok h1).1 (hi ok h2).1 h3, rfl⟩
  all_goals (simp only [ckE] at hc; contradiction)) (by intros; rfl)
theorem s_slc {a : E} {lo hi : OE} (ha : SE Φ a) (hl : SOE Φ lo) (hh : SOE Φ hi) : SE Φ (.slc a lo hi) := plainS rfl (fun ok e hc => by
  cases e <;> try (simp only [ckE] at hc; done)
  case Subscript x y p =>
    cases y <;> try (simp only [ckE] at hc; done)
    case Slice l h st p2 =>
      cases st <;> simp only [ckE] at hc <;> try contradiction
      simp only [Bool.and_eq_true] at hc
      obtain ⟨⟨h1, h2⟩, h3⟩ := hc
      exact ⟨d_slc (ha ok h1).1 ((hl ok).1 h2) ((hh ok).1 h3), rfl⟩
    all_goals (simp only [ckE] at hc; contradiction)
  all_goals (simp only [ckE] at hc; contradiction)) (by intros; rfl)
theorem evOs_len : ∀ {es : Es} {ρ : Rho} {os : List Opd} {ρ' : Rho}, evOs Φ es ρ = .ok os ρ' → os.length = es.len
  | .nil, ρ, os, ρ', h => by
    simp only [evOs] at h
    cases h
    rfl
  | .cons e es, ρ, os, ρ', h => by
    simp only [evOs] at h
    cases h1 : (ev2 Φ e).1 ρ with
    | no => rw [h1] at h; cases h
    | exc x r => rw [h1] at h; cases h
    | ok o ρ1 =>
      rw [h1] at h
      simp only [R.bind] at h
      cases h2 : evOs Φ es ρ1 with
      | no => rw [h2] at h; cases h
      | exc x r => rw [h2] at h; cases h
      | ok os2 ρ2 =>
        rw [h2] at h
        cases h
        exact congrArg (· + 1) (evOs_len h2)
theorem s_call {f : Str} {es : Es} {ds : List D} (h : SEs Φ es) : SE Φ (.call f es ds) := plainS rfl (fun ok e hc => by
  cases e <;> try (simp only [ckE] at hc; done)
  case Call g as kw p =>
    cases g <;> try (simp only [ckE] at hc; done)
    case Name x p2 =>
      cases kw <;> simp only [ckE] at hc <;> try contradiction
      simp only [Bool.and_eq_true, decide_eq_true_eq] at hc
      obtain ⟨⟨⟨⟨rfl, h1⟩, h2⟩, h3⟩, h4⟩ := hc
      refine ⟨d_call ok h1 h2 (h ok h3).1 (ckEs_star h3) (fun ρ xs ρ' e => evOs_len e) (fun ea => ?_) h4, rfl⟩
      subst ea
      cases es with
      | nil => funext ρ; rfl
      | cons _ _ => simp [ckEs] at h3
    all_goals (simp only [ckE] at hc; contradiction)
  all_goals (simp only [ckE] at hc; contradiction)) (by intros; rfl)
theorem s_bi {b : Bi} {es : Es} (h : SEs Φ es) : SE Φ (.bi b es) := plainS rfl (fun {c W X} ok e hc => by
  cases e <;> try (simp only [ckE] at hc; done)
  case Call g as kw p =>
    cases g <;> try (simp only [ckE] at hc; done)
    case Name x p2 =>
      cases as <;> cases kw <;> simp only [ckE] at hc <;> try contradiction
      simp only [Bool.and_eq_true, decide_eq_true_eq] at hc
      obtain ⟨⟨g1, g2⟩, g3⟩ := hc
      exact ⟨d_bi ok b g1 g2 (h ok g3).1 (ckEs_star g3), rfl⟩
    all_goals (simp only [ckE] at hc; contradiction)
  all_goals (simp only [ckE] at hc; contradiction)) (by intros; rfl)
theorem s_rl1 {a : E} (ha : SE Φ a) : SE Φ (.rl1 a) := plainS rfl (fun {c W X} ok e hc => by
  unfold ckE at hc
  split at hc <;> try contradiction
  all_goals (rename_i heq; cases heq)
  simp only [Bool.and_eq_true, decide_eq_true_eq] at hc
  obtain ⟨⟨⟨⟨⟨rfl, g1⟩, rfl⟩, g2⟩, g3⟩, g4⟩ := hc
  exact ⟨d_rngL1 ok g1 g2 (ha ok g3).1 g4, rfl⟩) (by intros; rfl)
theorem s_rl2 {a b : E} (ha : SE Φ a) (hb : SE Φ b) : SE Φ (.rl2 a b) := plainS rfl (fun {c W X} ok e hc => by
  unfold ckE at hc
  split at hc <;> try contradiction
  all_goals (rename_i heq; cases heq)
  simp only [Bool.and_eq_true, decide_eq_true_eq] at hc
  obtain ⟨⟨⟨⟨⟨⟨⟨rfl, g1⟩, rfl⟩, g2⟩, g3⟩, g4⟩, g5⟩, g6⟩ := hc
  exact ⟨d_rngL2 ok g1 g2 (ha ok g3).1 g4 (hb ok g5).1 g6, rfl⟩) (by intros; rfl)
theorem s_isi {a : E} {ks : List Kd} (h : SE Φ a) : SE Φ (.isi a ks) := plainS rfl (fun {c W X} ok e hc => by
  cases e <;> try (simp only [ckE] at hc; done)
  case Call g as kw p =>
    cases g <;> try (simp only [ckE] at hc; done)
    case Name x p2 =>
      match as, kw, hc with
      | [y, z], [], hc =>
        simp only [ckE, Bool.and_eq_true, decide_eq_true_eq] at hc
        obtain ⟨⟨⟨⟨rfl, g1⟩, g2⟩, g3⟩, g4⟩ := hc
        split at g4
        · next k n p3 =>
          simp only [Bool.and_eq_true, decide_eq_true_eq] at g4
          exact ⟨d_isi1 ok g1 (h ok g2).1 g3 g4.1 g4.2, rfl⟩
        · next ks' es kk p3 =>
          simp only [Bool.and_eq_true, decide_eq_true_eq] at g4
          exact ⟨d_isiT ok g1 (h ok g2).1 g3 g4.1 (Nat.le_trans (Nat.le_of_lt g4.2) (by decide)), rfl⟩
        · cases g4
      | [], _, hc => simp only [ckE] at hc; contradiction
      | [_], _, hc => simp only [ckE] at hc; contradiction
      | _ :: _ :: _ :: _, _, hc => simp only [ckE] at hc; contradiction
      | [_, _], _ :: _, hc => simp only [ckE] at hc; contradiction
    all_goals (simp only [ckE] at hc; contradiction)
  all_goals (simp only [ckE] at hc; contradiction)) (by intros; rfl)
theorem s_me {m : Me} {o : E} {es : Es} (ho : SE Φ o) (h : SEs Φ es) : SE Φ (.me m o es) := plainS rfl (fun {c W X} ok e hc => by
  cases e <;> try (simp only [ckE] at hc; done)
  case Call g as kw p =>
    cases g <;> try (simp only [ckE] at hc; done)
    case Attribute x n ap =>
      cases as <;> cases kw <;> simp only [ckE] at hc <;> try contradiction
      simp only [Bool.and_eq_true, decide_eq_true_eq] at hc
      obtain ⟨⟨⟨⟨⟨⟨rfl, rfl⟩, g1⟩, g2⟩, rfl⟩, g4⟩, g5⟩ := hc
      exact ⟨d_index ok (ho ok g1).1 (h ok g5).1 g2 g4 (ckEs_star g5 _ (List.mem_cons_self ..)), rfl⟩
    all_goals (simp only [ckE] at hc; contradiction)
  all_goals (simp only [ckE] at hc; contradiction)) (by intros; rfl)
theorem s_mu {m : Mu} {i : Nat} {es : Es} (h : SEs Φ es) : SE Φ (.mu m i es) := plainS rfl (fun {c W X} ok e hc => by
  cases e <;> try (simp only [ckE] at hc; done)
  case Call g as kw p =>
    cases g <;> try (simp only [ckE] at hc; done)
    case Attribute o n ap =>
      cases o <;> try (simp only [ckE] at hc; done)
      case Name x p0 =>
        cases kw <;> simp only [ckE] at hc <;> try contradiction
        simp only [Bool.and_eq_true, decide_eq_true_eq] at hc
        obtain ⟨⟨⟨⟨⟨g1, rfl⟩, g2⟩, g3⟩, g4⟩, g5⟩ := hc
        refine ⟨d_mu ok m g1 g2 (h ok g5).2 g3 g4 (ckEs_star g5) (fun ea => ?_), rfl⟩
        subst ea
        cases es with
        | nil => funext ρ; rfl
        | cons _ _ => simp [ckEs] at g5
      all_goals (simp only [ckE] at hc; contradiction)
    all_goals (simp only [ckE] at hc; contradiction)
  all_goals (simp only [ckE] at hc; contradiction)) (by intros; rfl)
theorem s_lc (s0 : Shared) {tg : Tg} {own : List Nat} {it : It} {cd : OE} {elt : E} (hi : SIt Φ it) (hd : SOE Φ cd) (he : SE Φ elt) : SE Φ (.lc tg own it cd elt) := plainS rfl (fun {c W X} ok e hc => by
  cases e <;> try (simp only [ckE] at hc; done)
  case ListComp ee gens scope p =>
    match gens, hc with
    | [⟨te, ie, ifs, 0⟩], hc =>
      simp only [ckE, Bool.and_eq_true, decide_eq_true_eq] at hc
      obtain ⟨⟨⟨⟨⟨⟨⟨⟨g1, g2⟩, g3⟩, g4⟩, g5⟩, g6⟩, g7⟩, g8⟩, g9⟩ := hc
      have htg : ∀ i ∈ tg.is, i ∈ own := fun i hi => of_decide_eq_true (List.all_eq_true.mp g5 i hi)
      have blk := ok.blk (s := s0) (H := fun _ => none) (scope := scope) (cl := []) (C := 0) (fp := [])
      have hlt := ckTg_lt blk g3
      exact ⟨d_lc ok g1 g2 g4 htg g6 (hi ok g7) (fun X' ok' ek => by have := g_of ok' g3; rw [ek] at this; exact this) hlt (fun X' ok' => (hd ok').2 g9) (fun X' ok' => d_frz (d_asT ok' g8 (he ok' g8).1)), rfl⟩
    | [], hc => simp only [ckE] at hc; contradiction
    | _ :: _ :: _, hc => simp only [ckE] at hc; contradiction
    | [⟨_, _, _, .ofNat (n + 1)⟩], hc => simp only [ckE] at hc; contradiction
    | [⟨_, _, _, .negSucc n⟩], hc => simp only [ckE] at hc; contradiction
  all_goals (simp only [ckE] at hc; contradiction)) (by intros; rfl)
theorem s_nil : SEs Φ .nil := fun ok xs hc => by
  cases xs <;> simp only [ckEs] at hc <;> try contradiction
  exact ⟨a_nilO, a_nilD⟩
theorem s_cons {e : E} {es : Es} (he : SE Φ e) (hes : SEs Φ es) : SEs Φ (.cons e es) := fun ok xs hc => by
  cases xs <;> simp only [ckEs] at hc <;> try contradiction
  simp only [Bool.and_eq_true] at hc
  obtain ⟨⟨g1, g2⟩, g3⟩ := hc
  exact ⟨a_consO (he ok g1).1 (hes ok g3).1 g2, a_consD (d_frz (d_asT ok g1 (he ok g1).1)) (hes ok g3).2 g2⟩
theorem s_onone : SOE Φ .none := fun ok => ⟨fun {x} hc => by
  cases x <;> simp only [ckOE] at hc <;> try contradiction
  exact o_none, fun {ifs} hc => by
  cases ifs <;> simp only [ckC] at hc <;> try contradiction
  exact c_nil⟩
theorem s_osome {e : E} (he : SE Φ e) : SOE Φ (.some e) := fun ok => ⟨fun {x} hc => by
  cases x <;> simp only [ckOE] at hc <;> try contradiction
  exact o_some (he ok hc).1, fun {ifs} hc => by
  match ifs, hc with
  | [x], hc =>
    simp only [ckC, Bool.and_eq_true] at hc
    exact c_one ((he ok hc.2).2.1 hc.1)
  | [], hc => simp only [ckC] at hc; contradiction
  | _ :: _ :: _, hc => simp only [ckC] at hc; contradiction⟩
theorem s_opd {e : E} (he : SE Φ e) : SIt Φ (.opd e) := fun ok x tg hc => by
  simp only [ckI] at hc
  exact i_opd (he ok hc).1
theorem s_rng1 {a : E} (ha : SE Φ a) : SIt Φ (.rng1 a) := fun ok x tg hc => by
  simp only [ckI] at hc
  split at hc
  · simp only [Bool.and_eq_true, decide_eq_true_eq] at hc
    obtain ⟨⟨⟨rfl, g1⟩, g2⟩, g3⟩ := hc
    exact i_rng1 ok g1 (ha ok g2).1 g3
  · cases hc
theorem s_rng2 {a b : E} (ha : SE Φ a) (hb : SE Φ b) : SIt Φ (.rng2 a b) := fun ok x tg hc => by
  simp only [ckI] at hc
  split at hc
  · simp only [Bool.and_eq_true, decide_eq_true_eq] at hc
    obtain ⟨⟨⟨⟨⟨rfl, g1⟩, g2⟩, g3⟩, g4⟩, g5⟩ := hc
    exact i_rng2 ok g1 (ha ok g2).1 g3 (hb ok g4).1 g5
  · cases hc
theorem s_revR1 {a : E} (ha : SE Φ a) : SIt Φ (.revR1 a) := fun ok x tg hc => by
  simp only [ckI] at hc
  split at hc
  · simp only [Bool.and_eq_true, decide_eq_true_eq] at hc
    obtain ⟨⟨⟨⟨⟨rfl, g0⟩, rfl⟩, g1⟩, g2⟩, g3⟩ := hc
    exact i_revR1 ok g0 g1 (ha ok g2).1 g3
  · cases hc
end
section
variable (Φ : Fx)
mutual
theorem sE : ∀ a : E, SE Φ a
  | .nm i => s_nm i
  | .mv i => s_mv i
  | .int i => s_int i
  | .str x => s_str x
  | .bl b => s_bl b
  | .non => s_non
  | .glb x d => s_glb x d
  | .bin op a b => s_bin (sE a) (sE b)
  | .neg a => s_neg (sE a)
  | .cmp op a b => s_cmp (sE a) (sE b)
  | .chn o1 o2 a b d => s_chn (sE a) (sE b) (sE d)
  | .and_ a b => s_and (sE a) (sE b)
  | .or_ a b => s_or (sE a) (sE b)
  | .not_ a => s_not (sE a)
  | .ite t a b => s_ite (sE t) (sE a) (sE b)
  | .lst es => s_lst (sEs es)
  | .tup es => s_tup (sEs es)
  | .idx a i => s_idx (sE a) (sE i)
  | .slc a lo hi => s_slc (sE a) (sOE lo) (sOE hi)
  | .call f es ds => s_call (sEs es)
  | .bi b es => s_bi (sEs es)
  | .rl1 a => s_rl1 (sE a)
  | .rl2 a b => s_rl2 (sE a) (sE b)
  | .isi a ks => s_isi (sE a)
  | .me m o es => s_me (sE o) (sEs es)
  | .mu m i es => s_mu (sEs es)
  | .lc tg own it cd elt => s_lc {} (sI it) (sOE cd) (sE elt)
theorem sEs : ∀ es : Es, SEs Φ es
  | .nil => s_nil
  | .cons e es => s_cons (sE e) (sEs es)
theorem sOE : ∀ o : OE, SOE Φ o
  | .none => s_onone
  | .some e => s_osome (sE e)
theorem sI : ∀ i : It, SIt Φ i
  | .opd e => s_opd (sE e)
  | .rng1 a => s_rng1 (sE a)
  | .rng2 a b => s_rng2 (sE a) (sE b)
  | .revR1 a => s_revR1 (sE a)
  | .revR2 a b => fun ok x tg hc => by simp only [ckI] at hc; contradiction
  | .rev e => fun ok x tg hc => by simp only [ckI] at hc; contradiction
end
end
end L2.Eng

/-! EngG: statements. -/
namespace L2.Eng
open PySem PySem.Spec PyProof.Rows

/-! ### which text a statement of the small language stands for -/
def noComp : Expr → Bool
  | .ListComp .. => false
  | .SetComp .. => false
  | .DictComp .. => false
  | _ => true
def noTup : Expr → Bool
  | .Tuple .. => false
  | _ => true
def swB (sc : Scope) (x : Str) (pl : Nat) (s : Scope) (l : Nat) : Bool :=
  decide (sc.names.lookup x = some .local) && (pl == l) && !(s.names.any fun (n, k) => n == x && (k == .local || k == .cell))
def setC : Expr → Bool
  | .SetComp .. => false
  | .DictComp .. => false
  | _ => true
def ckCst : D → Expr → Bool
  | .none, .Constant .none _ _ => true
  | .bool b, .Constant (.bool d) _ _ => b == d
  | .int i, .Constant (.int j) _ _ => decide (i = j)
  | .str x, .Constant (.str y) _ _ => decide (x = y)
  | _, _ => false
def ckHs (c : Ctx) : List (Str × D) → List ExceptHandler → Bool
  | [], [] => true
  | (h, d) :: r, .ExceptHandler (some (.Name x _)) none [.Return (some e) _] _ :: hs => decide (x = h) && glbB c.sc x && noDbg x && decide (x ∈ c.tb.hds) && ckCst d e && ckHs c r hs
  | _, _ => false
def isLoc (sc : Scope) (x : Str) : Bool := decide (sc.names.lookup x = some .local)
mutual
def ckS (c : Ctx) : S → Stmt → Bool
  | .set i e, st => match st with
    | .Assign [.Name x p] v _ => c.storeOk i x && ckE c e v && setC v
    | _ => false
  | .setF i e, st => match st with
    | .Assign [.Name x p] v _ => c.storeOk i x && ckE c e v && setC v
    | _ => false
  | .setT is e, st => match st with
    | .Assign [.Tuple es _ _] v _ => ckTgs c is es && ckE c e v && noTup v && noComp v
    | _ => false
  | .par i j a b, st => match st with
    | .Assign [.Tuple [.Name x px, .Name y py] _ _] (.Tuple [u, v] _ _) _ => c.storeOk i x && c.storeOk j y && isLoc c.sc x && isLoc c.sc y && decide (i ≠ j) && decide (x ≠ y) && (py.line == px.line) && !(foldedForSure 8 u && foldedForSure 8 v) && !(constantsAlone 8 u && constantsAlone 8 v) && ckE c a u && noStar u && ckE c b v && noStar v
    | _ => false
  | .sub i k e, st => match st with
    | .Assign [.Subscript (.Name x _) y _] v _ => c.nameOk i x && ckE c k y && noSlice y && ckE c e v
    | _ => false
  | .expr e, st => match st with
    | .Expr v _ => ckE c e v && noComp v
    | _ => false
  | .ret e, st => match st with
    | .Return (some v) _ => ckE c e v
    | _ => false
  | .retN, st => match st with
    | .Return none _ => true
    | _ => false
  | .ifS t a b, st => match st with
    | .If v x y _ => tOk t && ckE c t v && ckSs c a x && ckSs c b y
    | _ => false
  | .whl t b, st => match st with
    | .While v x [] _ => tOk t && ckE c t v && ckSs c b x
    | _ => false
  | .for_ tg it b, st => match st with
    | .For te ie x [] _ => ckTg c tg te && ckI c it ie && noSet ie && ckSs c b x
    | _ => false
  | .raise n e, st => match st with
    | .Raise (some (.Call (.Name x _) [a] [] _)) none _ => decide (x = n) && glbB c.sc x && noDbg x && decide (x ∈ c.tb.excs) && ckE c e a && noStar a
    | _ => false
  | .tryR b hs, st => match st with
    | .Try x (h₀ :: hds) [] [] _ => ckSs c b x && ckHs c hs (h₀ :: hds)
    | _ => false
  | .tryC b h i f, st => match st with
    | .Try x [.ExceptHandler (some (.Name n _)) (some m) [.Return (some (.Call (.Name g _) [.Name z _] [] _)) _] _] [] [] _ => ckSs c b x && decide (n = h) && glbB c.sc n && noDbg n && decide (n ∈ c.tb.hds) && decide (c.N[i]? = some m) && isLoc c.sc m && decide (g = f) && glbB c.sc g && noDbg g && decide (z = m) && noDbg z
    | _ => false
  | .pass, st => match st with
    | .Pass _ => true
    | _ => false
  | .brk, st => match st with
    | .Break _ => true
    | _ => false
  | .cont, st => match st with
    | .Continue _ => true
    | _ => false
def ckSs (c : Ctx) : Ss → List Stmt → Bool
  | .nil, [] => true
  | .cons s ss, x :: xs => ckS c s x && ckSs c ss xs
  | _, _ => false
end

/-! ### the readings -/
structure XS (Φ : Fx) (W : WX) (c : Ctx) (X : Cx) : Prop extends XOk Φ W c X where
  scE : X.env.scope = c.sc
  kd : c.sc.kind = .function
  pass : PassesOwn (model X.prog X.w) X.A X.env X.xe
  stk : X.stack = X.env :: X.outer
  frm : X.env.frame = some X.env.locals
def SxP (X : Cx) (W : WX) (l : List Nat) (G : Hp) (τ : List (V × T)) (σ : St) (x : Ex) (ρ : Rho) : Prop := ∀ cls d σ' G' H', ExOk X.K X.mg x cls d G' H' → Same G G' → Rel G' ρ τ σ' H' → But l σ σ' → W cls d σ' H'
def FlP (D : Ends) (l : List Nat) (G : Hp) (τ : List (V × T)) (σ : St) (fl : Fl) (ρ : Rho) : Prop := match fl with
  | .nx => ∀ σ' G' H', Same G G' → Rel G' ρ τ σ' H' → But l σ σ' → D.nx σ' H'
  | .bk => ∀ σ' G' H', Same G G' → Rel G' ρ τ σ' H' → But l σ σ' → D.bk σ' H'
  | .ct => ∀ σ' G' H', Same G G' → Rel G' ρ τ σ' H' → But l σ σ' → D.ct σ' H'
  | .rt t => ∀ v σ' G' H', Same G G' → Rel G' ρ ((v, t) :: τ) σ' H' → But l σ σ' → D.rt v H'
def tS (X : Cx) (W : WX) (l : List Nat) (f : Rho → R Fl) : TS := fun D σ H => ∃ G ρ τ, Rel G ρ τ σ H ∧ wpR (f ρ) (FlP D l G τ σ) (SxP X W l G τ σ)
section
variable {X : Cx} {W : WX} {l l1 : List Nat} {G G1 H : Hp} {τ τ1 : List (V × T)} {σ σ1 : St} {x : Ex} {ρ : Rho} {D : Ends} {fl : Fl}
theorem SxP.move (h : SxP X W l G τ σ x ρ) (s : Same G G1) (t : τ.Sublist τ1) (b : But l σ σ1) (m : ∀ i ∈ l1, i ∈ l) : SxP X W l1 G1 τ1 σ1 x ρ :=
  fun cls d σ' G' H' e s' R b' => h cls d σ' G' H' e (s.trans s') (R.sub t) (b.trans (b'.mono m))
theorem SxP.ex (h : SxP X W l G τ σ x ρ) (s : Same G G1) (t : τ.Sublist τ1) (b : But l σ σ1) : ExP X W G1 τ1 σ1 x ρ :=
  fun cls d G' H' e s' R => h cls d σ1 G' H' e (s.trans s') (R.sub t) b
theorem FlP.move (h : FlP D l G τ σ fl ρ) (s : Same G G1) (t : τ.Sublist τ1) (b : But l σ σ1) (m : ∀ i ∈ l1, i ∈ l) : FlP D l1 G1 τ1 σ1 fl ρ := by
  cases fl with
  | nx => exact fun σ' G' H' s' R b' => h σ' G' H' (s.trans s') (R.sub t) (b.trans (b'.mono m))
  | bk => exact fun σ' G' H' s' R b' => h σ' G' H' (s.trans s') (R.sub t) (b.trans (b'.mono m))
  | ct => exact fun σ' G' H' s' R b' => h σ' G' H' (s.trans s') (R.sub t) (b.trans (b'.mono m))
  | rt u => exact fun v σ' G' H' s' R b' => h v σ' G' H' (s.trans s') (R.sub (List.Sublist.cons_cons _ t)) (b.trans (b'.mono m))
end
theorem noComp_sw {e : Expr} (h : noComp e = true) (t : Option Expr) (n : Nat) (env : Env) : swapsWith e t n env = pure false := by
  cases e <;> first | rfl | cases h
theorem sw_comp {ee : Expr} {gs : List Comprehension} {s : Scope} {p py : Pos} {y : Str} {n : Nat} {env : Env} : swapsWith (.ListComp ee gs s p) (some (.Name y py)) n env =
    pure (env.blockKind == .function && env.kindOf y == some .local && py.line == p.line && !(s.names.any fun (n, k) => n == y && (k == .local || k == .cell))) := rfl

def SS (Φ : Fx) (s : S) : Prop := ∀ {c : Ctx} {W : WX} {X : Cx}, XS Φ W c X → ∀ {st : Stmt}, ckS c s st = true → PS X st (tS X W s.sets (exS Φ s))
def SSs (Φ : Fx) (ss : Ss) : Prop := ∀ {c : Ctx} {W : WX} {X : Cx}, XS Φ W c X → ∀ {xs : List Stmt}, ckSs c ss xs = true → PSs X xs (tS X W ss.sets (exSs Φ ss))
theorem _root_.L2.PS.weak {X : Cx} {e : Stmt} {t t' : TS} (h : PS X e t) (w : ∀ D σ H, t' D σ H → t D σ H) : PS X e t' := h.weakL fun D σ H _ => w D σ H
theorem _root_.L2.PSs.weak {X : Cx} {e : List Stmt} {t t' : TS} (h : PSs X e t) (w : ∀ D σ H, t' D σ H → t D σ H) : PSs X e t' := ⟨fun pins s σ H D I q => h.run pins s σ H D I (w _ _ _ q)⟩
section
variable {Φ : Fx}
theorem t_nil : SSs Φ .nil := fun ok xs hc => by
  cases xs <;> simp only [ckSs] at hc <;> try contradiction
  exact pss_nil.weak fun D σ H ⟨G, ρ, τ, R, h⟩ => h σ G H (Same.refl _) R (.refl _ _)
theorem t_cons {s : S} {ss : Ss} (h1 : SS Φ s) (h2 : SSs Φ ss) : SSs Φ (.cons s ss) := fun {c W X} ok xs hc => by
  cases xs <;> simp only [ckSs] at hc <;> try contradiction
  simp only [Bool.and_eq_true] at hc
  refine (pss_cons (h1 ok hc.1) (h2 ok hc.2)).weak fun D σ H ⟨G, ρ, τ, R, h⟩ => ?_
  unfold exSs at h
  rw [wpR_bind] at h
  have m1 : ∀ i ∈ s.sets, i ∈ (Ss.cons s ss).sets := fun i hi => List.mem_append_left _ hi
  have m2 : ∀ i ∈ ss.sets, i ∈ (Ss.cons s ss).sets := fun i hi => List.mem_append_right _ hi
  refine ⟨G, ρ, τ, R, h.mono (fun fl ρ1 p => ?_) fun x ρ1 p => p.move (Same.refl _) (.refl _) (.refl _ _) m1⟩
  cases fl with
  | nx => exact fun σ1 G1 H1 s1 R1 b1 => ⟨G1, ρ1, τ, R1, p.mono (fun fl ρ2 q => q.move s1 (.refl _) (b1.mono m1) m2) fun x ρ2 q => q.move s1 (.refl _) (b1.mono m1) m2⟩
  | bk => exact FlP.move (fl := .bk) p (Same.refl _) (.refl _) (.refl _ _) m1
  | ct => exact FlP.move (fl := .ct) p (Same.refl _) (.refl _) (.refl _ _) m1
  | rt t => exact FlP.move (fl := .rt t) p (Same.refl _) (.refl _) (.refl _ _) m1
theorem t_pass : SS Φ .pass := fun ok st hc => by
  simp only [ckS] at hc
  split at hc
  case h_2 => cases hc
  exact ps_pass.weak fun D σ H ⟨G, ρ, τ, R, h⟩ => h σ G H (Same.refl _) R (.refl _ _)
theorem t_brk : SS Φ .brk := fun ok st hc => by
  simp only [ckS] at hc
  split at hc
  case h_2 => cases hc
  exact ps_break.weak fun D σ H ⟨G, ρ, τ, R, h⟩ => h σ G H (Same.refl _) R (.refl _ _)
theorem t_cont : SS Φ .cont := fun ok st hc => by
  simp only [ckS] at hc
  split at hc
  case h_2 => cases hc
  exact ps_continue.weak fun D σ H ⟨G, ρ, τ, R, h⟩ => h σ G H (Same.refl _) R (.refl _ _)
theorem t_retN : SS Φ .retN := fun ok st hc => by
  simp only [ckS] at hc
  split at hc
  case h_2 => cases hc
  exact ps_retN.weak fun D σ H ⟨G, ρ, τ, R, h⟩ => h .non σ G H (Same.refl _) (R.addFz .non) (.refl _ _)
theorem t_ret {e : E} : SS Φ (.ret e) := fun ok st hc => by
  simp only [ckS] at hc
  split at hc
  case h_2 => cases hc
  refine (ps_ret (d_asT ok.toXOk hc (sE Φ e ok.toXOk hc).1)).weak fun D σ H ⟨G, ρ, τ, R, h⟩ => ?_
  unfold exS at h
  rw [wpR_map] at h
  exact tT.step R h (fun x ρ1 p => p.ex (Same.refl _) (.refl _) (.refl _ _)) fun t ρ1 v G1 H1 p s1 R1 => p v σ G1 H1 s1 R1 (.refl _ _)
theorem t_expr {e : E} : SS Φ (.expr e) := fun ok st hc => by
  simp only [ckS] at hc
  split at hc
  case h_2 => cases hc
  simp only [Bool.and_eq_true] at hc
  refine (ps_expr (sE Φ e ok.toXOk hc.1).1 (noComp_sw hc.2 _ _ _)).weak fun D σ H ⟨G, ρ, τ, R, h⟩ => ?_
  unfold exS at h
  rw [wpR_bind] at h
  exact tO.step R h (fun x ρ1 p => p.ex (Same.refl _) (.refl _) (.refl _ _)) fun o ρ1 v G1 H1 p s1 R1 _ => p σ G1 H1 s1 (R1.sub (Opd.sub _ _ _)) (.refl _ _)
theorem t_if {t : E} {a b : Ss} (ha : SSs Φ a) (hb : SSs Φ b) : SS Φ (.ifS t a b) := fun ok st hc => by
  simp only [ckS] at hc
  split at hc
  case h_2 => cases hc
  simp only [Bool.and_eq_true] at hc
  obtain ⟨⟨⟨g1, g2⟩, g3⟩, g4⟩ := hc
  refine (ps_if ((sE Φ t ok.toXOk g2).2.1 g1) (ha ok g3) (hb ok g4)).weak fun D σ H ⟨G, ρ, τ, R, h⟩ => ?_
  unfold exS at h
  rw [wpR_bind] at h
  refine tK.step R h (fun x ρ1 p => p.ex (Same.refl _) (.refl _) (.refl _ _)) fun k ρ1 G1 H1 p s1 R1 => ?_
  have m1 : ∀ i ∈ a.sets, i ∈ (S.ifS t a b).sets := fun i hi => List.mem_append_left _ hi
  have m2 : ∀ i ∈ b.sets, i ∈ (S.ifS t a b).sets := fun i hi => List.mem_append_right _ hi
  cases k with
  | true => exact ⟨G1, ρ1, τ, R1, wpR.mono (show wpR (exSs Φ a ρ1) _ _ from p) (fun fl ρ2 q => q.move s1 (.refl _) (.refl _ _) m1) fun x ρ2 q => q.move s1 (.refl _) (.refl _ _) m1⟩
  | false => exact ⟨G1, ρ1, τ, R1, wpR.mono (show wpR (exSs Φ b ρ1) _ _ from p) (fun fl ρ2 q => q.move s1 (.refl _) (.refl _ _) m2) fun x ρ2 q => q.move s1 (.refl _) (.refl _ _) m2⟩
theorem t_whl {t : E} {b : Ss} (hb : SSs Φ b) : SS Φ (.whl t b) := fun {c W X} ok st hc => by
  simp only [ckS] at hc
  split at hc
  case h_2 => cases hc
  simp only [Bool.and_eq_true] at hc
  obtain ⟨⟨g1, g2⟩, g3⟩ := hc
  refine (ps_while ok.pass ((sE Φ t ok.toXOk g2).2.1 g1) (hb ok g3)).weak fun D σ H ⟨G, ρ, τ, R, h⟩ => ?_
  unfold exS at h
  refine ⟨fun m σ1 H1 => ∃ G1 ρ1, Same G G1 ∧ Rel G1 ρ1 τ σ1 H1 ∧ But b.sets σ σ1 ∧ wpR (whileRun (evB Φ t) (exSs Φ b) m ρ1) (FlP D b.sets G τ σ) (SxP X W b.sets G τ σ), ⟨Φ.fuel, G, ρ, Same.refl _, R, .refl _ _, h⟩, ?_⟩
  rintro m σ1 H1 ⟨G1, ρ1, s1, R1, b1, h1⟩
  cases m with
  | zero => exact h1.elim
  | succ m =>
    have h2 : wpR (evB Φ t ρ1) (fun k ρ2 => wpR (if k = true then (match exSs Φ b ρ2 with
        | .ok .nx ρ3 => whileRun (evB Φ t) (exSs Φ b) m ρ3
        | .ok .ct ρ3 => whileRun (evB Φ t) (exSs Φ b) m ρ3
        | .ok .bk ρ3 => .ok .nx ρ3
        | .ok (.rt t) ρ3 => .ok (.rt t) ρ3
        | .exc x ρ3 => .exc x ρ3
        | .no => .no) else .ok .nx ρ2) (FlP D b.sets G τ σ) (SxP X W b.sets G τ σ)) (SxP X W b.sets G τ σ) := by
      unfold whileRun at h1
      cases e : evB Φ t ρ1 with
      | ok k ρ2 => rw [e] at h1; cases k <;> exact h1
      | exc x ρ2 => rw [e] at h1; exact h1
      | no => rw [e] at h1; exact h1
    refine tK.step R1 h2 (fun x ρ2 p => p.ex s1 (.refl _) b1) fun k ρ2 G2 H2 p s2 R2 => ?_
    cases k with
    | false =>
      rw [if_neg Bool.false_ne_true] at p ⊢
      exact p σ1 G2 H2 (s1.trans s2) R2 b1
    | true =>
      rw [if_pos rfl] at p ⊢
      refine ⟨fun σ3 H3 => ∃ G3 ρ3, Same G G3 ∧ Rel G3 ρ3 τ σ3 H3 ∧ But b.sets σ σ3 ∧ wpR (whileRun (evB Φ t) (exSs Φ b) m ρ3) (FlP D b.sets G τ σ) (SxP X W b.sets G τ σ), fun σ3 H3 w => ⟨m, Nat.lt_succ_self m, w⟩, G2, ρ2, τ, R2, ?_⟩
      cases e : exSs Φ b ρ2 with
      | no => rw [e] at p; exact p
      | exc x ρ3 => rw [e] at p; exact SxP.move p (s1.trans s2) (.refl _) b1 fun _ z => z
      | ok fl ρ3 =>
        rw [e] at p
        cases fl with
        | nx => exact fun σ3 G3 H3 s3 R3 b3 => ⟨G3, ρ3, (s1.trans s2).trans s3, R3, b1.trans b3, p⟩
        | ct => exact fun σ3 G3 H3 s3 R3 b3 => ⟨G3, ρ3, (s1.trans s2).trans s3, R3, b1.trans b3, p⟩
        | bk => exact fun σ3 G3 H3 s3 R3 b3 => p σ3 G3 H3 ((s1.trans s2).trans s3) R3 (b1.trans b3)
        | rt u => exact fun v σ3 G3 H3 s3 R3 b3 => p v σ3 G3 H3 ((s1.trans s2).trans s3) R3 (b1.trans b3)
theorem t_for {tg : Tg} {it : It} {b : Ss} (hb : SSs Φ b) : SS Φ (.for_ tg it b) := fun {c W X} ok st hc => by
  simp only [ckS] at hc
  split at hc
  case h_2 => cases hc
  rename_i te ie x pp
  simp only [Bool.and_eq_true] at hc
  obtain ⟨⟨⟨g1, g2⟩, g3⟩, g4⟩ := hc
  have hs : ∀ x, foldedSetIterable ie X.env x = pure x := by
    intro x
    cases ie <;> first | rfl | cases g3
  refine (ps_for ok.pass ok.calm (sI Φ it ok.toXOk g2) (g_of ok.toXOk g1) (hb ok g4) hs).weakL fun D σ H hlen ⟨G, ρ, τ, R, h⟩ => ?_
  unfold exS at h
  rw [wpR_bind] at h
  refine ⟨G, ρ, τ, R, h.mono (fun src ρ0 p J A G0 H0 s0 R0 hJ => ?_) fun x ρ1 q => q.ex (Same.refl _) (.refl _) (.refl _ _)⟩
  split at p
  case isFalse => exact p.elim
  case isTrue hfree =>
  let ls := tg.is ++ b.sets
  let Wn : Nat → Nat → St → Hp → Prop := fun i m σ1 H1 => i + m = src.len ∧ ∃ G1 ρ1, Same G0 G1 ∧ Rel G1 ρ1 (A ++ τ) σ1 H1 ∧ But ls σ σ1 ∧ wpR (forRun tg src (exSs Φ b) m i ρ1) (FlP D ls G τ σ) (SxP X W ls G τ σ)
  have hlt : ∀ i ∈ tg.is, i < σ.length := fun i hi => by rw [hlen]; exact ckTg_lt ok.toXOk g1 i hi
  have m1 : ∀ i ∈ tg.is, i ∈ ls := fun i hi => List.mem_append_left _ hi
  have m2 : ∀ i ∈ b.sets, i ∈ ls := fun i hi => List.mem_append_right _ hi
  have tA : τ.Sublist (A ++ τ) := List.sublist_append_right _ _
  refine ⟨Wn, ⟨src.len, Nat.zero_add _, G0, ρ0, Same.refl _, R0, .refl _ _, p⟩, ?_⟩
  rintro i m σ1 H1 ⟨hm, G1, ρ1, s1, R1, b1, p1⟩
  have keep : ∀ k i n, src = .sl k i n → slotT ρ1 i ≠ none → σ1[i]? = σ[i]? := fun k i n e _ => by
    subst e
    refine b1.2 i ?_
    have hf : i ∉ tg.is ++ b.sets := by simpa [Src.free] using hfree
    exact hf
  obtain ⟨items, stops⟩ := hJ G1 ρ1 τ σ1 H1 R1 keep
  cases m with
  | zero =>
    unfold forRun at p1
    split at p1
    · next hf =>
      have hi : i = src.len := by omega
      subst hi
      exact .inl ⟨stops hf, p1 σ1 G1 H1 (s0.trans s1) (R1.sub tA) b1⟩
    · exact p1.elim
  | succ m =>
    unfold forRun at p1
    have hi : i < src.len := by omega
    cases ei : src.item i ρ1 with
    | none => rw [ei] at p1; exact p1.elim
    | some d =>
      rw [ei] at p1
      simp only at p1
      obtain ⟨go, yld⟩ := items i d hi ei
      refine .inr ⟨go, Wn (i + 1) m, fun σ3 H3 w => ⟨m, Nat.lt_succ_self m, w⟩, fun x H' hy => ?_⟩
      obtain ⟨rfl, rx⟩ := yld x H' hy
      cases ep : tg.put d ρ1 with
      | none => rw [ep] at p1; exact p1.elim
      | some ρ2 =>
        rw [ep] at p1
        simp only at p1
        refine put_tg R1 rx ep (fun i hi => by rw [b1.1]; exact hlt i hi) fun σ2 R2 b2 => ?_
        have b12 : But ls σ σ2 := b1.trans (b2.mono m1)
        refine ⟨G1, ρ2, A ++ τ, R2, ?_⟩
        cases e : exSs Φ b ρ2 with
        | no => rw [e] at p1; exact p1
        | exc x ρ3 => rw [e] at p1; exact SxP.move p1 (s0.trans s1) tA b12 m2
        | ok fl ρ3 =>
          rw [e] at p1
          cases fl with
          | nx => exact fun σ3 G3 H3 s3 R3 b3 => ⟨by omega, G3, ρ3, s1.trans s3, R3, b12.trans (b3.mono m2), p1⟩
          | ct => exact fun σ3 G3 H3 s3 R3 b3 => ⟨by omega, G3, ρ3, s1.trans s3, R3, b12.trans (b3.mono m2), p1⟩
          | bk => exact fun σ3 G3 H3 s3 R3 b3 => p1 σ3 G3 H3 ((s0.trans s1).trans s3) (R3.sub tA) (b12.trans (b3.mono m2))
          | rt u => exact fun v σ3 G3 H3 s3 R3 b3 => p1 v σ3 G3 H3 ((s0.trans s1).trans s3) (R3.sub (List.Sublist.cons_cons _ tA)) (b12.trans (b3.mono m2))
end
end L2.Eng

/-! EngG2: stores. -/
namespace L2.Eng
open PySem PySem.Spec PyProof.Rows
section
variable {Φ : Fx} {W : WX} {c : Ctx} {X : Cx}
theorem XS.lt (ok : XS Φ W c X) {i : Nat} {x : Str} (h : c.storeOk i x = true) : i < X.N.length := by
  rw [ok.hN]
  exact (List.getElem?_eq_some_iff.mp (storeOk_split h).1).1
theorem XS.nth (ok : XS Φ W c X) {i : Nat} {x : Str} (h : c.storeOk i x = true) : X.N[i]? = some x := by
  rw [ok.hN]
  exact (storeOk_split h).1
theorem XS.blk (ok : XS Φ W c X) : X.env.blockKind = .function := by
  unfold Env.blockKind
  rw [ok.scE, ok.kd]
  rfl
theorem set_end {i : Nat} {e : E} {st : Stmt} (ok : XS Φ W c X) (hi : i < X.N.length) (h : PS X st (tAsg (tT X W (asT e (ev2 Φ e).1)) (gName i))) : PS X st (tS X W [i] (exS Φ (.set i e))) := by
  refine h.weakL fun D σ H hlen ⟨G, ρ, τ, R, h⟩ => ?_
  unfold exS at h
  rw [wpR_bind] at h
  exact tT.step R h (fun x ρ1 p => p.ex (Same.refl _) (.refl _) (.refl _ _)) fun t ρ1 v G1 H1 p s1 R1 => p _ G1 H1 s1 (R1.store (by rw [hlen]; exact hi)) (But.set σ i (some v))
theorem set_endO {i : Nat} {e : E} {st : Stmt} (ok : XS Φ W c X) (hi : i < X.N.length) (he : ∀ ρ, asT e (ev2 Φ e).1 ρ = ((ev2 Φ e).1 ρ).bind fun x ρ1 => match x with | .tmp t => .ok t ρ1 | .sl _ => .no)
    (h : PS X st (tAsg (tO X W (ev2 Φ e).1) (gName i))) : PS X st (tS X W [i] (exS Φ (.set i e))) := by
  refine h.weakL fun D σ H hlen ⟨G, ρ, τ, R, h⟩ => ?_
  unfold exS at h
  rw [wpR_bind, evT, he, wpR_bind] at h
  refine tO.step R h (fun x ρ1 p => p.ex (Same.refl _) (.refl _) (.refl _ _)) fun o ρ1 v G1 H1 p s1 R1 _ => ?_
  cases o with
  | sl i => exact p.elim
  | tmp t => exact p _ G1 H1 s1 (Rel.store R1 (by rw [hlen]; exact hi)) (But.set σ i (some v))
end
section
variable {Φ : Fx}
theorem setC_sw {v : Expr} (h : setC v = true) (hn : ∀ a b d p, v ≠ .ListComp a b d p) (t : Option Expr) (n : Nat) (env : Env) : swapsWith v t n env = pure false := by
  cases v <;> first | rfl | (exact absurd rfl (hn _ _ _ _)) | cases h
theorem t_set {i : Nat} {e : E} : SS Φ (.set i e) := fun {c W X} ok st hc => by
  simp only [ckS] at hc
  split at hc
  case h_2 => cases hc
  rename_i x px v p
  simp only [Bool.and_eq_true] at hc
  obtain ⟨⟨g1, g2⟩, g3⟩ := hc
  have hx := ok.scp.loc x (storeOk_split g1).2
  have hN : X.N.Nodup := by rw [ok.hN]; exact ok.nd
  have plain : swapsWith v (some (.Name x px)) p.line X.env = pure false → PS X (.Assign [.Name x px] v p) (tS X W (S.set i e).sets (exS Φ (.set i e))) := fun hs =>
    set_end ok (ok.lt g1) (ps_set hN (ok.nth g1) hx.1 (d_asT ok.toXOk g2 (sE Φ e ok.toXOk g2).1) hs hx.2)
  by_cases hn : ∃ a b d p, v = .ListComp a b d p
  · obtain ⟨a, b, d, q, rfl⟩ := hn
    have sw := sw_comp (ee := a) (gs := b) (s := d) (p := q) (py := px) (y := x) (n := p.line) (env := X.env)
    cases hb : (X.env.blockKind == .function && X.env.kindOf x == some .local && px.line == q.line && !(d.names.any fun (n, k) => n == x && (k == .local || k == .cell))) with
    | false => rw [hb] at sw; exact plain sw
    | true =>
      rw [hb] at sw
      simp only [Bool.and_eq_true] at hb
      have hxl : X.env.scope.names.lookup x = some .local := by
        have h2 := hb.1.1.2
        cases hk : X.env.kindOf x with
        | none => rw [hk] at h2; cases h2
        | some k => rw [hk] at h2; cases k <;> first | exact hk | (exact absurd h2 (by decide))
      cases e <;> try (simp only [ckE] at g2; done)
      case lc tg own it cd elt =>
        match b, g2 with
        | [⟨te, ie, ifs, 0⟩], g2 =>
          simp only [ckE, Bool.and_eq_true, decide_eq_true_eq] at g2
          obtain ⟨⟨⟨⟨⟨⟨⟨⟨g1', g2⟩, g3'⟩, g4⟩, g5⟩, g6⟩, g7⟩, g8⟩, g9⟩ := g2
          have htg : ∀ i ∈ tg.is, i ∈ own := fun i hi => of_decide_eq_true (List.all_eq_true.mp g5 i hi)
          have blk := ok.toXOk.blk (s := X.s_0) (H := fun _ => none) (scope := d) (cl := []) (C := 0) (fp := [])
          have hlt := ckTg_lt blk g3'
          exact set_endO ok (ok.lt g1) (fun _ => rfl) (d_setLc ok.toXOk (ok.nth g1) hxl sw g1' g2 g4 htg g6 (sI Φ it ok.toXOk g7) (fun X' ok' ek => by have := g_of ok' g3'; rw [ek] at this; exact this) hlt
            (fun X' ok' => (sOE Φ cd ok').2 g9) (fun X' ok' => d_frz (d_asT ok' g8 (sE Φ elt ok' g8).1)))
        | [], g2 => simp only [ckE] at g2; contradiction
        | _ :: _ :: _, g2 => simp only [ckE] at g2; contradiction
        | [⟨_, _, _, .ofNat (n + 1)⟩], g2 => simp only [ckE] at g2; contradiction
        | [⟨_, _, _, .negSucc n⟩], g2 => simp only [ckE] at g2; contradiction
      all_goals (simp only [ckE] at g2; contradiction)
  · exact plain (setC_sw g3 (fun a b d q z => hn ⟨a, b, d, q, z⟩) _ _ _)
theorem Rel.fzAt {G H : Hp} {ρ : Rho} {τ : List (V × T)} {σ : St} {i : Nat} {t : T} {d : D} (R : Rel G (ρ.set i (some t)) τ σ H) (e : t.view = some d) : ∃ G', Same G G' ∧ Rel G' (ρ.set i (some (.fz d))) τ σ H := by
  by_cases hi : i < ρ.length
  · obtain ⟨v, ev, R1⟩ := R.out (i := i) (t := t) (List.getElem?_set_self hi)
    rw [List.set_set] at R1
    obtain ⟨G', s, R2⟩ := R1.freeze e
    have R3 := Rel.back R2 ev (List.getElem?_set_self hi)
    rw [List.set_set] at R3
    exact ⟨G', s, R3⟩
  · have hl : ρ.length ≤ i := Nat.le_of_not_lt hi
    rw [List.set_eq_of_length_le hl] at R ⊢
    exact ⟨G, Same.refl _, R⟩
theorem t_setF {i : Nat} {e : E} : SS Φ (.setF i e) := fun {c W X} ok st hc => by
  have hc2 : ckS c (.set i e) st = true := by
    simp only [ckS] at hc ⊢
    exact hc
  refine (t_set ok hc2).weak fun D σ H ⟨G, ρ, τ, R, h⟩ => ⟨G, ρ, τ, R, ?_⟩
  unfold exS at h ⊢
  rw [wpR_bind] at h ⊢
  unfold evD asD frz at h
  rw [wpR_bind] at h
  refine h.mono (fun t ρ1 p => ?_) fun _ _ z => z
  obtain ⟨d, ed, p⟩ := wpR_of p
  intro σ' G' H' s1 R1 b1
  obtain ⟨G2, s2, R2⟩ := Rel.fzAt R1 ed
  exact p σ' G2 H' (s1.trans s2) R2 b1
theorem Vw.rqT {G H : Hp} {v : V} {ds : List D} (h : Vw G H v (.tuple ds)) : Rq G v (.tuple ds) := by
  rcases h with h | ⟨a, vs, es, _, e, _⟩
  · exact h
  · cases e
theorem t_setT {is : List Nat} {e : E} : SS Φ (.setT is e) := fun {c W X} ok st hc => by
  simp only [ckS] at hc
  split at hc
  case h_2 => cases hc
  rename_i es k px v p
  simp only [Bool.and_eq_true] at hc
  obtain ⟨⟨⟨g1, g2⟩, g3⟩, g4⟩ := hc
  have g1' : ckTg c (.tup is) (.Tuple es k px) = true := g1
  have hw : swappedStores [.Tuple es k px] v X.env = pure none := by
    cases v <;> first | rfl | cases g3
  refine (ps_asg (sE Φ e ok.toXOk g2).1 (g_of ok.toXOk g1') (by show swapsWith v (some (.Tuple es k px)) p.line X.env = pure false; exact noComp_sw g4 _ _ _) hw).weakL fun D σ H hlen ⟨G, ρ, τ, R, h⟩ => ?_
  unfold exS at h
  rw [wpR_bind] at h
  refine tO.step R h (fun x ρ1 p => p.ex (Same.refl _) (.refl _) (.refl _ _)) fun o ρ1 v G1 H1 p s1 R1 a1 => ?_
  unfold setFin at p
  cases eo : o.see ρ1 with
  | none => rw [eo] at p; exact p.elim
  | some d =>
    rw [eo] at p
    cases d with
    | tuple ds =>
      simp only at p
      cases em : setMany is ds ρ1 with
      | none => rw [em] at p; exact p.elim
      | some ρ2 =>
        rw [em] at p
        have w := (Opd.vw (A := []) R1 a1 eo).rqT
        exact put_tg (tg := .tup is) (K := X.K) R1 w em (fun i hi => by rw [hlen]; exact ckTg_lt ok.toXOk g1' i hi) fun σ2 R2 b2 => p σ2 G1 H1 s1 (R2.sub (Opd.sub _ _ _)) b2
    | list ds =>
      simp only at p
      cases em : setMany is ds ρ1 with
      | none => rw [em] at p; exact p.elim
      | some ρ2 =>
        rw [em] at p
        obtain ⟨a, vs, rfl, ra, rs⟩ := (Opd.vw (A := []) R1 a1 eo).lst R1.same
        exact .inr ⟨a, vs, rfl, SqL.rd ra, by rw [rs.length, setMany_len em], put_many (K := X.K) R1 rs em (fun i hi => by rw [hlen]; exact ckTg_lt ok.toXOk g1' i hi) fun σ2 R2 b2 => p σ2 G1 H1 s1 (R2.sub (Opd.sub _ _ _)) b2⟩
    | _ => exact p.elim
theorem rel_two {G H : Hp} {ρ : Rho} {τ : List (V × T)} {σ : St} {i j : Nat} {v w : V} {d e : D} (R : Rel G ρ τ σ H) (hi : i < σ.length) (hj : j < σ.length) (r1 : Rq G v d) (r2 : Rq G w e) :
    Rel G ((ρ.set i (some (.fz d))).set j (some (.fz e))) τ ((σ.set i (some v)).set j (some w)) H := by
  have R1 : Rel G (ρ.set i (some (.fz d))) τ (σ.set i (some v)) H := (R.addFz r1).store hi
  exact (R1.addFz r2).store (by rw [List.length_set]; exact hj)
theorem nost : ∀ u : Expr, noStar u = true → ¬ ((match u with | .Starred .. => true | _ => false) = true) := by
  intro u h
  cases u <;> first | exact Bool.false_ne_true | cases h
theorem par_sw {u v : Expr} {x y : Str} {px py pt pt2 : Pos} {kt k2 : Nat} {env : Env} (hb : env.blockKind = .function) (hx : env.scope.names.lookup x = some .local) (hy : env.scope.names.lookup y = some .local) (hne : x ≠ y) (hl : (py.line == px.line) = true)
    (h1 : (foldedForSure 8 u && foldedForSure 8 v) = false) (h2 : (constantsAlone 8 u && constantsAlone 8 v) = false) (s1 : noStar u = true) (s2 : noStar v = true) :
    swappedStores [.Tuple [.Name x px, .Name y py] kt pt] (.Tuple [u, v] k2 pt2) env = pure (some [x, y]) := by
  have kx : env.kindOf x = some .local := hx
  have ky : env.kindOf y = some .local := hy
  have hd : [x, y].eraseDups = [x, y] := by
    have q : (x == y) = false := beq_eq_false_iff_ne.mpr hne
    have q2 : (y == x) = false := beq_eq_false_iff_ne.mpr (Ne.symm hne)
    simp [List.eraseDups_cons, q, q2]
  have hf : [u, v].all (foldedForSure 8) = false := by simpa using h1
  have hc : [u, v].all (constantsAlone 8) = false := by simpa using h2
  have e1 : (env.kindOf x == some NameKind.local && px.line == px.line) = true := by rw [kx]; simp
  have e2 : (env.kindOf y == some NameKind.local && py.line == px.line) = true := by rw [ky, hl]; rfl
  unfold swappedStores
  simp only [hb, hf, hc]
  simp only [List.filterMap_cons, List.filterMap_nil, List.head?_cons, Option.map_some, Option.getD_some, Expr.pos, e1, e2, if_true, hd]
  refine (if_neg (by simp)).trans ((if_neg fun h => ?_).trans ((if_neg (by simp)).trans rfl))
  obtain ⟨e, he, q⟩ := List.any_eq_true.mp h
  refine nost e ?_ q
  rcases List.mem_cons.mp he with rfl | he
  · exact s1
  · rcases List.mem_cons.mp he with rfl | he
    · exact s2
    · cases he
theorem t_par {i j : Nat} {a b : E} : SS Φ (.par i j a b) := fun {c W X} ok st hc => by
  simp only [ckS] at hc
  split at hc
  case h_2 => cases hc
  rename_i x px y py kt pt u v k2 pt2 p
  simp only [Bool.and_eq_true, decide_eq_true_eq, Bool.not_eq_true'] at hc
  obtain ⟨⟨⟨⟨⟨⟨⟨⟨⟨⟨⟨⟨g1, g2⟩, g3⟩, g4⟩, g5⟩, g6⟩, g7⟩, g8⟩, g9⟩, g10⟩, g11⟩, g12⟩, g13⟩ := hc
  have hx : X.env.scope.names.lookup x = some .local := by rw [ok.scE]; exact of_decide_eq_true g3
  have hy : X.env.scope.names.lookup y = some .local := by rw [ok.scE]; exact of_decide_eq_true g4
  have hN : X.N.Nodup := by rw [ok.hN]; exact ok.nd
  have ce : ckEs c (.cons a (.cons b .nil)) [u, v] = true := by simp [ckEs, g10, g11, g12, g13]
  have sw : swappedStores [.Tuple [.Name x px, .Name y py] kt pt] (.Tuple [u, v] k2 pt2) X.env = pure (some [x, y]) :=
    par_sw ok.blk hx hy g6 g7 g8 g9 g11 g13
  refine (ps_par ok.calm hN (ok.nth g1) (ok.nth g2) g5 hx hy (sEs Φ (.cons a (.cons b .nil)) ok.toXOk ce).2 sw).weakL fun D σ H hlen ⟨G, ρ, τ, R, h⟩ => ?_
  unfold exS at h
  rw [wpR_bind] at h
  refine tDs.step R h (fun x ρ1 p => p.ex (Same.refl _) (.refl _) (.refl _ _)) fun ds ρ1 vs G1 H1 p s1 R1 rs => ?_
  unfold parFin at p
  split at p
  case h_2 => exact p.elim
  cases rs with
  | cons r1 rs =>
    cases rs with
    | cons r2 rs =>
      cases rs
      refine ⟨_, _, rfl, p _ G1 H1 s1 (rel_two R1 (by rw [hlen]; exact ok.lt g1) (by rw [hlen]; exact ok.lt g2) r1 r2) ?_⟩
      exact ((But.set σ i (some _)).mono fun j hj => by simp at hj; subst hj; simp [S.sets]).trans ((But.set _ j (some _)).mono fun j hj => by simp at hj; subst hj; simp [S.sets])
end
end L2.Eng

/-! EngG3: items stored, errors raised and caught. -/
namespace L2.Eng
open PySem PySem.Spec PyProof.Rows
section
variable {Φ : Fx}
theorem t_sub {i : Nat} {k e : E} : SS Φ (.sub i k e) := fun {c W X} ok st hc => by
  simp only [ckS] at hc
  split at hc
  case h_2 => cases hc
  rename_i x px y q v p
  simp only [Bool.and_eq_true] at hc
  obtain ⟨⟨⟨g1, g2⟩, g3⟩, g4⟩ := hc
  have hs : swapsWithSole [.Subscript (.Name x px) y q] v p.line X.env = pure false := by cases v <;> rfl
  have hw : swappedStores [.Subscript (.Name x px) y q] v X.env = pure none := by cases v <;> rfl
  have ha : ∀ u, assign (.Subscript (.Name x px) y q) X.env u = (do
      let ov ← holding [u] (eval (.Name x px) X.env)
      let iv ← holding [u, ov] (eval y X.env)
      standAt q
      holding [u, ov, iv] (setItem ov iv u)
      release [u, ov, iv] []) := by
    intro u
    cases y <;> first | rfl | cases g3
  have h1 : (assignEach [.Subscript (.Name x px) y q] X.env).map (·.2) = [assign (.Subscript (.Name x px) y q) X.env] := by rfl
  refine (ps_asg (d_frz (d_asT ok.toXOk g4 (sE Φ e ok.toXOk g4).1)) (pg_sub (d_var ok.toXOk g1) (sE Φ k ok.toXOk g2).1 set_list ha) hs hw h1).weakL fun D σ H hlen ⟨G, ρ, τ, R, h⟩ => ?_
  unfold exS at h
  rw [wpR_bind] at h
  refine tD.step R h (fun x ρ1 p => p.ex (Same.refl _) (.refl _) (.refl _ _)) fun d ρ1 v G1 H1 p s1 R1 rv => ?_
  split at p
  case isFalse => exact p.elim
  case isTrue hol =>
  have hslot : ∃ xs, slotT ρ1 i = some (.ol xs) := by
    cases e : slotT ρ1 i with
    | none => rw [e] at hol; cases hol
    | some t => rw [e] at hol; cases t <;> first | exact ⟨_, rfl⟩ | cases hol
  obtain ⟨xs, es⟩ := hslot
  obtain ⟨u, eu, _⟩ := R1.slot (slotT_some es)
  refine ⟨u, eu, ?_⟩
  rw [wpR_bind] at p
  have Rv : Rel G1 ρ1 ((v, .fz d) :: τ) σ H1 := R1.addFz rv
  refine tO.step Rv p (fun x ρ2 p => p.ex s1 (List.sublist_cons_self _ _) (.refl _ _)) fun o ρ2 y2 G2 H2 p s2 R2 a2 => ?_
  unfold subFin at p
  cases e1 : slotT ρ2 i with
  | none => rw [e1] at p; exact p.elim
  | some t =>
    rw [e1] at p
    cases t with
    | fz _ => exact p.elim
    | od _ => exact p.elim
    | ol zs =>
      cases e2 : o.see ρ2 with
      | none => rw [e2] at p; exact p.elim
      | some z =>
        rw [e2] at p
        cases z with
        | int n =>
          simp only at p
          cases e3 : ixN zs.length n with
          | none => rw [e3] at p; exact p.elim
          | some j =>
            rw [e3] at p
            have w2 : Vw G2 H2 y2 (.int n) := Opd.vw (A := []) R2 a2 e2
            have hz := slotT_some e1
            obtain ⟨u', eu', R3⟩ := R2.out hz
            rw [eu] at eu'
            cases eu'
            obtain ⟨a, vs, rfl, g, ea, rq, put, _⟩ := R3.held.mid.ol
            have rv2 : Rq G2 v d := rv.mono s2
            refine ⟨a, vs, n, j, rfl, w2.int, ea, by rw [rq.length]; exact e3, ?_⟩
            have R4 : Rel G2 (ρ2.set i none) ((.ref a, .ol (zs.set j d)) :: (o.push y2 ((v, .fz d) :: τ))) σ (upd H2 a (.lst (vs.set j v))) :=
              ⟨Same.updFree R3.same g, R3.slots, (put _ _ (rq.set rv2 j)).unmid⟩
            have hlt : i < ρ2.length := (List.getElem?_eq_some_iff.mp hz).1
            have R5 := Rel.back R4 eu (by rw [List.getElem?_set_self hlt])
            rw [List.set_set] at R5
            exact p σ G2 _ (s1.trans s2) (R5.sub ((List.sublist_cons_self _ _).trans (Opd.sub _ _ _))) (.refl _ _)
        | _ => exact p.elim

/-- a made error of an own class, with one argument -/
theorem mk_own {X : Cx} {C : Addr} {bmB : List Value} {B newId initId : String} {x : Str} {e : Expr} {ta : TE} {p pos : Pos} (F : ExcBaseFacts B newId initId bmB) (q : PySem.W.excIn X.K C bmB newId = true) (gC : X.mg x = some (.ref C)) (kC : PySem.W.keepIn X.K (.ref C) = true)
    (r : Raises X (.ref C)) (hg : Gl X x) (he : PE X e ta) (hs : starEach [e] X.env = [(false, eval e X.env)]) (hdb : (x == ("__debug__" : Str)) = false) : L2N.PMk X (.Call (.Name x p) [e] [] pos) (fun σ H Q => ta σ H fun _ H1 => Q (.ref C) none H1) := by
  intro pins s σ H Q I h
  refine wpAny_Call_Name_kw (ld_glob I hg gC (PySem.W.callWith_K (h₀ := X.base) I.ok.mod.kin kC ?_ hs (by rfl)) hdb)
  rw [hs]
  show wpAny _ _ (spliced ((false, eval e X.env) :: backTo pos [])) _ _ s
  refine Calls.spliced_cons (thn (he.run pins s σ H _ I h) fun u s1 ⟨v, H1, I1, r1, q1⟩ => Calls.spliced_nil ⟨I1.kIn, ?_⟩)
  show wpAny _ _ (call (.ref C) [u]) _ _ _
  obtain ⟨_, _, _, _, _, _, _, _, _, _, _, _, _, _, _, _, _, hC, hN, hni, T⟩ := exc_obj I1.kIn q
  exact wpAny_call_exc_subT F T hC hN hni (fun h' e hm => L2N.mk_of I1 hm r q1 (I1.hok.gone hm.new)) (by show 1 ≤ sizeLine; rw [sizeLine_eq]; omega)
theorem t_raise {n : Str} {e : E} : SS Φ (.raise n e) := fun {c W X} ok st hc => by
  simp only [ckS] at hc
  split at hc
  case h_2 => cases hc
  rename_i x px a q p
  simp only [Bool.and_eq_true, decide_eq_true_eq] at hc
  obtain ⟨⟨⟨⟨⟨rfl, g1⟩, g2⟩, g3⟩, g4⟩, g5⟩ := hc
  obtain ⟨k, room, fns⟩ := ok.mod
  obtain ⟨C, m1, m2, m3, m4, m5⟩ := fns.ex x g3
  refine (L2N.ps_raise ok.calm ok.tk (mk_own PySem.F.excBase_ValueError m2 m1 m3 (raises_own m4 m5) (ok.scp.gl x g1) (sE Φ e ok.toXOk g4).1 (star1 g5 _ _) (noDbg_split g2).1)).weak fun D σ H ⟨G, ρ, τ, R, h⟩ => ?_
  unfold exS at h
  rw [wpR_bind] at h
  exact tO.step R h (fun x ρ1 p => p.ex (Same.refl _) (.refl _) (.refl _ _)) fun o ρ1 v G1 H1 p s1 R1 _ => p _ none σ G1 H1 ⟨m1, .inl ⟨rfl, rfl⟩⟩ s1 (R1.sub (Opd.sub _ _ _)) (.refl _ _)

/-! ### try -/
theorem XS.tr {W W' : WX} {c : Ctx} {X : Cx} (ok : XS Φ W c X) {pn : List (Addr × Obj)} {xe : Value → Shared → Prop} (tk : L2N.Takes (X.tr pn xe) W') (ps : PassesOwn (model X.prog X.w) X.A X.env xe) : XS Φ W' c (X.tr pn xe) :=
  ⟨⟨ok.hN, ok.nd, ⟨ok.scp.vis, ok.scp.gl, ok.scp.loc, ok.scp.free⟩, ok.calm, ok.hu, tk, ok.mod⟩, ok.scE, ok.kd, ps, ok.stk, ok.frm⟩
theorem cst_pe {X : Cx} {d : D} {e : Expr} (h : ckCst d e = true) : ∃ v, scV d = some v ∧ PE X e (tC v) := by
  cases e <;> try (cases d <;> simp only [ckCst] at h <;> contradiction)
  case Constant v k p =>
    cases d <;> cases v <;> simp only [ckCst] at h <;> try contradiction
    · exact ⟨_, rfl, pe_non⟩
    · have := beq_iff_eq.mp h; subst this; exact ⟨_, rfl, pe_bl⟩
    · have := of_decide_eq_true h; subst this; exact ⟨_, rfl, pe_int⟩
    · have := of_decide_eq_true h; subst this; exact ⟨_, rfl, pe_str⟩
theorem names_of {X : Cx} {h : Str} {c : Value} (hg : Gl X h) (hd : noDbg h = true) (hc : clsOf X.mg h = some c) : Names X h c := by
  refine ⟨hg, (noDbg_split hd).1, ?_⟩
  unfold clsOf at hc
  cases e : X.mg h with
  | some c' => rw [e] at hc; cases hc; exact .inl rfl
  | none => rw [e] at hc; exact .inr ⟨rfl, hc, (noDbg_split hd).2.2⟩
theorem hds_of {W : WX} {c : Ctx} {X : Cx} (ok : XS Φ W c X) : ∀ {hs : List (Str × D)} {hds : List ExceptHandler}, ckHs c hs hds = true → ∃ l : List (Value × (Addr → Value → Option Addr → TS)), L2N.HdsOk X hds l ∧
    ∀ {D : Ends} {ls : List Nat} {G : Hp} {τ : List (V × T)} {σ : St} {x : Ex} {ρ : Rho}, wpR (catchR Φ.sub x ρ hs) (FlP D ls G τ σ) (SxP X W ls G τ σ) → SxP X (wMany X.K W D l) ls G τ σ x ρ
  | [], [], _ => ⟨[], .nil, fun p => p⟩
  | (h, d) :: r, hd :: hds, hc => by
    match hd, hc with
    | .ExceptHandler (some (.Name x np)) none [.Return (some e) rp] pp, hc =>
      simp only [ckHs, Bool.and_eq_true, decide_eq_true_eq] at hc
      obtain ⟨⟨⟨⟨⟨rfl, g1⟩, g2⟩, g3⟩, g4⟩, g5⟩ := hc
      obtain ⟨l, hl, hw⟩ := hds_of ok g5
      obtain ⟨k, room, fns⟩ := ok.mod
      obtain ⟨cv, hcv⟩ := fns.hd x g3
      obtain ⟨v, ev, _⟩ := cst_pe (X := X) g4
      refine ⟨(cv, fun _ _ _ => tRet (tC v)) :: l, .cons (names_of (ok.scp.gl x g1) g2 hcv) (fun a oe cls dd pn _ _ => ?_) hl, fun {D ls G τ σ y ρ} p => ?_⟩
      · obtain ⟨v', ev', pe⟩ := cst_pe (X := X.suite a ((a, oe) :: pn)) g4
        rw [ev] at ev'
        cases ev'
        exact pss_one (ps_ret pe)
      · intro cls dd σ' G' H' ex s1 R1 b1
        unfold catchR at p
        cases es : Φ.sub y.c x with
        | none => rw [es] at p; exact p.elim
        | some b =>
          rw [es] at p
          refine ⟨b, fns.sb _ _ _ _ _ es ex.1 hcv, fun eb a _ => ?_, fun eb => ?_⟩
          · subst eb
            exact p v σ' G' H' s1 (R1.addFz (scV_rq ev G')) b1
          · subst eb
            exact hw p cls dd σ' G' H' ex s1 R1 b1
  | [], _ :: _, hc => by simp [ckHs] at hc
  | _ :: _, [], hc => by simp [ckHs] at hc
theorem t_tryR {b : Ss} {hs : List (Str × D)} (hb : SSs Φ b) : SS Φ (.tryR b hs) := fun {c W X} ok st hc => by
  simp only [ckS] at hc
  split at hc
  case h_2 => cases hc
  rename_i x h₀ hds p
  simp only [Bool.and_eq_true] at hc
  obtain ⟨l, hl, hw⟩ := hds_of ok hc.2
  refine (L2N.ps_try_many (tb := fun W' => tS X W' b.sets (exSs Φ b)) ok.stk ok.frm ok.tk (fun W' pn xe tk ps => hb (ok.tr tk ps) hc.1) hl).weak fun D σ H ⟨G, ρ, τ, R, h⟩ => ?_
  refine ⟨G, ρ, τ, R, ?_⟩
  unfold exS at h
  cases e : exSs Φ b ρ with
  | no => rw [e] at h; exact h
  | ok fl ρ1 => rw [e] at h; exact h
  | exc y ρ1 => rw [e] at h; exact hw h
end
end L2.Eng

/-! EngG4: an error handed on to a def; every statement. -/
namespace L2.Eng
open PySem PySem.Spec PyProof.Rows
section
variable {Φ : Fx} {W : WX} {c : Ctx} {X : Cx}
def tHot (Φ : Fx) (mg : Str → Option Value) (f : Str) (i : Nat) (a : Addr) (cls : Value) (dd : Option Addr) : TE := fun σ H Q => dd = none ∧ ∃ x d, mg x = some cls ∧ Φ.hot f x = some d ∧ σ[i]? = some (some (.ref a)) ∧ ∀ v H', scV d = some v → Same H H' → Q v H'
theorem d_hot (ok : XS Φ W c X) {f n : Str} {i : Nat} {a : Addr} {oe : Obj} {cls : Value} {dd : Option Addr} {pn : List (Addr × Obj)} {p p2 pos : Pos} (hg : Gl X f) (hd : noDbg f = true) (hN : X.N[i]? = some n) (hn : noDbg n = true) (hl : X.env.scope.names.lookup n = some .local)
    (hz : L2N.Zn cls dd oe) (hf : ∃ vs, oe.data = .fields vs) : PE (X.suite a ((a, oe) :: pn)) (.Call (.Name f p) [.Name n p2] [] pos) (tHot Φ X.mg f i a cls dd) := by
  refine ⟨fun pins s σ H Q I ⟨hdd, x, d, hx, hh, hs, q⟩ => ?_⟩
  subst hdd
  obtain ⟨k, room, fns⟩ := ok.mod
  obtain ⟨fa, fd, ps, cls', m1, m2, kp, hb, F⟩ := fns.hot f x d hh
  rw [hx] at m2
  cases m2
  have hv : PE (X.suite a ((a, oe) :: pn)) (.Name n p2) (tVar i) := pe_var (X := X.suite a ((a, oe) :: pn)) hN (.inl hl) (noDbg_split hn).1 (noDbg_split hn).2.1
  refine wpAny_Call_Name_kw (ld_glob I hg m1 ?_ (noDbg_split hd).1)
  refine PySem.W.callWith_K (h₀ := X.base) I.ok.mod.kin kp (thn ((pa_cons hv pa_nil).run pos pins s σ H (fun vs H1 => vs = [V.ref a] ∧ H = H1) I ⟨_, hs, rfl, rfl⟩) fun us s1 ⟨vs, H1, I1, r, e1, e2⟩ => ⟨I1.kIn, ?_⟩) (by rfl) (by rfl)
  subst e1 e2
  have eu : us = [Value.ref a] := by
    cases r with
    | cons ru rr =>
      cases rr
      cases ru
      rfl
  subst eu
  have b := hb s1 [Value.ref a] I1.kIn (by rw [F.len]; rfl)
  rw [List.append_nil] at b
  have P1 := I1.pin (a, oe) (List.mem_append_left _ List.mem_cons_self)
  have hpin : L2H.PinOk (X.suite a ((a, oe) :: pn)).stack H s1 (a, oe) := ⟨P1.1, P1.2.1, fun hm => (List.mem_cons.mp (I1.stkSub a hm)).elim P1.2.2.1 P1.2.2.2.1, P1.2.2.2.2⟩
  obtain ⟨fv, hfv⟩ := hf
  have hot : L2H.Hot1 (X.suite a ((a, oe) :: pn)).A (a, oe) := ⟨rfl, fv, hfv, hz.2.2 fv hfv⟩
  have rh : L2H.RoomH k (X.suite a ((a, oe) :: pn)).A := ⟨room.dp, room.un⟩
  refine wpAny_call (codeAny_mono (F.run _ (X.suite a ((a, oe) :: pn)).stack s1 H ⟨[Value.ref a], []⟩ Q (a, oe) rh hot hz.zc hpin I1.env0 b q) fun r s' hq => ?_)
  cases r with
  | error e =>
    obtain ⟨_, _, _, _, _, _, _, _, _, _, _, _, z⟩ := hq
    exact z.elim
  | ok fl =>
    cases fl with
    | ret u => exact I1.after hq
    | next => exact False.elim hq
    | brk => exact False.elim hq
    | cont => exact False.elim hq
theorem Rel.ext {G H H' : Hp} {ρ : Rho} {τ : List (V × T)} {σ : St} (R : Rel G ρ τ σ H) (s : Same H H') : Rel G ρ τ σ H' :=
  ⟨R.same.trans s, R.slots, R.held.move (Same.refl _) (fun _ g _ => g) fun a _ ne => by
    cases e : H a with
    | none => exact absurd e ne
    | some u => exact s _ _ e⟩
theorem t_tryC {b : Ss} {h f : Str} {i : Nat} (hb : SSs Φ b) : SS Φ (.tryC b h i f) := fun {c W X} ok st hc => by
  simp only [ckS] at hc
  split at hc
  case h_2 => cases hc
  rename_i x n np m g gp z zp cp rp hp pp
  simp only [Bool.and_eq_true, decide_eq_true_eq] at hc
  obtain ⟨⟨⟨⟨⟨⟨⟨⟨⟨⟨⟨g1, rfl⟩, g3⟩, g4⟩, g5⟩, g6⟩, g7⟩, rfl⟩, g9⟩, g10⟩, rfl⟩, g12⟩ := hc
  obtain ⟨k, room, fns⟩ := ok.mod
  obtain ⟨cv, hcv⟩ := fns.hd n g5
  have hN : X.N.Nodup := by rw [ok.hN]; exact ok.nd
  have hi : X.N[i]? = some z := by rw [ok.hN]; exact g6
  have hl : X.env.scope.names.lookup z = some .local := by rw [ok.scE]; exact of_decide_eq_true g7
  have ilt : i < X.N.length := (List.getElem?_eq_some_iff.mp hi).1
  refine (L2N.ps_try_as (tb := fun W' => tS X W' b.sets (exSs Φ b)) (ts := fun a cls dd => tRet (tHot Φ X.mg g i a cls dd)) ok.stk ok.frm hN hi hl (names_of (ok.scp.gl n g3) g4 hcv) ok.tk (fun W' pn xe tk ps => hb (ok.tr tk ps) g1)
    (fun a oe cls dd pn hz hf => pss_one (ps_ret (d_hot ok (ok.scp.gl g g9) g10 hi g12 hl hz hf)))).weakL fun D σ H hlen ⟨G, ρ, τ, R, h⟩ => ?_
  refine ⟨G, ρ, τ, R, ?_⟩
  unfold exS at h
  have m1 : ∀ j ∈ b.sets, j ∈ (S.tryC b n i g).sets := fun j hj => List.mem_cons_of_mem _ hj
  cases e : exSs Φ b ρ with
  | no => rw [e] at h; exact h
  | ok fl ρ1 => rw [e] at h; exact FlP.move h (Same.refl _) (.refl _) (.refl _ _) m1
  | exc y ρ1 =>
    rw [e] at h
    unfold catchC at h
    simp only at h
    intro cls dd σ' G' H' ex s1 R1 b1
    cases es : Φ.sub y.c n with
    | none => rw [es] at h; exact h.elim
    | some bb =>
      rw [es] at h
      refine ⟨bb, fns.sb _ _ _ _ _ es ex.1 hcv, fun eb a na => ?_, fun eb => ?_⟩
      · subst eb
        simp only at h
        split at h
        case h_2 => exact h.elim
        rename_i d eh ef
        refine ⟨?_, y.c, d, ex.1, eh, List.getElem?_set_self (by rw [b1.1, hlen]; exact ilt), fun v H2 ev s2 => ?_⟩
        · rcases ex.2 with ⟨_, q⟩ | ⟨_, _, _, _, q, _⟩
          · exact q
          · rw [ef] at q; cases q
        · exact h v σ' G' H2 s1 (((R1.wipe i).ext s2).addFz (scV_rq ev G')) (b1.mono m1)
      · subst eb
        exact SxP.move h (Same.refl _) (.refl _) (.refl _ _) m1 cls dd σ' G' H' ex s1 R1 b1
end
section
variable (Φ : Fx)
mutual
theorem sS : ∀ s : S, SS Φ s
  | .set i e => t_set
  | .setF i e => t_setF
  | .setT is e => t_setT
  | .par i j a b => t_par
  | .sub i k e => t_sub
  | .expr e => t_expr
  | .ret e => t_ret
  | .retN => t_retN
  | .ifS c a b => t_if (sSs a) (sSs b)
  | .whl c b => t_whl (sSs b)
  | .for_ tg it b => t_for (sSs b)
  | .raise c e => t_raise
  | .tryR b hs => t_tryR (sSs b)
  | .tryC b h i f => t_tryC (sSs b)
  | .pass => t_pass
  | .brk => t_brk
  | .cont => t_cont
theorem sSs : ∀ ss : Ss, SSs Φ ss
  | .nil => t_nil
  | .cons s ss => t_cons (sS s) (sSs ss)
end
end
end L2.Eng

/-! EngH: defs, by levels. -/
namespace L2.Eng
open PySem PySem.Spec PyProof.Rows

structure Fn where
  name : Str
  N : List Str
  np : Nat
  dfl : List D
  st : Nat
  body : Ss
def startR (n : Nat) (ts : List T) : Rho := ts.map some ++ List.replicate (n - ts.length) none
/-- the arguments as they stand behind the body -/
def backs (sets : List Nat) : Nat → List T → Rho → Option (List T)
  | _, [], _ => some []
  | j, .fz d :: r, ρ => (backs sets (j + 1) r ρ).map (.fz d :: ·)
  | j, _ :: r, ρ => if j ∈ sets then none else (slotT ρ j).bind fun u => (backs sets (j + 1) r ρ).map (u :: ·)
def endR (sets : List Nat) (ts : List T) : R Fl → CR
  | .ok (.rt t) ρ => match backs sets 0 ts ρ with
    | some us => .ok t us
    | none => .no
  | .ok .nx ρ => match backs sets 0 ts ρ with
    | some us => .ok (.fz .none) us
    | none => .no
  | .exc x ρ => match backs sets 0 ts ρ with
    | some us => .exc x us
    | none => .no
  | _ => .no
def runFn (Φ : Fx) (F : Fn) (ts : List T) : CR := if ts.length = F.np then endR F.body.sets ts (exSs Φ F.body (startR F.N.length ts)) else .no
def Fn.tab (Fs : List Fn) : List (Str × Fn) := Fs.map fun F => (F.name, F)
def lev (Fs : List Fn) (B : Fx) : Nat → Fx
  | 0 => { B with call := fun _ _ => .no, hot := fun _ _ => none }
  | k + 1 => { B with call := fun f ts => match (Fn.tab Fs).lookup f with
    | some F => runFn (lev Fs B k) F ts
    | none => .no }

theorem start_its : ∀ {vs : List V} {ts : List T} (m : Nat), vs.length = ts.length → SlotsOk (vs.map some ++ List.replicate m none) (ts.map some ++ List.replicate m none) ∧
    its (vs.map some ++ List.replicate m none) (ts.map some ++ List.replicate m none) = vs.zip ts
  | [], [], 0, _ => ⟨trivial, rfl⟩
  | [], [], m + 1, h => by
    obtain ⟨a, b⟩ := start_its (vs := []) (ts := []) m h
    exact ⟨a, b⟩
  | v :: vs, t :: ts, m, h => by
    obtain ⟨a, b⟩ := start_its (vs := vs) (ts := ts) m (by simpa using h)
    exact ⟨a, congrArg ((v, t) :: ·) b⟩
  | [], _ :: _, _, h => by simp at h
  | _ :: _, [], _, h => by simp at h
theorem slotT_other {ρ : Rho} {i j : Nat} (h : j ≠ i) (o : Option T) : slotT (ρ.set j o) i = slotT ρ i := by
  unfold slotT
  rw [List.getElem?_set_ne h]
theorem backs_other {sets : List Nat} : ∀ {ts : List T} {j i : Nat} {ρ : Rho} (o : Option T), i < j → backs sets j ts (ρ.set i o) = backs sets j ts ρ
  | [], _, _, _, _, _ => rfl
  | .fz d :: r, j, i, ρ, o, h => by
    unfold backs
    rw [backs_other o (Nat.lt_succ_of_lt h)]
  | .ol d :: r, j, i, ρ, o, h => by
    unfold backs
    rw [backs_other o (Nat.lt_succ_of_lt h), slotT_other (Nat.ne_of_lt h)]
  | .od d :: r, j, i, ρ, o, h => by
    unfold backs
    rw [backs_other o (Nat.lt_succ_of_lt h), slotT_other (Nat.ne_of_lt h)]
theorem back_rel {G G' H' : Hp} {σ' : St} {sets : List Nat} (sG : Same G G') : ∀ {ts : List T} {vs : List V} {j : Nat} {ρ : Rho} {τ : List (V × T)} {us : List T}, Rel G' ρ τ σ' H' →
    (∀ (i : Nat) (v : V) (d : D), vs[i]? = some v → ts[i]? = some (.fz d) → Rq G v d) → (∀ (i : Nat) (v : V), vs[i]? = some v → j + i ∉ sets → σ'[j + i]? = some (some v)) → vs.length = ts.length → backs sets j ts ρ = some us →
    us.length = ts.length ∧ ∃ ρ2, Rel G' ρ2 (vs.zip us ++ τ) σ' H'
  | [], [], j, ρ, τ, us, R, _, _, _, e => by
    cases e
    exact ⟨rfl, ρ, R⟩
  | .fz d :: r, v :: vs, j, ρ, τ, us, R, hf, hs, hl, e => by
    unfold backs at e
    cases q : backs sets (j + 1) r ρ with
    | none => rw [q] at e; cases e
    | some us1 =>
      rw [q] at e
      cases e
      obtain ⟨l, ρ2, R2⟩ := back_rel sG R (fun i v d a b => hf (i + 1) v d a b) (fun i v a b => by have := hs (i + 1) v a; rw [← Nat.add_assoc, Nat.add_right_comm] at this; exact this b) (by simpa using hl) q
      exact ⟨congrArg (· + 1) l, ρ2, R2.addFz ((hf 0 v d rfl rfl).mono sG)⟩
  | .ol ds :: r, v :: vs, j, ρ, τ, us, R, hf, hs, hl, e => by
    unfold backs at e
    split at e
    · cases e
    · next hj =>
      cases q0 : slotT ρ j with
      | none => rw [q0] at e; cases e
      | some u =>
        rw [q0] at e
        cases q : backs sets (j + 1) r ρ with
        | none => rw [q] at e; cases e
        | some us1 =>
          rw [q] at e
          cases e
          obtain ⟨w, ew, R1⟩ := R.out (slotT_some q0)
          have ev := hs 0 v rfl hj
          rw [Nat.add_zero, ew] at ev
          cases ev
          rw [← backs_other (i := j) none (Nat.lt_succ_self j)] at q
          obtain ⟨l, ρ2, R2⟩ := back_rel sG R1 (fun i v d a b => hf (i + 1) v d a b) (fun i v a b => by have := hs (i + 1) v a; rw [← Nat.add_assoc, Nat.add_right_comm] at this; exact this b) (by simpa using hl) q
          exact ⟨congrArg (· + 1) l, ρ2, R2.perm List.perm_middle⟩
  | .od ds :: r, v :: vs, j, ρ, τ, us, R, hf, hs, hl, e => by
    unfold backs at e
    split at e
    · cases e
    · next hj =>
      cases q0 : slotT ρ j with
      | none => rw [q0] at e; cases e
      | some u =>
        rw [q0] at e
        cases q : backs sets (j + 1) r ρ with
        | none => rw [q] at e; cases e
        | some us1 =>
          rw [q] at e
          cases e
          obtain ⟨w, ew, R1⟩ := R.out (slotT_some q0)
          have ev := hs 0 v rfl hj
          rw [Nat.add_zero, ew] at ev
          cases ev
          rw [← backs_other (i := j) none (Nat.lt_succ_self j)] at q
          obtain ⟨l, ρ2, R2⟩ := back_rel sG R1 (fun i v d a b => hf (i + 1) v d a b) (fun i v a b => by have := hs (i + 1) v a; rw [← Nat.add_assoc, Nat.add_right_comm] at this; exact this b) (by simpa using hl) q
          exact ⟨congrArg (· + 1) l, ρ2, R2.perm List.perm_middle⟩
  | [], _ :: _, _, _, _, _, _, _, _, hl, _ => by simp at hl
  | _ :: _, [], _, _, _, _, _, _, _, hl, _ => by simp at hl
theorem zip_fz {G H : Hp} : ∀ {vs : List V} {ts : List T} {τ : List (V × T)}, Held G H (vs.zip ts ++ τ) → ∀ (i : Nat) (v : V) (d : D), vs[i]? = some v → ts[i]? = some (.fz d) → Rq G v d
  | v :: vs, t :: ts, τ, h, 0, w, d, a, b => by
    cases a
    cases b
    exact Held.fz (L := vs.zip ts ++ τ) h
  | v :: vs, t :: ts, τ, h, i + 1, w, d, a, b => zip_fz (vs := vs) (ts := ts) (τ := τ) (Held.tail (x := (v, t)) h) i w d a b
  | [], _, _, _, i, _, _, a, _ => by simp at a
  | _ :: _, [], _, _, i, _, _, _, b => by simp at b
section
variable {P : Program} {w : World} {K : PySem.W.Frag} {mg : Str → Option Value} {base : Heap} {tb : Tbl} {Φ Φ' : Fx} {k : Nat}
theorem startS_at {N : List Str} {vs : List V} {i : Nat} {v : V} (h : vs[i]? = some v) : (start N vs)[i]? = some (some v) := by
  have hi := (List.getElem?_eq_some_iff.mp h).1
  unfold start
  rw [List.getElem?_append_left (by simpa using hi), List.getElem?_map, h]
  rfl
/-- a def at one level, its callees at the level below -/
theorem fn_lev {F : Fn} {st : Stmt} {dvs : List V} {a : Addr} {fd : FuncData} (hF : FunD K F.name F.name (defArgs st) (defBody st) (defScope st) dvs [] a fd) (S : FnScope F.N (F.N.take F.np) (defScope st)) (hl : F.np ≤ F.N.length)
    (ck : ckSs ⟨F.N, defScope st, tb⟩ F.body (defBody st) = true) (hcall : ∀ ts, Φ'.call F.name ts = runFn Φ F ts) (IH : FnsOk Φ tb P w K mg base k) : FnOk P w K mg base (L2N.CX P w) (k + 1) a fd (F.N.take F.np) (spF Φ' K mg F.name F.np) := by
  refine hF.ok S (fun vs H Q E h => ?_) (fun cdv A outer s H vs Q E room h => ?_)
  · obtain ⟨G, ts, τ, _, _, l, _⟩ := h
    rw [l, List.length_take]
    omega
  · obtain ⟨G, ts, τ, s1, held, lv, lt, h⟩ := h
    let X := cxOf (L2N.CX P w) P w K mg base F.N F.name (defScope st) a cdv A outer s H E
    let W : WX := fun cls d _ H => E cls d H
    have xs : XS Φ W ⟨F.N, defScope st, tb⟩ X := by
      refine ⟨⟨rfl, S.nd, ⟨fun x hx => ?_, fun x hx => glbB_of hx, fun x hx => ?_, fun x hx => hx⟩, rfl, ?_, L2N.takes_of rfl rfl rfl rfl, ⟨k, room, IH⟩⟩, rfl, S.kind, passes_of rfl, rfl, rfl⟩
      · obtain ⟨k, e, hk⟩ := visB_of hx
        rcases hk with rfl | rfl | rfl
        · exact .inl e
        · exact .inr (.inl e)
        · exact .inr (.inr e)
      · obtain ⟨k, e, hk⟩ := locB_of hx
        rcases hk with rfl | rfl
        · exact ⟨.inl e, .inl rfl⟩
        · exact ⟨.inr e, .inl rfl⟩
      · have := room.un
        show (A.deeper (envOfC F.name (defScope st) s.heap.objs.size a cdv)).units + 68 < cLine
        omega
    refine ⟨_, sSs Φ F.body xs ck, ?_⟩
    have ls : vs.length = ts.length := by omega
    obtain ⟨so, si⟩ := start_its (vs := vs) (ts := ts) (F.N.length - vs.length) ls
    have R0 : Rel G (startR F.N.length ts) τ (start F.N vs) H := by
      unfold startR
      rw [← ls]
      refine ⟨s1, so, ?_⟩
      show Held G H (its (vs.map some ++ List.replicate (F.N.length - vs.length) none) (ts.map some ++ List.replicate (F.N.length - vs.length) none) ++ τ)
      rw [si]
      exact held
    have back : ∀ {ρ' : Rho} {σ' : St} {G' H' : Hp} {A : List (V × T)} {us : List T}, Same G G' → Rel G' ρ' (A ++ τ) σ' H' → But F.body.sets (start F.N vs) σ' → backs F.body.sets 0 ts ρ' = some us → us.length = F.np ∧ Held G' H' (A ++ (vs.zip us ++ τ)) := fun {ρ' σ' G' H' A us} sG R b e => by
      obtain ⟨l, ρ2, R2⟩ := back_rel (vs := vs) sG R (zip_fz held) (fun i v hv hn => by rw [Nat.zero_add] at hn ⊢; rw [b.2 i hn]; exact startS_at hv) ls e
      refine ⟨by omega, ?_⟩
      exact R2.held.right.perm (List.perm_append_comm_assoc _ _ _)
    refine ⟨G, _, τ, R0, ?_⟩
    rw [hcall] at h
    unfold runFn at h
    rw [if_pos lt] at h
    cases e : exSs Φ F.body (startR F.N.length ts) with
    | no => rw [e] at h; exact h
    | exc x ρ' =>
      rw [e] at h
      unfold endR at h
      intro cls d σ' G' H' ex sG R b
      cases eb : backs F.body.sets 0 ts ρ' with
      | none => simp only [eb] at h
      | some us =>
        simp only [eb] at h
        obtain ⟨l, hd⟩ := back (A := []) sG R b eb
        exact h l cls d G' H' ex sG R.same hd
    | ok fl ρ' =>
      rw [e] at h
      cases fl with
      | bk => exact h.elim
      | ct => exact h.elim
      | nx =>
        unfold endR at h
        intro σ' G' H' sG R b
        cases eb : backs F.body.sets 0 ts ρ' with
        | none => simp only [eb] at h
        | some us =>
          simp only [eb] at h
          obtain ⟨l, hd⟩ := back (A := []) sG R b eb
          exact h l .non G' H' sG R.same (hd.addFz .non)
      | rt t =>
        unfold endR at h
        intro v σ' G' H' sG R b
        cases eb : backs F.body.sets 0 ts ρ' with
        | none => simp only [eb] at h
        | some us =>
          simp only [eb] at h
          obtain ⟨l, hd⟩ := back (A := [(v, t)]) sG R b eb
          exact h l v G' H' sG R.same hd
end
end L2.Eng

/-! EngH2: what the top has left, the law's end. -/
namespace L2.Eng
open PySem PySem.Spec PyProof.Rows

/-- a program: its defs, numbers and texts, built-in names, error classes, names of except clauses, which class is under which -/
structure Pr where
  fs : List Fn
  gls : List (Str × D)
  bls : List Str
  excs : List Str
  hds : List Str
  subs : List (Str × Str × Bool)
  hts : List (Str × Nat)
  xf : List (PySem.W.Frag → Bool)
def Pr.tb (p : Pr) : Tbl := ⟨p.fs.map fun F => (F.name, F.np, F.dfl), p.gls, p.bls, p.excs, p.hds⟩
def subOf (x h : Str) : List (Str × Str × Bool) → Option Bool
  | [] => none
  | (a, b, k) :: r => if a = x ∧ b = h then some k else subOf x h r
def Pr.fx (p : Pr) (fuel : Nat) (hot : Str → Str → Option D) : Fx := ⟨fun _ _ => .no, fuel, fun x h => subOf x h p.subs, hot⟩
def dvOf : D → He.Dv
  | .none => .non
  | .bool b => .bl b
  | .int i => .int i
  | .str x => .str x
  | _ => .non
def Fn.ck (top : Nat → Stmt) (tb : Tbl) (F : Fn) : Bool :=
  C8.scC F.N (F.N.take F.np) (defScope (top F.st)) && decide (F.np ≤ F.N.length) && F.dfl.all flatD && decide (F.dfl.length ≤ F.np) && ckSs ⟨F.N, defScope (top F.st), tb⟩ F.body (defBody (top F.st))
def Fn.dd (top : Nat → Stmt) (F : Fn) : He.DefD := ⟨(F.name, none), F.name, F.name, defArgs (top F.st), defBody (top F.st), defScope (top F.st), F.dfl.map dvOf, []⟩
def htD (top : Nat → Stmt) (q : Str × Nat) : He.DefD := ⟨(q.1, none), q.1, q.1, defArgs (top q.2), defBody (top q.2), defScope (top q.2), [], []⟩
def Pr.dds (p : Pr) (top : Nat → Stmt) : List He.DefD := p.fs.map (Fn.dd top) ++ p.hts.map (htD top)
/-- how its parameters are bound -/
def Fn.bnd (top : Nat → Stmt) (F : Fn) : Prop := if F.dfl = [] then ∀ (kV doc pm : Value) (an : Option Addr) (cdv ct : Value) (us : List Value), us.length = F.np →
    bindArgs (PySem.W.fnOf F.name F.name (defArgs (top F.st)) (defBody (top F.st)) (defScope (top F.st)) .none kV doc pm an cdv ct) ⟨us, []⟩ = pure ((F.N.take F.np).zip us)
  else ∀ j, j ≤ F.dfl.length → ∀ (T : Addr) (kV doc pm : Value) (an : Option Addr) (cdv ct : Value) (us its : List Value), us.length = F.np - (F.dfl.length - j) → its.length = F.dfl.length →
      ∃ k, bindArgs (PySem.W.fnOf F.name F.name (defArgs (top F.st)) (defBody (top F.st)) (defScope (top F.st)) (.ref T) kV doc pm an cdv ct) ⟨us, []⟩ = seqItems? (.ref T) >>= k ∧ k (some its.toArray) = pure ((F.N.take F.np).zip (us ++ its.drop j))
def bndAll (top : Nat → Stmt) : List Fn → Prop
  | [] => True
  | F :: r => F.bnd top ∧ bndAll top r
theorem bndAll_mem {top : Nat → Stmt} : ∀ {fs : List Fn}, bndAll top fs → ∀ F ∈ fs, F.bnd top
  | F :: r, h, G, hG => by
    rcases List.mem_cons.mp hG with rfl | hG
    · exact h.1
    · exact bndAll_mem h.2 G hG

/-! ### facts -/
def glB (K : PySem.W.Frag) (q : Str × D) : Bool := match q.2 with
  | .int i => (He.Fa.int q.1 i).ok K
  | .str z => (He.Fa.str q.1 z).ok K
  | _ => false
def hdB (K : PySem.W.Frag) (h : Str) : Bool := (He.Fa.glo h).ok K || ((He.Fa.free h).ok K && (bootBuiltins h).isSome)
def subB (K : PySem.W.Frag) (q : Str × Str × Bool) : Bool := (He.Fa.glo q.1).ok K && (((He.Fa.glo q.2.1).ok K && (He.Fa.exm q.1 q.2.1 q.2.2).ok K) || ((He.Fa.free q.2.1).ok K && match bootBuiltins q.2.1 with
  | some c => decide (PySem.W.exmOne K (.ref (He.ga K q.1)) c = some q.2.2)
  | none => false))
def isIntV : Value → Bool
  | .int .. => true
  | _ => false
def intList (o : Obj) : Bool := match o with
  | ⟨.type c, _, .seq its _, _⟩ => decide (c = "list") && its.toList.all isIntV
  | _ => false
def noInts (K : PySem.W.Frag) : Bool := K.all fun p => !intList p.2
def Pr.facts (p : Pr) (K : PySem.W.Frag) : Bool := p.bls.all (fun x => (He.Fa.free x).ok K) && p.gls.all (glB K) && p.excs.all (fun x => (He.Fa.glo x).ok K && (He.Fa.exc x).ok K) && p.hds.all (hdB K) && p.subs.all (subB K) &&
  p.fs.all (fun F => (He.Fa.glo F.name).ok K) && noInts K && p.hts.all (fun q => (He.Fa.glo q.1).ok K) && p.xf.all (fun f => f K)
def obsQ (p : Pr) (fn : List He.DefD) (K : PySem.W.Frag) : He.AlD := (p.facts K && fn.all fun d => d.ok K, fn.map fun d => He.fnW K d.at_)
def obsQG (n : Nat) (p : Pr) (fn : List He.DefD) (g : Addr → Option Obj) : He.AlD := obsQ p fn (He.frG g (He.asD g n))
def hookQ (n : Nat) (p : Pr) (fn : List He.DefD) : PySem.W.Hook where
  α := He.AlD
  obs := fun s => obsQG n p fn s.heap.get?
  val := fun _ => He.valD fn
  says := fun _ h => ∃ K : PySem.W.Frag, K.In h ∧ obsQ p fn K = He.valD fn
  of := fun _ _ e => ⟨_, He.frG_in, e⟩
  keeps := fun _ _ _ ⟨K, hK, c⟩ k => ⟨K, PySem.W.Frag.In.keeps hK k, c⟩
theorem obsQG_eq {n : Nat} {p : Pr} {fn : List He.DefD} {g : Addr → Option Obj} {s : Shared} (h : ∀ a, g a = s.heap.get? a) : obsQG n p fn g = (hookQ n p fn).obs s := by
  have e : g = s.heap.get? := funext h
  subst e
  rfl
theorem mem_lk {α β : Type} [BEq α] [LawfulBEq α] {a : α} {b : β} : ∀ {l : List (α × β)}, l.lookup a = some b → (a, b) ∈ l
  | (c, d) :: r, h => by
    have h1 : (match a == c with | true => some d | false => r.lookup a) = some b := h
    cases q : a == c with
    | true =>
      rw [q] at h1
      cases h1
      rw [beq_iff_eq.mp q]
      exact List.mem_cons_self ..
    | false =>
      rw [q] at h1
      exact List.mem_cons_of_mem _ (mem_lk h1)
structure PK (p : Pr) (top : Nat → Stmt) (K : PySem.W.Frag) : Prop where
  bl : ∀ x ∈ p.bls, (He.Fa.free x).ok K = true
  gl : ∀ q ∈ p.gls, glB K q = true
  ex : ∀ x ∈ p.excs, (He.Fa.glo x).ok K = true ∧ (He.Fa.exc x).ok K = true
  hd : ∀ h ∈ p.hds, hdB K h = true
  sb : ∀ q ∈ p.subs, subB K q = true
  fn : ∀ F ∈ p.fs, (He.Fa.glo F.name).ok K = true ∧ ∃ fd, FunD K F.name F.name (defArgs (top F.st)) (defBody (top F.st)) (defScope (top F.st)) ((F.dfl.map dvOf).map (He.Dv.v K)) [] (He.ga K F.name) fd
  ni : noInts K = true
  hf : ∀ q ∈ p.hts, (He.Fa.glo q.1).ok K = true ∧ ∃ fd, FunD K q.1 q.1 (defArgs (top q.2)) (defBody (top q.2)) (defScope (top q.2)) [] [] (He.ga K q.1) fd
  xf : ∀ f ∈ p.xf, f K = true
theorem pk_of {p : Pr} {top : Nat → Stmt} {K : PySem.W.Frag} (h : obsQ p (p.dds top) K = He.valD (p.dds top)) : PK p top K := by
  have h1 : (p.facts K && (p.dds top).all fun d => d.ok K) = true := congrArg (fun z : He.AlD => z.1) h
  have h2 : (p.dds top).map (fun d => He.fnW K d.at_) = (p.dds top).map He.DefD.val := congrArg (fun z : He.AlD => z.2) h
  obtain ⟨h1, hd⟩ := Bool.and_eq_true_iff.mp h1
  unfold Pr.facts at h1
  simp only [Bool.and_eq_true, List.all_eq_true] at h1 hd
  obtain ⟨⟨⟨⟨⟨⟨⟨⟨a1, a2⟩, a3⟩, a4⟩, a5⟩, a6⟩, a7⟩, a8⟩, a9⟩ := h1
  have each : ∀ d ∈ p.dds top, ∃ fd, FunD K d.name d.qual d.params d.body d.scope (d.dvs K) (d.kws K) (He.fAd K d.at_) fd := fun d hm => by
    have e : He.fnW K d.at_ = d.val := by
      obtain ⟨i, hi⟩ := List.mem_iff_getElem?.mp hm
      have e3 := congrArg (fun l : List He.FnW => l[i]?) h2
      simp only [List.getElem?_map] at e3
      rw [hi] at e3
      exact Option.some.inj e3
    exact He.DefD.funD e (hd _ hm)
  exact ⟨a1, a2, a3, a4, a5, fun F hF => ⟨a6 F hF, each _ (List.mem_append_left _ (List.mem_map_of_mem hF))⟩, a7, fun q hq => ⟨a8 q hq, each _ (List.mem_append_right _ (List.mem_map_of_mem hq))⟩, a9⟩
section
variable {p : Pr} {top : Nat → Stmt} {K : PySem.W.Frag} {h : Heap} {mg : Str → Option Value} {P : Program} {w : World} {base : Heap}
theorem hd_cls (X : K.In h) (G : h.Ns mainGlobals mg) {x : Str} (c : hdB K x = true) : ∃ v, clsOf mg x = some v := by
  unfold hdB at c
  rcases Bool.or_eq_true_iff.mp c with c | c
  · exact ⟨_, by unfold clsOf; rw [He.glo_ok X G c]⟩
  · obtain ⟨c1, c2⟩ := Bool.and_eq_true_iff.mp c
    obtain ⟨v, e⟩ := Option.isSome_iff_exists.mp c2
    exact ⟨v, by unfold clsOf; rw [He.free_ok X G c1]; exact e⟩
theorem sub_ok : ∀ {l : List (Str × Str × Bool)} {x h : Str} {b : Bool}, subOf x h l = some b → (x, h, b) ∈ l
  | (a, c, k) :: r, x, h, b, e => by
    unfold subOf at e
    split at e
    · next q =>
      obtain ⟨rfl, rfl⟩ := q
      cases e
      exact List.mem_cons_self ..
    · exact List.mem_cons_of_mem _ (sub_ok e)
theorem mem_tab {fs : List Fn} {f : Str} {F : Fn} (h : (Fn.tab fs).lookup f = some F) : F ∈ fs ∧ F.name = f := by
  have q := PySem.mem_of_lookup h
  obtain ⟨G, hG, e⟩ := List.mem_map.mp q
  cases e
  exact ⟨hG, rfl⟩
theorem tb_tab {fs : List Fn} {f : Str} {np : Nat} {dfl : List D} : (fs.map fun F => (F.name, F.np, F.dfl)).lookup f = some (np, dfl) → ∃ F, (Fn.tab fs).lookup f = some F ∧ F.np = np ∧ F.dfl = dfl := by
  induction fs with
  | nil => intro h; cases h
  | cons F r ih =>
    intro h
    have h1 : (match f == F.name with | true => some (F.np, F.dfl) | false => (r.map fun F => (F.name, F.np, F.dfl)).lookup f) = some (np, dfl) := h
    show ∃ F', (match f == F.name with | true => some F | false => (Fn.tab r).lookup f) = some F' ∧ _
    cases q : f == F.name with
    | true =>
      rw [q] at h1
      cases h1
      exact ⟨F, rfl, rfl, rfl⟩
    | false =>
      rw [q] at h1
      exact ih h1
theorem dv_sc {d : D} (h : flatD d = true) (K : PySem.W.Frag) : scV d = some (He.Dv.v K (dvOf d)) := by
  cases d <;> first | rfl | cases h
theorem dvs_pair (K : PySem.W.Frag) : ∀ {ds : List D}, ds.all flatD = true → Paired (fun z d => scV d = some z) ((ds.map dvOf).map (He.Dv.v K)) ds
  | [], _ => .nil
  | d :: ds, h => by
    rw [List.all_cons, Bool.and_eq_true] at h
    exact .cons (dv_sc h.1 K) (dvs_pair K h.2)
theorem fn_binds {F : Fn} {fd : FuncData} (hb : F.bnd top) (hf : F.dfl.all flatD = true) (hl : F.np ≤ F.N.length) (hd : F.dfl.length ≤ F.np) (hF : FunD K F.name F.name (defArgs (top F.st)) (defBody (top F.st)) (defScope (top F.st)) ((F.dfl.map dvOf).map (He.Dv.v K)) [] (He.ga K F.name) fd)
    (j : Nat) (hj : j ≤ F.dfl.length) : ∃ us zs, Paired (fun z d => scV d = some z) zs (F.dfl.drop j) ∧ Vals zs us ∧ Binds K fd (F.N.take F.np) us := by
  have lp : (F.N.take F.np).length = F.np := by rw [List.length_take]; omega
  unfold Fn.bnd at hb
  by_cases e : F.dfl = []
  · rw [if_pos e] at hb
    have hF' : FunD K F.name F.name (defArgs (top F.st)) (defBody (top F.st)) (defScope (top F.st)) [] [] (He.ga K F.name) fd := by
      rw [e] at hF
      exact hF
    refine ⟨[], [], by rw [e, List.drop_nil]; exact .nil, .nil, hF'.bindsN fun kV doc pm an cdv ct us hu => hb kV doc pm an cdv ct us (by omega)⟩
  · rw [if_neg e] at hb
    have ne : (F.dfl.map dvOf).map (He.Dv.v K) ≠ [] := by
      intro z
      apply e
      simpa using z
    have ll : ((F.dfl.map dvOf).map (He.Dv.v K)).length = F.dfl.length := by simp
    obtain ⟨us, hv, hB⟩ := hF.binds1 (ps := F.N.take F.np) (F.np - (F.dfl.length - j)) j ne (by rw [ll, lp]; omega) fun T kV doc pm an cdv ct us its h1 h2 => hb j hj T kV doc pm an cdv ct us its h1 (by rw [h2, ll])
    refine ⟨us, _, ?_, hv, hB⟩
    rw [← List.map_drop, ← List.map_drop]
    refine dvs_pair K ?_
    rw [List.all_eq_true] at hf ⊢
    exact fun d hd => hf d (List.mem_of_mem_drop hd)
/-- every level -/
theorem levels (ck : p.fs.all (Fn.ck top p.tb) = true) (hb : bndAll top p.fs) (k : PK p top K) (X : K.In h) (G : h.Ns mainGlobals mg) {fuel : Nat} {hot : Str → Str → Option D}
    (hh : ∀ n f x d, hot f x = some d → ∃ a fd ps cls, mg f = some (.ref a) ∧ mg x = some cls ∧ PySem.W.keepIn K (.ref a) = true ∧ Binds K fd ps [] ∧ FnX P w K mg base (n + 1) a fd ps cls d) :
    ∀ n, FnsOk (lev p.fs (p.fx fuel hot) n) p.tb P w K mg base n := by
  have cks := List.all_eq_true.mp ck
  have cls : ∀ F ∈ p.fs, FnScope F.N (F.N.take F.np) (defScope (top F.st)) ∧ F.np ≤ F.N.length ∧ F.dfl.all flatD = true ∧ F.dfl.length ≤ F.np ∧ ckSs ⟨F.N, defScope (top F.st), p.tb⟩ F.body (defBody (top F.st)) = true := fun F hF => by
    have c := cks F hF
    unfold Fn.ck at c
    simp only [Bool.and_eq_true, decide_eq_true_eq] at c
    obtain ⟨⟨⟨⟨c1, c2⟩, c3⟩, c4⟩, c5⟩ := c
    exact ⟨C8.fnScope_by c1, c2, c3, c4, c5⟩
  have gl : ∀ x d, p.gls.lookup x = some d → ∃ u, mg x = some u ∧ ∀ z, scV d = some z → RelV z u := fun x d e => by
    have c := k.gl _ (PySem.mem_of_lookup e)
    unfold glB at c
    cases d <;> simp only at c <;> try contradiction
    · obtain ⟨t, e⟩ := He.int_ok X G c
      exact ⟨_, e, fun z ez => by cases ez; exact ⟨t, rfl⟩⟩
    · obtain ⟨t, e⟩ := He.str_ok X G c
      exact ⟨_, e, fun z ez => by cases ez; exact ⟨t, rfl⟩⟩
  have sb : ∀ x h b cls c, subOf x h p.subs = some b → mg x = some cls → clsOf mg h = some c → PySem.W.exmOne K cls c = some b := fun x hh b cls c e e1 e2 => by
    have q := k.sb _ (sub_ok e)
    unfold subB at q
    obtain ⟨q1, q2⟩ := Bool.and_eq_true_iff.mp q
    rw [He.glo_ok X G q1] at e1
    cases e1
    unfold clsOf at e2
    rcases Bool.or_eq_true_iff.mp q2 with q2 | q2
    · obtain ⟨q3, q4⟩ := Bool.and_eq_true_iff.mp q2
      rw [He.glo_ok X G q3] at e2
      cases e2
      exact He.exm_ok q4
    · obtain ⟨q3, q4⟩ := Bool.and_eq_true_iff.mp q2
      rw [He.free_ok X G q3] at e2
      have e3 : bootBuiltins hh = some c := e2
      rw [e3] at q4
      exact of_decide_eq_true q4
  have ex : ∀ x, x ∈ p.excs → ∃ C, mg x = some (.ref C) ∧ PySem.W.excIn K C excMro "ValueError.__new__" = true ∧ PySem.W.keepIn K (.ref C) = true ∧ PySem.W.subIn K (.ref C) (.type "BaseException") = some true ∧ PySem.W.typeIn K (.ref C) = some (.type "type") := fun x hx => by
    obtain ⟨q1, q2⟩ := k.ex x hx
    obtain ⟨r1, r2, r3, r4⟩ := He.exc_ok q2
    exact ⟨_, He.glo_ok X G q1, r1, r2, r3, r4⟩
  have part : ∀ (Φ : Fx) (n : Nat), (∀ x h, Φ.sub x h = subOf x h p.subs) → (∀ f x d, Φ.hot f x = some d → ∃ a fd ps cls, mg f = some (.ref a) ∧ mg x = some cls ∧ PySem.W.keepIn K (.ref a) = true ∧ Binds K fd ps [] ∧ FnX P w K mg base n a fd ps cls d) →
      (∀ F ∈ p.fs, (Fn.tab p.fs).lookup F.name = some F → ∀ fd, FunD K F.name F.name (defArgs (top F.st)) (defBody (top F.st)) (defScope (top F.st)) ((F.dfl.map dvOf).map (He.Dv.v K)) [] (He.ga K F.name) fd → FnOk P w K mg base (L2N.CX P w) n (He.ga K F.name) fd (F.N.take F.np) (spF Φ K mg F.name F.np)) →
      FnsOk Φ p.tb P w K mg base n := fun Φ n hsub hhot hfn => by
    refine ⟨fun x hx => He.free_ok X G (k.bl x hx), gl, fun f np dfl hl => ?_, ex, fun x hx => hd_cls X G (k.hd x hx), fun x hh b cls c e => sb x hh b cls c (by rw [← hsub]; exact e), hhot⟩
    obtain ⟨F, hl2, rfl, rfl⟩ := tb_tab hl
    obtain ⟨hF, rfl⟩ := mem_tab hl2
    obtain ⟨g1, fd, fD⟩ := k.fn F hF
    obtain ⟨_, c2, c3, c4, _⟩ := cls F hF
    exact ⟨_, fd, _, He.glo_ok X G g1, fD.kp, by rw [List.length_take]; omega, hfn F hF hl2 fd fD, fun j hj => fn_binds (bndAll_mem hb F hF) c3 c2 c4 fD j hj⟩
  intro n
  induction n with
  | zero =>
    refine part _ 0 (fun _ _ => rfl) (fun _ _ _ e => nomatch e) fun F hF _ fd fD => ?_
    refine ⟨fun vs H Q E q => ?_, fun A outer s H args us vs Q E _ _ _ _ q => ?_⟩
    · obtain ⟨_, _, _, _, _, _, _, q⟩ := q
      exact q.elim
    · obtain ⟨_, _, _, _, _, _, _, q⟩ := q
      exact q.elim
  | succ n ih =>
    refine part _ (n + 1) (fun _ _ => rfl) (fun f x d e => hh n f x d e) fun F hF hl fd fD => ?_
    obtain ⟨c1, c2, _, _, c5⟩ := cls F hF
    refine fn_lev fD c1 c2 c5 (fun ts => ?_) ih
    show (match (Fn.tab p.fs).lookup F.name with | some F => runFn (lev p.fs (p.fx fuel hot) n) F ts | none => .no) = _
    rw [hl]
theorem ints_rq (G : Hp) : ∀ ns : List Int, RqAll G (ns.map V.int) (ns.map PyData.int)
  | [] => .nil
  | n :: ns => .cons (.int n) (ints_rq G ns)
theorem noInts_at (c : noInts K = true) {a : Addr} {o : Obj} {its : Array Value} {n : Nat} {ns : List Int} (e : K.lookup a = some o) (h1 : o.cls = .type "list") (h2 : o.data = .seq its n) (r : Vals (ns.map V.int) its.toList) : False := by
  have q := List.all_eq_true.mp c (a, o) (mem_lk e)
  obtain ⟨oc, od, dt, sl⟩ := o
  dsimp only at h1 h2
  subst h1 h2
  have all : ∀ (ns : List Int) (us : List Value), Vals (ns.map V.int) us → us.all isIntV = true := by
    intro ns
    induction ns with
    | nil => intro us r; cases r; rfl
    | cons n ns ih =>
      intro us r
      cases r with
      | cons r1 r2 =>
        obtain ⟨t, rfl⟩ := r1
        rw [List.all_cons, ih _ r2]
        rfl
  have z : intList ⟨.type "list", od, .seq its n, sl⟩ = true := by
    show (decide ("list" = "list") && its.toList.all isIntV) = true
    rw [all ns _ r]
    rfl
  rw [z] at q
  cases q
end
/-- the law's end, over a head by facts -/
theorem law_end {l : PySem.W.OpenLaw} {q : Program} {loose : List Str} {XP : (Str → Option Value) → Heap → Prop} {d : DefRec} {p : Pr} {top : Nat → Stmt} {n N0 : Nat} {hot : Str → Str → Option D} {x : Str} (hn : l.most = some 63) (hdf : d.params.defaults = []) (hr : Room (n + 1) callerA)
    (hname : d.name = "law") (ck : p.fs.all (Fn.ck top p.tb) = true) (hb : bndAll top p.fs) (hx : ∃ F, (Fn.tab p.fs).lookup ("law" : Str) = some F ∧ F.np = 1 ∧ F.dfl = [] ∧ F.N.take 1 = [x])
    (hh : ∀ (w : World) (K : PySem.W.Frag) (h : Heap) (mg : Str → Option Value), PK p top K → K.In h → h.Ns mainGlobals mg → ∀ (base : Heap) n f x d, hot f x = some d → ∃ a fd ps cls, mg f = some (.ref a) ∧ mg x = some cls ∧ PySem.W.keepIn K (.ref a) = true ∧ Binds K fd ps [] ∧ FnX l.prog w K mg base (n + 1) a fd ps cls d)
    (plain : ∀ ns : List Int, ns.length ≤ 63 → ∃ fuel us, (lev p.fs (p.fx fuel hot) (n + 1)).call "law" [.fz (.list (ns.map PyData.int))] = .ok (.fz (.bool true)) us) :
    PySem.W.WalkO q loose XP (hookQ N0 p (p.dds top)).says l.row.toRowW d [] (fun f vs => PySem.call f vs) := by
  refine L2.walk_ofE (l := l) (n := 63) (k := n + 1) (x := x) (CX := fun outer H s E e s' => ∃ w, L2N.CX l.prog w outer H s E e s') hn (by decide) hdf hr ?_ ?_
  · intro w mg fa h Y G hmg
    obtain ⟨K, KX, hK⟩ := Y
    have pk := pk_of hK
    obtain ⟨F, hl, h1, h2, h3⟩ := hx
    obtain ⟨hF, hn'⟩ := mem_tab hl
    obtain ⟨g1, fd, fD⟩ := pk.fn F hF
    have e1 := He.glo_ok KX G g1
    rw [hn', ← hname, hmg] at e1
    cases e1
    have hbn : ∀ (s : Shared) (u : Value), BindsTo s fd ⟨[u], []⟩ [(x, u)] := by
      intro s u
      have b := bndAll_mem hb F hF
      unfold Fn.bnd at b
      rw [if_pos h2] at b
      obtain ⟨oc, od, dV, kV, doc, pm, an, cdv, ct, osl, rfl, _, _, hd, _⟩ := fD.ex
      rcases hd with ⟨_, rfl⟩ | ⟨ne, _⟩
      · have b1 := b kV doc pm an cdv ct [u] (by rw [h1]; rfl)
        rw [h1, h3] at b1
        exact .of_eq b1
      · exact absurd (by rw [h2]; rfl) ne
    refine ⟨K, fd, fun vs H Q E => ∃ fuel, spF (lev p.fs (p.fx fuel hot) (n + 1)) K mg "law" 1 vs H Q E, KX, hbn, fun H a ns hlen hO hS => ?_, fun base KB GB => ?_⟩
    · obtain ⟨fuel, us, e⟩ := plain ns hlen
      refine ⟨fuel, H, [.fz (.list (ns.map PyData.int))], [], Same.refl _, ?_, rfl, rfl, ?_⟩
      · have rq : Rq H (.ref a) (.list (ns.map PyData.int)) := by
          rcases hS with r | ⟨o, its, m, e1, e2, _, e3, _, r⟩
          · exact .lst r (ints_rq H ns)
          · exact (noInts_at pk.ni e1 e2 e3 r).elim
        exact ⟨_, .cons (.fz rq) .nil, List.nodup_nil⟩
      · rw [e]
        intro _ v G' H' _ _ hh
        exact hh.fz.vBl
    · have lv := fun fuel => levels (P := l.prog) (w := w) (base := base) (fuel := fuel) (hot := hot) ck hb pk KX G (fun n f x d e => hh w K h mg pk KX G base n f x d e) n
      have c := List.all_eq_true.mp ck F hF
      unfold Fn.ck at c
      simp only [Bool.and_eq_true, decide_eq_true_eq] at c
      obtain ⟨⟨⟨⟨c1, c2⟩, c3⟩, c4⟩, c5⟩ := c
      have one : ∀ fuel, FnOk l.prog w K mg base (L2N.CX l.prog w) (n + 1) (He.ga K F.name) fd (F.N.take F.np) (spF (lev p.fs (p.fx fuel hot) (n + 1)) K mg F.name F.np) := fun fuel => by
        refine fn_lev fD (C8.fnScope_by c1) c2 c5 (fun ts => ?_) (lv fuel)
        show (match (Fn.tab p.fs).lookup F.name with | some F => runFn (lev p.fs (p.fx fuel hot) n) F ts | none => .no) = _
        rw [hn', hl]
      rw [hn', h1, h3] at one
      refine ⟨fun vs H Q E ⟨fuel, h⟩ => (one fuel).len vs H Q E h, fun A outer s H args us vs Q E hr he hbb hv ⟨fuel, h⟩ => ?_⟩
      have ran := (one fuel).run A outer s H args us vs Q E hr he hbb hv h
      rw [show He.ga K ("law" : Str) = He.ga K d.name from by rw [hname]] at ran
      refine codeAny_mono ran fun r s' hq => ?_
      cases r with
      | ok fl => cases fl <;> exact hq
      | error e => exact ⟨w, hq⟩
  · rintro H s e s' ⟨w, _, _, _, _, _, _, _, _, _, _, _, _, z⟩
    exact z
end L2.Eng

/-! EngX1: a comprehension where an error is handled (turned from the hand layer's own comprehension rule). -/
namespace L2.Eng
open PySem PySem.Spec PyProof.Rows
section
variable {X : Cx}
/-- a comprehension's block that still bears the handled error -/
abbrev hblk (X : Cx) (p : Addr × Obj) (s : Shared) (H : Hp) (scope : Scope) (cenv : Env) (fp : List Addr) : Cx := { X.blk s H scope cenv fp with pn := [p] }
theorem hot_ok {X : Cx} {p : Addr × Obj} {s : Shared} {H : Hp} {scope : Scope} {cenv : Env} {fp : List Addr} (ok : (X.blk s H scope cenv fp).Ok) : (hblk X p s H scope cenv fp).Ok :=
  ⟨ok.mod, ok.kind, ok.glob, ok.blt, ok.above, ok.inj, ok.has, ok.cab, ok.hd, ok.frames, ok.stk, ok.exf, ok.bs, ok.bsz, ok.noex, ok.exfs, ok.funs, ok.frf⟩
theorem hot_start {pins : List (Addr × Obj)} {σ : St} {H : Hp} {s : Shared} {p : Addr × Obj} {scope : Scope} {own : List (Str × Nat)} {fp : List Addr} (hm : p ∈ X.pn) (I : Inv X pins σ H s) (ok : BlkOk X.N X.env.scope scope own) (hN : X.N.Nodup) (hfp : ∀ b ∈ fp, FpOk X pins H b ∧ b < s.heap.objs.size) :
    Inv (hblk X p s H scope (compEnvC scope (cellsFrom (s.heap.objs.size + 1) scope.names (cloFrom X.env.cells scope.names [])) s.heap.objs.size X.env) fp) [] (wipe σ (own.map (·.2))) H { s with heap := pushCells (s.heap.push { cls := .type "dict", data := .dict #[] }) scope.names } := by
  have J := block_start I ok hN hfp
  obtain ⟨e1, e2, e3, e4, e5⟩ := I.pin p (List.mem_append_left _ hm)
  refine ⟨hot_ok J.ok, J.os, J.bare, J.base, J.loc, J.cell, J.free, J.freeC, fun q hq => ?_, J.hok, J.len⟩
  have eq : q = p := by simpa using (show q ∈ [p] ++ ([] : List (Addr × Obj)) from hq)
  subst eq
  exact ⟨pushCells_keeps _ _ _ _ (Heap.get?_push_of_some _ e1), e2, Nat.ne_of_lt (Heap.lt_size e1), fun z => (List.mem_cons.mp (I.stkSub q.1 z)).elim e3 e4, e5⟩
theorem hot_core {pins : List (Addr × Obj)} {s : Shared} {σ : St} {H : Hp} {Q : VK} {elt tg iter : Expr} {ifs : List Expr} {scope : Scope} {own : List (Str × Nat)} {pos pos' : Pos} {wi : TI} {g : TG} {tt : TT} {te : TE} {use : Option (Value → Sem Unit)} {Qf : Value → Shared → Prop}
    {p : Addr × Obj} (hc : L2H.Hot1 X.A p) (hm : p ∈ X.pn) (hN : X.N.Nodup) (I : Inv X pins σ H s) (hi : L2H.PIH X tg iter wi) (ok : BlkOk X.N X.env.scope scope own)
    (hg : ∀ (s : Shared) (H : Hp) (C : Addr) (cl : List (Str × Addr)) (fp : List Addr), PG (hblk X p s H scope (compEnvC scope cl C X.env) fp) tg g) (ht : ∀ (s : Shared) (H : Hp) (C : Addr) (cl : List (Str × Addr)) (fp : List Addr), PTs (hblk X p s H scope (compEnvC scope cl C X.env) fp) ifs tt)
    (he : ∀ (s : Shared) (H : Hp) (C : Addr) (cl : List (Str × Addr)) (fp : List Addr), PE (hblk X p s H scope (compEnvC scope cl C X.env) fp) elt te) (hs : ∀ x, foldedSetIterable iter X.env x = pure x)
    (h : tLc wi g tt te (own.map (·.2)) σ H Q)
    (hRR : ∀ D C s' m H', Inv X pins σ H' s' → Q (.ref D) H' → s'.heap.Ns C m → FpOk X pins H' C → compPost (model X.prog X.w) X.A X.xe use Qf (.ref D) C (.ok .next) s') :
    wpAny (model X.prog X.w) X.A (comprehension (.ListComp elt [⟨tg, iter, ifs, 0⟩] scope pos) scope X.env pos' (newList []) false (eval iter X.env) use) Qf X.xe s := by
  have hclo : ∀ y ∈ scope.names, y.2 = .free → ∃ c, X.env.cells.lookup y.1 = some c := fun y hy e => by
    rcases ok.free y hy e with k | k
    · exact I.ok.has _ (.inl k)
    · exact I.ok.has _ (.inr k)
  refine wpAny_comprehension_free (use := use) rfl hs (closure_ok hclo) ok.kind (fun y hy e => by rw [ok.uniq y hy, e])
    (thn (hi.run pins s σ H _ I h) fun xv ub hx => thn hx fun itv uc h2 => ?_)
  obtain ⟨it, fp, tn, J, H2, e, Jc, T, sB, f2, q⟩ := h2
  subst e
  refine wpAny_newObj_type (newEnv_comp ?_) (by show 0 ≤ sizeLine; decide)
  generalize hD : uc.heap.objs.size = D
  have hDn : H2 D = none := Jc.hok.fresh (Nat.le_of_eq hD)
  obtain ⟨W, ⟨k0, v0⟩, round_⟩ := q D hDn
  -- the new list
  generalize hs3 : ({ uc with heap := uc.heap.push { cls := .type "list", data := .seq ([] : List Value).toArray } } : Shared) = ud
  have Jd : Inv X pins σ (upd H2 D (.lst [])) ud := by
    rw [← hs3]
    refine Jc.laid (t' := uc.toks) (fun b o e => Heap.get?_push_of_some _ e) (Nat.le_of_eq hD) ⟨Nat.zero_le _, [], 0, .nil, ?_⟩
    rw [← hD]
    exact Heap.get?_push_size _ rfl
  have h3 : ud.heap = uc.heap.push { cls := .type "list", data := .seq ([] : List Value).toArray } := by rw [← hs3]
  have small : ∀ b ∈ fp, b < uc.heap.objs.size := fun b hb => by
    obtain ⟨o, e, _⟩ := T.obj _ _ sB b hb
    exact Heap.lt_size e
  have f3 : ∀ b ∈ fp, FpOk X pins (upd H2 D (.lst [])) b ∧ b < ud.heap.objs.size := fun b hb => by
    have hlt := small b hb
    refine ⟨⟨?_, (f2 b hb).2⟩, by rw [h3, Heap.size_push]; exact Nat.lt_succ_of_lt hlt⟩
    rw [upd_ne (by rw [← hD]; exact Nat.ne_of_lt hlt)]
    exact (f2 b hb).1
  have sC : tn 0 ud.heap := T.keep _ _ _ sB fun b _ o e => by rw [h3]; exact Heap.get?_push_of_some _ e
  have Je := hot_start hm Jd ok hN f3
  have pg := hg ud (upd H2 D (.lst [])) ud.heap.objs.size (cellsFrom (ud.heap.objs.size + 1) scope.names (cloFrom X.env.cells scope.names [])) fp
  have pt := ht ud (upd H2 D (.lst [])) ud.heap.objs.size (cellsFrom (ud.heap.objs.size + 1) scope.names (cloFrom X.env.cells scope.names [])) fp
  have pe := he ud (upd H2 D (.lst [])) ud.heap.objs.size (cellsFrom (ud.heap.objs.size + 1) scope.names (cloFrom X.env.cells scope.names [])) fp
  show codeAny _ _ (.compStart (.ListComp elt [⟨tg, iter, ifs, 0⟩] scope pos) 0 (.ref it) (.ref D) (compEnvC scope (cellsFrom (ud.heap.objs.size + 1) scope.names (cloFrom X.env.cells scope.names [])) ud.heap.objs.size X.env)) (compPost (model X.prog X.w) X.A X.xe use Qf (.ref D) ud.heap.objs.size) { ud with heap := pushCells (ud.heap.push { cls := .type "dict", data := .dict #[] }) scope.names }
  have nowh : ∀ b ∈ fp, (upd H2 D (.lst [])) b = none := fun b hb => (f3 b hb).1.1
  generalize hcv : compEnvC scope (cellsFrom (ud.heap.objs.size + 1) scope.names (cloFrom X.env.cells scope.names [])) ud.heap.objs.size X.env = ce at Je pg pt pe ⊢
  have cL : ce.locals = ud.heap.objs.size := by subst hcv; rfl
  generalize hH3 : upd H2 D (.lst []) = H3 at Jd Je pg pt pe v0 nowh f3
  generalize hs4 : ({ ud with heap := pushCells (ud.heap.push { cls := .type "dict", data := .dict #[] }) scope.names } : Shared) = ue at Je ⊢
  have sD : tn 0 ue.heap := T.keep _ _ _ sC fun b _ o e => by rw [← hs4]; exact pushCells_keeps _ _ _ _ (Heap.get?_push_of_some _ e)
  have stays : ∀ {σ' : St} {H' : Hp} {s' : Shared}, Inv (hblk X p ud H3 scope ce fp) [] σ' H' s' → (∀ b ∈ fp, H' b = none) → ∀ b ∈ fp, FpOk (hblk X p ud H3 scope ce fp) [] H' b := fun {σ' H' s'} I' hn b hb =>
    ⟨hn b hb, (I'.ok.exf b hb).1, I'.ok.exfs b hb, .inl hb, fun x c e => (I'.ok.exf b hb).2 x c e, fun q hq => by
      have eq : q = p := by simpa using (show q ∈ [p] ++ ([] : List (Addr × Obj)) from hq)
      subst eq
      exact (f3 b hb).1.2.2.2.2.2 q (List.mem_append_left _ hm)⟩
  have walk_ : codeAny (model X.prog X.w) X.A (.compLoop (.ListComp elt [⟨tg, iter, ifs, 0⟩] scope pos) 0 (.ref it) (.ref D) ce) (compPost (model X.prog X.w) X.A X.xe use Qf (.ref D) ud.heap.objs.size) ue := by
    refine compLoop_any (fun n s' => ∃ i H', Inv (hblk X p ud H3 scope ce fp) [] (wipe σ (own.map (·.2))) H' s' ∧ tn i s'.heap ∧ (∀ b ∈ fp, H' b = none) ∧ W i n H') ?_ k0 ⟨0, H3, Je, sD, nowh, v0⟩
    rintro n uf ⟨i, H5, Jf, sE, n5, v5⟩
    rcases round_ i n H5 v5 with ⟨stop, qq⟩ | ⟨go, Nx, hNx, go_on⟩
    · have td := T.done (hblk X p ud H3 scope ce fp) rfl rfl rfl ⟨p, hc, List.mem_singleton_self p⟩ i [] uf _ H5 (fun _ _ => False) Jf (stays Jf n5) sE stop
      refine thnF td fun r ug ⟨hr, Jg⟩ => ?_
      subst hr
      -- back in the def's context
      have Jh : Inv X pins σ H5 ug := Jd.call' (ch := fp) Jg.os Jg.base Jg.hok Jg.bare fun b hb => ⟨(f3 b hb).1.2.2.2.1, (f3 b hb).1.2.1, (f3 b hb).1.2.2.2.2.1, (f3 b hb).1.2.2.2.2.2⟩
      have nC : H5 ud.heap.objs.size = none := by
        have z : H5 ce.locals = none := Jg.free
        rw [cL] at z
        exact z
      obtain ⟨m, hn, _⟩ := Jg.loc
      have hn : ug.heap.Ns ce.locals m := hn
      rw [cL] at hn
      exact hRR D ud.heap.objs.size ug m H5 Jh qq hn (Jd.fpOk (Nat.le_refl _) nC)
    · have ti := T.item (hblk X p ud H3 scope ce fp) rfl rfl rfl ⟨p, hc, List.mem_singleton_self p⟩ i [] uf _ H5 (fun _ _ => False) Jf (stays Jf n5) sE go
      refine thnF ti fun r ug ⟨u, hr, h6⟩ => ?_
      subst hr
      refine thnF h6 fun _ uh ⟨x, H7, Jh, r7, y7, sG, n7⟩ => ?_
      have I7' := Jh.pinned (stays Jh n7) (T.obj _ _ sG)
      refine thnF (pg.run _ uh _ H7 x u _ I7' r7 (go_on x H7 y7)) fun _ ui ⟨σ8, H8, Ji, hw8, q8⟩ => ?_
      refine thnF (pt.run _ ui σ8 H8 _ Ji q8) fun b uj ⟨H9, Jj, q9⟩ => ?_
      -- the turn's end
      have fin : ∀ {s' : Shared} {H' : Hp}, Inv (hblk X p ud H3 scope ce fp) ([] ++ pinsAt fp uh.heap) σ8 H' s' → Nx H' → ∃ m, m < n ∧ ∃ i H', Inv (hblk X p ud H3 scope ce fp) [] (wipe σ (own.map (·.2))) H' s' ∧ tn i s'.heap ∧ (∀ b ∈ fp, H' b = none) ∧ W i m H' := fun {s' H'} I' nx => by
        obtain ⟨m', hm, w'⟩ := hNx H' nx
        have pin' : ∀ b ∈ fp, ∀ o, uh.heap.get? b = some o → s'.heap.get? b = some o ∧ H' b = none := fun b hb o e =>
          let z := I'.pin (b, o) (List.mem_append_right _ (List.mem_append_right _ (mem_pinsAt hb e)))
          ⟨z.1, z.2.1⟩
        have hl : (wipe σ (own.map (·.2))).length = σ8.length := by rw [← hw8, wipe_length]
        refine ⟨m', hm, i + 1, H', (I'.unpinned (pins := [])).weak hl (fun j v e => ?_), T.keep _ _ _ sG fun b hb o e => (pin' b hb o e).1, fun b hb => ?_, w'⟩
        · rw [← hw8] at e
          exact (wipe_some e).1
        · obtain ⟨o, e, _⟩ := T.obj _ _ sG b hb
          exact (pin' b hb o e).2
      cases b with
      | false =>
        simp only [Bool.false_eq_true, if_false] at q9 ⊢
        exact fin Jj q9
      | true =>
        simp only [if_true] at q9 ⊢
        refine thnF (pe.run _ uj σ8 H9 _ Jj q9) fun z uk ⟨yv, H10, Jk, r10, acc, hD10, hz10, nx⟩ => ?_
        exact app_ok (X := hblk X p ud H3 scope ce fp) Jk hD10 hz10 r10 fun ul Jl => fin Jl nx
  exact codeAny_compStart_list walk_ (T.self X.A 0 _ _ _ sD walk_)
theorem hot_setLc {i : Nat} {y : Str} {py : Pos} {elt tg iter : Expr} {ifs : List Expr} {scope : Scope} {own : List (Str × Nat)} {pos spos : Pos} {wi : TI} {g : TG} {tt : TT} {te : TE} {p : Addr × Obj} (hc : L2H.Hot1 X.A p) (hm : p ∈ X.pn) (hN : X.N.Nodup) (hy : X.N[i]? = some y) (hyl : X.env.scope.names.lookup y = some .local)
    (hsw : swapsWith (.ListComp elt [⟨tg, iter, ifs, 0⟩] scope pos) (some (.Name y py)) spos.line X.env = pure true) (hi : L2H.PIH X tg iter wi) (ok : BlkOk X.N X.env.scope scope own)
    (hg : ∀ (s : Shared) (H : Hp) (C : Addr) (cl : List (Str × Addr)) (fp : List Addr), PG (hblk X p s H scope (compEnvC scope cl C X.env) fp) tg g) (ht : ∀ (s : Shared) (H : Hp) (C : Addr) (cl : List (Str × Addr)) (fp : List Addr), PTs (hblk X p s H scope (compEnvC scope cl C X.env) fp) ifs tt)
    (he : ∀ (s : Shared) (H : Hp) (C : Addr) (cl : List (Str × Addr)) (fp : List Addr), PE (hblk X p s H scope (compEnvC scope cl C X.env) fp) elt te) (hs : ∀ x, foldedSetIterable iter X.env x = pure x) :
    PS X (.Assign [.Name y py] (.ListComp elt [⟨tg, iter, ifs, 0⟩] scope pos) spos) (tAsg (tLc wi g tt te (own.map (·.2))) (gName i)) := by
  refine ⟨fun pins s σ H D I h => ?_⟩
  rw [exec_Assign_Name_used _ _ _ _ hsw]
  refine wpAny_bind (wpAny_standAt (wpAny_bind ?_))
  show wpAny _ X.A (do let _ ← comprehension (.ListComp elt [⟨tg, iter, ifs, 0⟩] scope pos) scope X.env (firstIterPos [⟨tg, iter, ifs, 0⟩] pos) (newList []) false (eval iter X.env) (some (assign (.Name y py) X.env))) _ _ s
  have h : tLc wi g tt te (own.map (·.2)) σ H (fun x H1 => gName i x σ H1 D.nx) := h
  refine wpAny_bind (thn (hot_core (Qf := fun _ s' => SP X pins D .next s') hc hm hN I hi ok hg ht he hs h fun L C s' m H' I' q hn f => ?_) fun _ s' hq => wpAny_pure (wpAny_pure hq))
  show wpAny _ _ (assign (.Name y py) X.env (.ref L)) _ _ _
  refine wpAny_assign_Name (store_ok2 (v := V.ref L) I' hN hy (.inl hyl) rfl (fun uc Jc ⟨a, sb, ha⟩ => ?_) (.inr hyl))
  obtain ⟨f0, f1, f2, f3, f4, f5⟩ := f
  have haC : C ≠ a := by
    rcases ha with z | z
    · rw [z]; exact f1
    · exact fun e => f4 y a z e.symm
  refine ⟨m, hn.sameBut sb haC, fun h3 sb3 => ?_⟩
  exact ⟨_, H', Jc.turned (t' := uc.toks) (fun b o hb e => (sb3.2 b hb).trans e) f0 f1 f3 f4 f5, q⟩
end
end L2.Eng

/-! EngX2: which error is handled: a def that is called in an except suite. -/
namespace L2.Eng
open PySem PySem.Spec PyProof.Rows

/-! ### a def entered with the handled error -/
theorem fn_hot {P : Program} {w : World} {K : PySem.W.Frag} {mg : Str → Option Value} {base : Heap} {k : Nat} {f : Addr} {name qual : Str} {params : Arguments} {body : List Stmt} {scope : Scope} {dV kV doc pm cdv ct oc : Value} {an od : Option Addr}
    {osl : Array (Option Value)} {N ps : List Str} {cls : Value} {d : D} (lk : K.lookup f = some ⟨oc, od, .func (PySem.W.fnOf name qual params body scope dV kV doc pm an cdv ct), osl⟩) (hcd : PySem.W.codeIn K cdv qual = true) (S : FnScope N ps scope) (len : ps.length = 1)
    (hbody : ∀ (A : Around) (outer : List Env) (s : Shared) (H : Hp) (Q : VK) (p : Addr × Obj), L2H.Hot1 A p → Zc cls none p.2 → L2H.RoomH k (A.deeper (envOfC qual scope s.heap.objs.size f cdv)) → (∀ v H', scV d = some v → Same H H' → Q v H') →
      ∃ t, PSs (L2H.cxH (L2N.CX P w) P w K mg base N qual scope f cdv A outer s H (fun _ _ _ => False) p) body t ∧ t { nx := fun _ H' => Q .non H', rt := Q } (start N [.ref p.1]) H) :
    FnX P w K mg base (k + 1) f (PySem.W.fnOf name qual params body scope dV kV doc pm an cdv ct) ps cls d := by
  refine ⟨len, fun A outer s H args Q p room hot hz pin env0 bnd q => ?_⟩
  have KX : K.In s.heap := env0.mod.kin.keeps fun b o e => (env0.bs b o e).1
  have free : s.heap.NoLimit := env0.mod.nolimit.keeps fun b o e => (env0.bs b o e).1
  have kinds : ∀ y ∈ ps.zip [Value.ref p.1], scope.names.lookup y.1 = some .local ∨ (scope.names.lookup y.1 = some .cell ∧ ((cellsFrom (s.heap.objs.size + 1) scope.names []).lookup y.1).isSome = true) := fun ⟨n, v⟩ hy =>
    (S.par n (List.of_mem_zip hy).1).elim .inl fun z => .inr ⟨z, PySem.W.cellsFrom_some _ _ _ (.inl z)⟩
  have vals : Vals [V.ref p.1] [Value.ref p.1] := .cons rfl .nil
  refine codeAny_call_function room.depth (KX _ _ lk) rfl S.co S.gen rfl (PySem.W.codeRec_of KX hcd) (bnd _ _ _ _ ?_)
  refine wpAny_newFunctionEnv_cells S.kind kinds fun env he s1 x => ?_
  subst he
  refine ⟨free.keeps x.toInCall.keep, codeAny_func ?_⟩
  obtain ⟨t, ht, hq⟩ := hbody A outer s H Q p hot hz (room.deeper _) q
  have I0 : Inv (L2H.cxH (L2N.CX P w) P w K mg base N qual scope f cdv A outer s H (fun _ _ _ => False) p) [] (start N [.ref p.1]) H s1 := L2H.inv_startH S pin env0 len.symm vals x
  refine wpAny_mono (ht.run [] s1 _ H _ I0 hq) (fun fl s2 hs => ?_) fun e s2 hs => hs
  cases fl with
  | ret u =>
    obtain ⟨v, σ2, H2, J, rv, z⟩ := hs
    exact ⟨v, H2, J.os, J.bare, J.base, J.hok, rv, z⟩
  | next =>
    obtain ⟨σ2, H2, J, z⟩ := hs
    exact ⟨V.non, H2, J.os, J.bare, J.base, J.hok, rfl, z⟩
  | brk => exact hs.elim fun _ z => z.elim fun _ z => z.2.elim
  | cont => exact hs.elim fun _ z => z.elim fun _ z => z.2.elim

/-! ### isinstance of it -/
theorem call_isX {X : Cx} {a D : Addr} {oe : Obj} (C : ExcC X.K D) (hm : (a, oe) ∈ X.pn) (hz : Zc (.ref D) none oe) (hf : ∃ vs, oe.data = .fields vs) : CallR X (.builtin "isinstance") (rIsE X.K D a) := by
  intro pins s σ H xs us Q I r ⟨c, cv, b, ex, hcv, ek, q⟩
  subst ex
  match us, r with
  | [_, u], .cons rx (.cons rt .nil) =>
    cases rx
    obtain rfl := hcv _ rt
    have at_ := (I.pin (a, oe) (List.mem_append_left _ hm)).1
    obtain ⟨vs, hv⟩ := hf
    have J : PySem.W.InstAt s.heap a oe D none := by
      obtain ⟨oc, od, oda, osl⟩ := oe
      obtain ⟨z1, z2⟩ := hz
      dsimp only at z1 z2 hv
      subst z1 z2 hv
      exact ⟨at_, rfl, rfl, trivial⟩
    exact PySem.W.kia_one (PySem.W.handS_kitx_exc C.hg C.hk C.hs C.hd C.ha C.hn C.ht C.hm) I.kIn J ek (fun z => nomatch z) fun tk => ⟨.bl b, H, I.kept (t' := tk) fun _ _ z => z, rfl, q⟩

/-! ### the text -/
def ckIs (sc : Scope) : List Str → List Expr → Bool
  | [], [] => true
  | c :: cs, .Call (.Name i _) [.Name x _, .Name y _] [] _ :: es => decide (i = ("isinstance" : Str)) && glbB sc i && decide (x = ("problem" : Str)) && visB sc x && decide (y = c) && glbB sc y && noDbg y && ckIs sc cs es
  | _, _ => false
def ckWs : List Str → List Expr → Bool
  | [], [] => true
  | z :: zs, .Constant (.str y) _ _ :: es => decide (z = y) && ckWs zs es
  | _, _ => false
def refN : List Str := ["problem", "kinds", "found", "k"]
def ckRef (cs zs : List Str) (sc : Scope) : List Stmt → Bool
  | [.Assign [.Name kn _] (.List es _) _, .Assign [.Name fnm fp] (.ListComp (.Subscript (.List ws _) (.Name k1 _) _) [⟨.Name k2 _, .Call (.Name rg _) [.Constant (.int n) _ _] [] _, [.Subscript (.Name kn2 _) (.Name k3 _) _], 0⟩] s2 lp) sp,
      .Return (some (.IfExp (.BoolOp .And [.Compare (.Call (.Name ln _) [.Name fn2 _] [] _) [.Eq] [.Constant (.int one) _ _] _, .Call (.Name is _) [.Name pn _, .Name ve _] [] _] _) (.Subscript (.Name fn3 _) (.Constant (.int zero) _ _) _) (.Constant (.str sv) _ _) _)) _] =>
    decide (kn = ("kinds" : Str)) && decide (fnm = ("found" : Str)) && decide (k1 = ("k" : Str)) && decide (k2 = ("k" : Str)) && decide (k3 = ("k" : Str)) && decide (kn2 = ("kinds" : Str)) && decide (fn2 = ("found" : Str)) && decide (fn3 = ("found" : Str)) && decide (pn = ("problem" : Str)) &&
      decide (rg = ("range" : Str)) && decide (ln = ("len" : Str)) && decide (is = ("isinstance" : Str)) && decide (ve = ("ValueError" : Str)) && decide (sv = ("several" : Str)) && decide (one = 1) && decide (zero = 0) && decide (n = (cs.length : Int)) && decide (cs.length = zs.length) && decide (cs.length < 100) &&
      ckIs sc cs es && ckWs zs ws && locB sc "kinds" && isLoc sc "found" && visB sc "problem" && visB sc "found" && glbB sc "range" && glbB sc "len" && glbB sc "isinstance" && glbB sc "ValueError" &&
      visB s2 "kinds" && visB s2 "k" && locB s2 "k" && blkC refN sc s2 [("k", 3)] && (fp.line == lp.line) && !(s2.names.any fun (n, k) => n == ("found" : Str) && (k == .local || k == .cell))
  | _ => false
/-- the words whose class it is -/
def pick : List Bool → List Str → List Str
  | true :: bs, z :: zs => z :: pick bs zs
  | false :: bs, _ :: zs => pick bs zs
  | _, _ => []
def refWord (bs : List Bool) (zs : List Str) : Str := match pick bs zs with
  | [z] => z
  | _ => "several"
end L2.Eng

/-! EngX3: which error it is, said by one word. -/
namespace L2.Eng
open PySem PySem.Spec PyProof.Rows

/-- names within a comprehension's block -/
theorem scp_blk {X : Cx} {s : Shared} {H : Hp} {scope : Scope} {cl : List (Str × Addr)} {C : Addr} {fp : List Addr} : ScpOk scope (X.blk s H scope (compEnvC scope cl C X.env) fp) := by
  have look : ∀ {x : Str} {k : NameKind}, scope.names.lookup x = some k → ∃ k', (compEnvC scope cl C X.env).scope.names.lookup x = some k' ∧ (k' = k ∨ (k = .free ∧ k' = .cell)) := by
    intro x k h
    refine ⟨_, lookup_mapK (fun n k => k == .free && X.env.scope.kind == .function && X.env.kindOf n == some .cell) h, ?_⟩
    split
    · next hb =>
      simp only [Bool.and_eq_true] at hb
      cases k <;> first | exact .inr ⟨rfl, rfl⟩ | (exact absurd hb.1.1 (by decide))
    · exact .inl rfl
  refine ⟨fun x h => ?_, fun x h => ?_, fun x h => ?_, fun x h => ?_⟩
  · obtain ⟨k, e, hk⟩ := visB_of h
    obtain ⟨k', e', hk'⟩ := look e
    rcases hk' with rfl | ⟨rfl, rfl⟩
    · rcases hk with rfl | rfl | rfl
      · exact .inl e'
      · exact .inr (.inl e')
      · exact .inr (.inr e')
    · exact .inr (.inl e')
  · obtain ⟨k', e', hk'⟩ := look (glbB_of h)
    rcases hk' with rfl | ⟨h1, _⟩
    · exact e'
    · cases h1
  · obtain ⟨k, e, hk⟩ := locB_of h
    obtain ⟨k', e', hk'⟩ := look e
    rcases hk' with rfl | ⟨rfl, rfl⟩
    · rcases hk with rfl | rfl
      · exact ⟨.inl e', .inr e'⟩
      · exact ⟨.inr e', .inl (by show (scope.names.lookup x == some .cell) = true; rw [e]; rfl)⟩
    · rcases hk with h | h <;> cases h
  · rcases h with h | h
    · obtain ⟨k', e', hk'⟩ := look h
      rcases hk' with rfl | ⟨h1, _⟩
      · exact .inl e'
      · cases h1
    · obtain ⟨k', e', hk'⟩ := look h
      rcases hk' with rfl | ⟨_, rfl⟩
      · exact .inr e'
      · exact .inl e'
theorem pick_succ : ∀ {bs : List Bool} {zs : List Str} {i : Nat} {b : Bool} {z : Str}, bs[i]? = some b → zs[i]? = some z → pick (bs.take (i + 1)) (zs.take (i + 1)) = pick (bs.take i) (zs.take i) ++ if b = true then [z] else []
  | b0 :: bs, z0 :: zs, 0, b, z, h1, h2 => by
    cases h1
    cases h2
    cases b0 <;> simp [pick]
  | b0 :: bs, z0 :: zs, i + 1, b, z, h1, h2 => by
    have ih := pick_succ (bs := bs) (zs := zs) (i := i) (b := b) (z := z) (by simpa using h1) (by simpa using h2)
    rw [List.take_succ_cons, List.take_succ_cons, List.take_succ_cons, List.take_succ_cons]
    cases b0
    · exact ih
    · show z0 :: pick _ _ = (z0 :: pick _ _) ++ _
      rw [ih, List.cons_append]
  | [], _, _, _, _, h, _ => by simp at h
  | _ :: _, [], _, _, _, _, h => by simp at h
theorem pick_len : ∀ (bs : List Bool) (zs : List Str), (pick bs zs).length ≤ bs.length
  | [], _ => by simp [pick]
  | true :: bs, [] => by simp [pick]
  | false :: bs, [] => by simp [pick]
  | true :: bs, z :: zs => by simp [pick]; exact pick_len bs zs
  | false :: bs, z :: zs => by simp [pick]; have := pick_len bs zs; omega
abbrev G0 : Hp := fun _ => none
theorem same0 (H : Hp) : Same G0 H := fun _ _ e => nomatch e
theorem rq_strs : ∀ zs : List Str, RqAll G0 (zs.map V.str) (zs.map PyData.str)
  | [] => .nil
  | z :: zs => .cons (.str z) (rq_strs zs)
theorem rq_bls : ∀ bs : List Bool, RqAll G0 (bs.map V.bl) (bs.map PyData.bool)
  | [] => .nil
  | b :: bs => .cons (.bl b) (rq_bls bs)
theorem vw_list {H : Hp} {a : Addr} {vs : List V} {ds : List D} (h : H a = some (.lst vs)) (r : RqAll G0 vs ds) : Vw G0 H (.ref a) (.list ds) := .inr ⟨a, vs, ds, rfl, rfl, h, r⟩
theorem at_nat {α : Type} {xs : List α} {i : Nat} {x : α} (h : xs[i]? = some x) (hl : xs.length < 100) : atI xs (i : Int) = some x := by
  have hi := (List.getElem?_eq_some_iff.mp h).1
  unfold atI ixN
  rw [if_pos (by omega), if_pos (by omega)]
  simpa using h

structure HX (X : Cx) (a : Addr) (oe : Obj) (D : Addr) (sc : Scope) : Prop where
  hN : X.N = refN
  scp : ScpOk sc X
  scE : X.env.scope = sc
  pn : (a, oe) ∈ X.pn
  hot : L2H.Hot1 X.A (a, oe)
  hz : Zc (.ref D) none oe
  hu : X.A.units + 68 < cLine
  cD : ExcC X.K D
  kd : X.env.scope.kind = .function
  rg : X.mg "range" = none
  ln : X.mg "len" = none
  ii : X.mg "isinstance" = none
  ve : X.mg "ValueError" = none
  hv : PySem.W.kitOne X.K (.ref D) (.type "ValueError") = some true
section
variable {X : Cx} {a D : Addr} {oe : Obj} {sc : Scope}
theorem HX.nth (h : HX X a oe D sc) {i : Nat} {x : Str} (e : refN[i]? = some x) : X.N[i]? = some x := by rw [h.hN]; exact e
theorem is_call (h : HX X a oe D sc) {y : Str} {cv : Value} {c : V} {b : Bool} {p0 p1 p2 pos : Pos} (hc : PE X (.Name y p2) (tC c)) (hcv : ∀ u, RelV c u → u = cv) (hk : PySem.W.kitOne X.K (.ref D) cv = some b) (g : glbB sc "isinstance" = true) (hv : visB sc "problem" = true) :
    PE X (.Call (.Name "isinstance" p0) [.Name "problem" p1, .Name y p2] [] pos) (fun σ H Q => σ[0]? = some (some (.ref a)) ∧ Q (.bl b) H) := by
  obtain ⟨vs, hvs, _⟩ := h.hot.2
  refine (pe_val (.inl ⟨_, rfl⟩) (call_isX h.cD h.pn h.hz ⟨vs, hvs⟩) (h.scp.gl _ g) h.ii PyProof.Rows.boot_isinstance (pa_cons (pe_var (i := 0) (h.nth rfl) (h.scp.vis _ hv)) (pa_cons hc pa_nil (star1 rfl _ _)) (star1 rfl _ _)) (by decide) (by decide) ?_).weak fun σ H Q ⟨e, q⟩ => ⟨_, e, c, cv, b, rfl, hcv, hk, q⟩
  intro z hz
  simp only [List.mem_cons, List.not_mem_nil, or_false] at hz
  rcases hz with rfl | rfl <;> rfl
theorem is_list (h : HX X a oe D sc) (g : glbB sc "isinstance" = true) (hv : visB sc "problem" = true) : ∀ {cs : List Str} {es : List Expr} {bs : List Bool}, ckIs sc cs es = true → Paired (fun c b => ∃ C, X.mg c = some (.ref C) ∧ PySem.W.kitOne X.K (.ref D) (.ref C) = some b) cs bs →
    PA X es (fun σ H Q => σ[0]? = some (some (.ref a)) ∧ Q (bs.map V.bl) H)
  | [], [], [], _, _ => pa_nil.weak fun σ H Q ⟨_, q⟩ => q
  | c :: cs, .Call (.Name i p0) [.Name x p1, .Name y p2] [] pos :: es, b :: bs, ck, .cons hb hbs => by
    simp only [ckIs, Bool.and_eq_true, decide_eq_true_eq] at ck
    obtain ⟨⟨⟨⟨⟨⟨⟨rfl, g1⟩, rfl⟩, g2⟩, rfl⟩, g3⟩, g4⟩, g5⟩ := ck
    obtain ⟨C, m1, m2⟩ := hb
    have hc : PE X (.Name y p2) (tC (.ref C)) := pe_glob (h.scp.gl _ g3) m1 rfl (noDbg_split g4).1
    refine (pa_cons (is_call h hc (fun u r => r) m2 g hv) (is_list h g hv g5 hbs) (star1 rfl _ _)).weak fun σ H Q ⟨e, q⟩ => ⟨e, e, q⟩
  | [], _ :: _, _, ck, _ => by simp [ckIs] at ck
  | _ :: _, [], _, ck, _ => by simp [ckIs] at ck
theorem word_list {Y : Cx} : ∀ {zs : List Str} {es : List Expr}, ckWs zs es = true → PA Y es (fun _ H Q => Q (zs.map V.str) H)
  | [], [], _ => pa_nil
  | z :: zs, .Constant (.str y) _ _ :: es, ck => by
    simp only [ckWs, Bool.and_eq_true, decide_eq_true_eq] at ck
    obtain ⟨rfl, g⟩ := ck
    exact (pa_cons pe_str (word_list g) (star1 rfl _ _)).weak fun σ H Q q => q
  | [], _ :: _, ck => by simp [ckWs] at ck
  | _ :: _, [], ck => by simp [ckWs] at ck
theorem ckIs_len : ∀ {cs : List Str} {es : List Expr} {bs : List Bool} {R : Str → Bool → Prop}, Paired R cs bs → cs.length = bs.length
  | _, _, _, _, h => Paired.length h
theorem plainN {x : Str} {p : Pos} : PlainIx (.Name x p) := fun _ _ => rfl
theorem ref_body (h : HX X a oe D sc) {cs zs : List Str} {bs : List Bool} {body : List Stmt} (ck : ckRef cs zs sc body = true) (hp : Paired (fun c b => ∃ C, X.mg c = some (.ref C) ∧ PySem.W.kitOne X.K (.ref D) (.ref C) = some b) cs bs) :
    PSs X body (fun E σ H => σ = [some (.ref a), none, none, none] ∧ ∀ H', Same H H' → E.rt (.str (refWord bs zs)) H') := by
  unfold ckRef at ck
  split at ck
  case h_2 => cases ck
  simp only [Bool.and_eq_true, decide_eq_true_eq, Bool.not_eq_true'] at ck
  obtain ⟨⟨⟨⟨⟨⟨⟨⟨⟨⟨⟨⟨⟨⟨⟨⟨⟨⟨⟨⟨⟨⟨⟨⟨⟨⟨⟨⟨⟨⟨⟨⟨⟨⟨rfl, rfl⟩, rfl⟩, rfl⟩, rfl⟩, rfl⟩, rfl⟩, rfl⟩, rfl⟩, rfl⟩, rfl⟩, rfl⟩, rfl⟩, rfl⟩, rfl⟩, rfl⟩, rfl⟩, lz⟩, l100⟩, g1⟩, g2⟩, g3⟩, g4⟩, g5⟩, g6⟩, g7⟩, g8⟩, g9⟩, g10⟩, g11⟩, g12⟩, g13⟩, g14⟩, g15⟩, g16⟩ := ck
  rename_i bd q28 es q27 q26 fp ws q25 q24 q23 q22 q21 k3 q20 q19 q18 q17 q16 s2 lp sp q15 q14 q13 k2 q12 q11 q10 q9 q8 q7 q6 q5 k1 q4 q3 k0 q2 q1 q0
  have hN : X.N.Nodup := by rw [h.hN]; decide +kernel
  have hfl : X.env.scope.names.lookup ("found" : Str) = some NameKind.local := by rw [h.scE]; exact of_decide_eq_true g4
  have lb : cs.length = bs.length := Paired.length hp
  have ok : BlkOk X.N X.env.scope s2 [("k", 3)] := by rw [h.hN, h.scE]; exact blkOk_by g14
  have big : 100 ≤ sizeLine := by decide
  have hu := h.hu
  have st1 : PS X (.Assign [.Name "kinds" q28] (.List es q27) q26) _ := ps_set (i := 1) hN (h.nth rfl) (h.scp.loc _ g3).1 (pe_lst (is_list h g9 g5 g1 hp)) (by rfl) (h.scp.loc _ g3).2
  have bk : ∀ (s : Shared) (H : Hp) (cl : List (Str × Addr)) (C : Addr) (fp : List Addr), ScpOk s2 (hblk X (a, oe) s H s2 (compEnvC s2 cl C X.env) fp) := fun s H cl C fp =>
    have q := scp_blk (X := X) (s := s) (H := H) (scope := s2) (cl := cl) (C := C) (fp := fp)
    ⟨q.vis, q.gl, q.loc, q.free⟩
  have st2 := hot_setLc (X := X) (tt := fun σ H_1 Q => tOp rIdx (tVar 1) (tVar 3) σ H_1 fun x H' => ∃ k, TruV X.K x H' k ∧ Q k H') (te := tOp rIdx (tLst (fun _ H Q => Q (zs.map V.str) H)) (tVar 3)) (i := 2) (y := "found") (py := fp) (spos := sp) h.hot h.pn hN (h.nth rfl) hfl (sw_true (l := sp.line) h.kd hfl g15 g16)
    (L2H.pi_range1H (tg := .Name "k" q22) (p := q21) (pos := q19) (h.scp.gl _ g7) h.rg (pa_cons (pe_int (j := k3) (pos := q20) (i := (cs.length : Int))) pa_nil) (by rfl)) ok
    (fun s H C cl fp => pg_name (X := hblk X (a, oe) s H s2 (compEnvC s2 cl C X.env) fp) (i := 3) (x := "k") (pos := q22) hN (h.nth rfl) ((bk s H cl C fp).loc _ g13).1 ((bk s H cl C fp).loc _ g13).2)
    (fun s H C cl fp => pts_one (pt_truth (X := hblk X (a, oe) s H s2 (compEnvC s2 cl C X.env) fp) (pe_ix (pos := q16) ix_data (pe_var (X := hblk X (a, oe) s H s2 (compEnvC s2 cl C X.env) fp) (i := 1) (x := "kinds") (pos := q18) (h.nth rfl) ((bk s H cl C fp).vis _ g11)) (pe_var (i := 3) (x := "k") (pos := q17) (h.nth rfl) ((bk s H cl C fp).vis _ g12)) plainN) (fun _ => rfl)))
    (fun s H C cl fp => pe_ix (X := hblk X (a, oe) s H s2 (compEnvC s2 cl C X.env) fp) (pos := q23) ix_data (pe_lst (pos := q25) (word_list g2)) (pe_var (i := 3) (x := "k") (pos := q24) (h.nth rfl) ((bk s H cl C fp).vis _ g12)) plainN) (fun _ => rfl)
  have fnd : ∀ q, PE X (.Name "found" q) (tVar 2) := fun q => pe_var (i := 2) (h.nth rfl) (h.scp.vis _ g6)
  have hlen : PE X (.Call (.Name "len" q15) [.Name "found" q14] [] q13) _ := pe_val (.inl ⟨_, rfl⟩) call_len (h.scp.gl _ g8) h.ln boot_len (pa_cons (fnd q14) pa_nil (star1 rfl _ _)) (by decide) (by decide) (fun z hz => by simp only [List.mem_cons, List.not_mem_nil, or_false] at hz; subst hz; rfl)
  have hve : PE X (.Name "ValueError" q8) (tC (.ty "ValueError")) := pe_bltn (h.scp.gl _ g10) h.ve (by decide +kernel) rfl (by decide) (by decide)
  have tst := (pw_and (pos := q6) (pt_cmpR (pos := q11) (op := .Eq) (op_cmp (by omega) .Eq) hlen (pe_int (j := k2) (pos := q12) (i := 1)) rfl) (pw_and1 (pt_truth (is_call (p0 := q10) (p1 := q9) (pos := q7) h hve (fun u r => r) h.hv g9 g5) (fun _ => rfl)))).pt
  have st3 := ps_ret (pos := q0) (pe_ifExp (pos := q1) tst (pe_ix (pos := q3) ix_data (fnd q5) (pe_int (j := k1) (pos := q4) (i := 0)) (fun _ _ => rfl)) (pe_str (j := k0) (pos := q2) (x := "several")))
  refine PSs.weak (pss_cons st1 (pss_cons st2 (pss_one st3))) ?_
  rintro E σ H ⟨rfl, kq⟩
  refine ⟨rfl, by rw [List.length_map]; omega, fun l0 hl0 => ?_⟩
  refine ⟨(cs.length : Int), rfl, by omega, by omega, fun L hL => ?_⟩
  rw [Int.toNat_natCast]
  have nLl : l0 ≠ L := fun z => by
    rw [← z] at hL
    have hL' : (upd H l0 (.lst (bs.map V.bl))) l0 = none := hL
    rw [upd_same] at hL'
    cases hL'
  have s1 : Same H (upd H l0 (.lst (bs.map V.bl))) := fun b u e => by rw [upd_ne (ne_of_none e hl0)]; exact e
  refine lc_range (lo := 0) (n := cs.length) (g := gName 3) (tt := fun σ H_1 Q => tOp rIdx (tVar 1) (tVar 3) σ H_1 fun x H' => ∃ k, TruV X.K x H' k ∧ Q k H') (te := tOp rIdx (tLst (fun _ H Q => Q (zs.map V.str) H)) (tVar 3)) (vs := [3]) (σ := [some (.ref a), some (.ref l0), none, none])
    (Qd := fun H' => tRet (tIf (tAnd (tTest (tOp (rCmp .Eq) (tCB (fun xs H Q => ∃ x n, xs = [x] ∧ LenV X.K x H n ∧ Q (V.int ↑n) H) (tCons (tVar 2) tNil)) (tC (V.int 1)))) fun σ H Q => σ[0]? = some (some (V.ref a)) ∧ (fun x H' => ∃ k, TruV X.K x H' k ∧ Q k H') (V.bl true) H)
      (tOp rIdx (tVar 2) (tC (V.int 0))) (tC (V.str "several"))) E [some (.ref a), some (.ref l0), some (.ref L), none] H') (fun i H' => (∀ b u, b ≠ L → (upd H l0 (.lst (bs.map V.bl))) b = some u → H' b = some u) ∧ H' L = some (.lst ((pick (bs.take i) (zs.take i)).map V.str))) ⟨fun b u hb e => by rw [upd_ne hb]; exact e, ?_⟩ ?_ ?_
  · rw [upd_same]
    simp [pick]
  · rintro i H' hi ⟨hk, hD⟩
    obtain ⟨b, eb⟩ : ∃ b, bs[i]? = some b := ⟨_, List.getElem?_eq_getElem (by omega)⟩
    obtain ⟨z, ez⟩ : ∃ z, zs[i]? = some z := ⟨_, List.getElem?_eq_getElem (by omega)⟩
    have hK : H' l0 = some (.lst (bs.map V.bl)) := hk l0 _ nLl upd_same
    refine ⟨rfl, .ref l0, rfl, .int (0 + (i : Nat)), rfl, G0, .list (bs.map PyData.bool), .int (0 + (i : Nat)), .bool b, same0 _, vw_list hK (rq_bls bs), .inl (.int _), ?_, fun v rv => ?_⟩
    · show atI _ _ = _
      rw [Int.zero_add]
      exact at_nat (by rw [List.getElem?_map, eb]; rfl) (by rw [List.length_map]; omega)
    · refine ⟨b, Vw.truth (G := G0) (d := .bool b) (same0 _) (.inl rv) rfl, ?_⟩
      have ps := pick_succ eb ez
      dsimp only
      cases b with
      | false =>
        rw [if_neg Bool.false_ne_true]
        rw [if_neg Bool.false_ne_true, List.append_nil] at ps
        rw [ps]
        exact ⟨hk, hD⟩
      | true =>
        rw [if_pos rfl]
        rw [if_pos rfl] at ps
        refine ⟨by rw [List.length_map]; omega, fun q hq => ?_⟩
        refine ⟨.int (0 + (i : Nat)), rfl, G0, .list (zs.map PyData.str), .int (0 + (i : Nat)), .str z, same0 _, vw_list upd_same (rq_strs zs), .inl (.int _), ?_, fun v rv => ?_⟩
        · show atI _ _ = _
          rw [Int.zero_add]
          exact at_nat (by rw [List.getElem?_map, ez]; rfl) (by rw [List.length_map]; omega)
        · cases rv.vStr
          refine ⟨(pick (bs.take i) (zs.take i)).map V.str, by rw [upd_ne (ne_of_none hD hq)]; exact hD, ?_, fun b u hb e => ?_, ?_⟩
          · rw [List.length_map]
            have l1 := pick_len (bs.take i) (zs.take i)
            rw [List.length_take] at l1
            omega
          · rw [upd_ne hb, upd_ne (ne_of_none (hk b u hb e) hq)]
            exact hk b u hb e
          · rw [upd_same, ps, List.map_append]
            rfl
  · rintro H' ⟨hk, hD⟩
    rw [List.take_of_length_le (by omega), List.take_of_length_le (by omega)] at hD
    have sH : Same H H' := fun b u e => hk b u (ne_of_none (s1 b u e) hL) (s1 b u e)
    have fin := kq H' sH
    refine ⟨.ref L, rfl, .ref L, (pick bs zs).length, rfl, .inl ⟨_, SqL.rd (.inl hD), by rw [List.length_map]⟩, G0, .int (((pick bs zs).length : Nat) : Int), .int 1, PyData.eqv (.int (((pick bs zs).length : Nat) : Int)) (.int 1), same0 _, .inl (.int _), .inl (.int _), rfl, _, rfl, ?_⟩
    have tt : TruV X.K (.bl true) H' true := Vw.truth (G := G0) (d := .bool true) (same0 _) (.inl (.bl true)) rfl
    unfold refWord at fin
    cases hpk : pick bs zs with
    | nil =>
      rw [hpk] at fin
      exact fin
    | cons z r =>
      cases r with
      | nil =>
        rw [hpk] at fin hD
        refine ⟨rfl, true, tt, ?_⟩
        refine ⟨.ref L, rfl, G0, .list [.str z], .int 0, .str z, same0 _, vw_list hD (rq_strs [z]), .inl (.int _), rfl, fun v rv => ?_⟩
        cases rv.vStr
        exact fin
      | cons z2 r =>
        rw [hpk] at fin
        have e : PyData.eqv (.int (((z :: z2 :: r).length : Nat) : Int)) (.int 1) = false := by
          simp [PyData.eqv]
          omega
        rw [e]
        exact fin
end
end L2.Eng

/-! EngX4: the facts that the word leans on. -/
namespace L2.Eng
open PySem PySem.Spec PyProof.Rows
def excB (K : PySem.W.Frag) (x : Str) : Bool := He.eqO (PySem.W.findIn K (.ref (He.ga K x)) "__getattribute__") (some (some (.builtin "BaseException.__getattribute__"))) && He.eqO (PySem.W.findIn K (.ref (He.ga K x)) "__getattr__") (some none) &&
  decide (PySem.W.subIn K (.ref (He.ga K x)) (.type "BaseException") = some true) && PySem.W.hasDictIn K (He.ga K x) && He.eqO (PySem.W.findIn K (.ref (He.ga K x)) "__class__") (some (some (.builtin "object.__class__"))) &&
  He.eqO (PySem.W.specialIn K (.builtin "object.__class__") "__get__") (some (some (.builtin "getset_descriptor.__get__"))) && decide (PySem.W.takesIn K (.builtin "object.__class__") = some true) && decide (PySem.W.mroIn K (He.ga K x) (.type "object") = some true)
theorem excB_ok {K : PySem.W.Frag} {x : Str} (h : excB K x = true) : ExcC K (He.ga K x) := by
  unfold excB at h
  simp only [Bool.and_eq_true, decide_eq_true_eq] at h
  obtain ⟨⟨⟨⟨⟨⟨⟨h1, h2⟩, h3⟩, h4⟩, h5⟩, h6⟩, h7⟩, h8⟩ := h
  exact ⟨He.eqO_ok h1, He.eqO_ok h2, h3, h4, He.eqO_ok h5, He.eqO_ok h6, h7, h8⟩
def kitsB (K : PySem.W.Frag) (x : Str) : List Str → List Bool → Bool
  | [], [] => true
  | c :: cs, b :: bs => (He.Fa.glo c).ok K && decide (PySem.W.kitOne K (.ref (He.ga K x)) (.ref (He.ga K c)) = some b) && kitsB K x cs bs
  | _, _ => false
theorem kitsB_ok {K : PySem.W.Frag} {h : Heap} {mg : Str → Option Value} (X : K.In h) (G : h.Ns mainGlobals mg) {x : Str} : ∀ {cs : List Str} {bs : List Bool}, kitsB K x cs bs = true →
    Paired (fun c b => ∃ C, mg c = some (.ref C) ∧ PySem.W.kitOne K (.ref (He.ga K x)) (.ref C) = some b) cs bs
  | [], [], _ => .nil
  | c :: cs, b :: bs, q => by
    simp only [kitsB, Bool.and_eq_true, decide_eq_true_eq] at q
    exact .cons ⟨_, He.glo_ok X G q.1.1, q.1.2⟩ (kitsB_ok X G q.2)
  | [], _ :: _, q => by simp [kitsB] at q
  | _ :: _, [], q => by simp [kitsB] at q
/-- an error's class x: which of the classes cs it is under -/
def hotB (cs : List Str) (q : Str × List Bool) (K : PySem.W.Frag) : Bool := (He.Fa.glo q.1).ok K && excB K q.1 && kitsB K q.1 cs q.2 && decide (PySem.W.kitOne K (.ref (He.ga K q.1)) (.type "ValueError") = some true)
def freeB (K : PySem.W.Frag) : Bool := (He.Fa.free "range").ok K && (He.Fa.free "len").ok K && (He.Fa.free "isinstance").ok K && (He.Fa.free "ValueError").ok K
def hotOf (zs : List Str) (tbl : List (Str × List Bool)) (f x : Str) : Option D := if f = ("_law_refusal" : Str) then (tbl.lookup x).map fun bs => .str (refWord bs zs) else none
theorem hot_fn {p : Pr} {top : Nat → Stmt} {cs zs : List Str} {tbl : List (Str × List Bool)} {st : Nat} (hts : (("_law_refusal" : Str), st) ∈ p.hts) (hx : freeB ∈ p.xf) (ht : ∀ q ∈ tbl, hotB cs q ∈ p.xf) (ck : ckRef cs zs (defScope (top st)) (defBody (top st)) = true)
    (sc : C8.scC refN ["problem"] (defScope (top st)) = true)
    (hb : ∀ (kV doc pm : Value) (an : Option Addr) (cdv ct : Value) (us : List Value), us.length = 1 → bindArgs (PySem.W.fnOf "_law_refusal" "_law_refusal" (defArgs (top st)) (defBody (top st)) (defScope (top st)) .none kV doc pm an cdv ct) ⟨us, []⟩ = pure ((["problem"] : List Str).zip us))
    {P : Program} (w : World) (K : PySem.W.Frag) (h : Heap) (mg : Str → Option Value) (pk : PK p top K) (X : K.In h) (G : h.Ns mainGlobals mg) (base : Heap) (n : Nat) (f x : Str) (d : D) (e : hotOf zs tbl f x = some d) :
    ∃ a fd ps cls, mg f = some (.ref a) ∧ mg x = some cls ∧ PySem.W.keepIn K (.ref a) = true ∧ Binds K fd ps [] ∧ FnX P w K mg base (n + 1) a fd ps cls d := by
  unfold hotOf at e
  split at e
  case isFalse => cases e
  rename_i ef
  subst ef
  cases et : tbl.lookup x with
  | none => rw [et] at e; cases e
  | some bs =>
    rw [et] at e
    cases e
    have q := pk.xf _ (ht _ (mem_lk et))
    unfold hotB at q
    simp only [Bool.and_eq_true, decide_eq_true_eq] at q
    obtain ⟨⟨⟨q1, q2⟩, q3⟩, q4⟩ := q
    have qf := pk.xf _ hx
    unfold freeB at qf
    simp only [Bool.and_eq_true] at qf
    obtain ⟨⟨⟨f1, f2⟩, f3⟩, f4⟩ := qf
    obtain ⟨g1, fd, F⟩ := pk.hf _ hts
    have S : FnScope refN ["problem"] (defScope (top st)) := C8.fnScope_by sc
    refine ⟨_, fd, ["problem"], _, He.glo_ok X G g1, He.glo_ok X G q1, F.kp, F.bindsN hb, ?_⟩
    obtain ⟨oc, od, dV, kV, doc, pm, an, cdv, ct, osl, rfl, lk, hcd, _, _⟩ := F.ex
    refine fn_hot lk hcd S rfl fun A outer s H Q p hot hz room q => ?_
    have hx : HX (L2H.cxH (L2N.CX P w) P w K mg base refN "_law_refusal" (defScope (top st)) (He.ga K "_law_refusal") cdv A outer s H (fun _ _ _ => False) p) p.1 p.2 (He.ga K x) (defScope (top st)) := by
      refine ⟨rfl, ⟨fun x hx => ?_, fun x hx => glbB_of hx, fun x hx => ?_, fun x hx => hx⟩, rfl, List.mem_singleton_self _, hot, hz, ?_, excB_ok q2, S.kind, He.free_ok X G f1, He.free_ok X G f2, He.free_ok X G f3, He.free_ok X G f4, q4⟩
      · obtain ⟨k, e, hk⟩ := visB_of hx
        rcases hk with rfl | rfl | rfl
        · exact .inl e
        · exact .inr (.inl e)
        · exact .inr (.inr e)
      · obtain ⟨k, e, hk⟩ := locB_of hx
        rcases hk with rfl | rfl
        · exact ⟨.inl e, .inl rfl⟩
        · exact ⟨.inr e, .inl rfl⟩
      · have rm : (A.deeper (envOfC "_law_refusal" (defScope (top st)) s.heap.objs.size (He.ga K "_law_refusal") cdv)).units + 16 * n + 200 < cLine := room.un
        show (A.deeper (envOfC "_law_refusal" (defScope (top st)) s.heap.objs.size (He.ga K "_law_refusal") cdv)).units + 68 < cLine
        omega
    exact ⟨_, ref_body hx ck (kitsB_ok X G q3), rfl, fun H' sH => q _ H' rfl sH⟩
end L2.Eng

/-! EngP: the evaluator, step by step. -/
namespace L2.Eng
open PySem

theorem lev_call {fs : List Fn} {B : Fx} {k : Nat} {f : Str} {F : Fn} (h : (Fn.tab fs).lookup f = some F) (hk : 0 < k) (ts : List T) : (lev fs B k).call f ts = runFn (lev fs B (k - 1)) F ts := by
  cases k with
  | zero => omega
  | succ k =>
    show (match (Fn.tab fs).lookup f with | some F => runFn (lev fs B k) F ts | none => .no) = _
    rw [h]
    rfl
theorem run_fn {Φ : Fx} {F : Fn} {ts : List T} (h : ts.length = F.np) : runFn Φ F ts = endR F.body.sets ts (exSs Φ F.body (startR F.N.length ts)) := if_pos h
section
variable {α β : Type} {ρ ρ1 : Rho}
theorem bind_ok (a : α) (f : α → Rho → R β) : (R.ok a ρ).bind f = f a ρ := rfl
theorem bind_exc (x : Ex) (f : α → Rho → R β) : (R.exc x ρ).bind f = .exc x ρ := rfl
theorem map_ok (a : α) (f : α → β) : (R.ok a ρ).map f = .ok (f a) ρ := rfl
theorem map_exc (x : Ex) (f : α → β) : (R.exc x ρ).map f = .exc x ρ := rfl
theorem of_some (a : α) : R.of (some a) ρ = .ok a ρ := rfl
theorem bind_left {x y : R α} {f : α → Rho → R β} (h : x = y) : x.bind f = y.bind f := by rw [h]
theorem obind_left {x y : Option α} {f : α → Option β} (h : x = y) : x.bind f = y.bind f := by rw [h]
theorem bind_ite {c : Prop} [Decidable c] (x y : R α) (f : α → Rho → R β) : (if c then x else y).bind f = if c then x.bind f else y.bind f := by split <;> rfl
theorem map_ite {c : Prop} [Decidable c] (x y : R α) (f : α → β) : (if c then x else y).map f = if c then x.map f else y.map f := by split <;> rfl
theorem endR_ite {c : Prop} [Decidable c] {l : List Nat} {ts : List T} (x y : R Fl) : endR l ts (if c then x else y) = if c then endR l ts x else endR l ts y := by split <;> rfl
end
theorem endR_rt {l : List Nat} {ts : List T} (t : T) (ρ : Rho) : endR l ts (.ok (.rt t) ρ) = match backs l 0 ts ρ with
    | some us => .ok t us
    | none => .no := rfl
theorem endR_nx {l : List Nat} {ts : List T} (ρ : Rho) : endR l ts (.ok .nx ρ) = match backs l 0 ts ρ with
    | some us => .ok (.fz .none) us
    | none => .no := rfl
theorem endR_exc {l : List Nat} {ts : List T} (x : Ex) (ρ : Rho) : endR l ts (.exc x ρ) = match backs l 0 ts ρ with
    | some us => .exc x us
    | none => .no := rfl
theorem bi_len (ds : List D) : biD .len [.list ds] = some (.fz (.int ds.length)) := rfl
theorem bi_lenT (ds : List D) : biD .len [.tuple ds] = some (.fz (.int ds.length)) := rfl
theorem bi_abs (i : Int) : biD .abs [.int i] = some (.fz (.int (if i < 0 then -i else i))) := rfl
theorem bi_int (i : Int) : biD .int [.int i] = some (.fz (.int i)) := rfl
theorem bi_list (ds : List D) : biD .list [.list ds] = some (.ol ds) := rfl
theorem bi_listT (ds : List D) : biD .list [.tuple ds] = some (.ol ds) := rfl
theorem bi_max2 (i j : Int) : biD .max2 [.int i, .int j] = some (.fz (.int (if j > i then j else i))) := rfl
theorem bi_min2 (i j : Int) : biD .min2 [.int i, .int j] = some (.fz (.int (if j < i then j else i))) := rfl
theorem sz_eq : sizeLine = 16777216 := by decide
section
variable {Φ : Fx}
/-! ### expressions -/
abbrev dflT (o : Rho → R Opd) (ρ : Rho) : R Bool := (o ρ).bind fun x ρ1 => R.of ((x.see ρ1).bind truthD) ρ1
theorem e_nm (i : Nat) (ρ : Rho) : (ev2 Φ (.nm i)).1 ρ = match slotT ρ i with
    | some _ => .ok (.sl i) ρ
    | none => .no := rfl
theorem e_int (i : Int) (ρ : Rho) : (ev2 Φ (.int i)).1 ρ = .ok (.tmp (.fz (.int i))) ρ := rfl
theorem e_str (i : Str) (ρ : Rho) : (ev2 Φ (.str i)).1 ρ = .ok (.tmp (.fz (.str i))) ρ := rfl
theorem e_bl (i : Bool) (ρ : Rho) : (ev2 Φ (.bl i)).1 ρ = .ok (.tmp (.fz (.bool i))) ρ := rfl
theorem e_non (ρ : Rho) : (ev2 Φ .non).1 ρ = .ok (.tmp (.fz .none)) ρ := rfl
theorem e_glb (x : Str) (d : D) (ρ : Rho) : (ev2 Φ (.glb x d)).1 ρ = .ok (.tmp (.fz d)) ρ := rfl
theorem e_bin (op : Operator) (a b : E) (ρ : Rho) : (ev2 Φ (.bin op a b)).1 ρ = ((ev2 Φ a).1 ρ).bind fun x ρ1 => ((ev2 Φ b).1 ρ1).bind fun y ρ2 => R.of ((x.see ρ2).bind fun d => (y.see ρ2).bind fun e => (binD op d e).map Opd.tmp) ρ2 := rfl
theorem e_neg (a : E) (ρ : Rho) : (ev2 Φ (.neg a)).1 ρ = ((ev2 Φ a).1 ρ).bind fun x ρ1 => R.of ((x.see ρ1).bind fun d => (negD d).map fun e => .tmp (.fz e)) ρ1 := rfl
theorem e_cmp (op : CmpOp) (a b : E) (ρ : Rho) : (ev2 Φ (.cmp op a b)).1 ρ = ofB (cmpB op (ev2 Φ a).1 (ev2 Φ b).1 ρ) := rfl
theorem t_cmp (op : CmpOp) (a b : E) (ρ : Rho) : (ev2 Φ (.cmp op a b)).2 ρ = cmpB op (ev2 Φ a).1 (ev2 Φ b).1 ρ := rfl
theorem chn_if (o1 o2 : CmpOp) (oa ob oc : Rho → R Opd) (ρ : Rho) : chnB o1 o2 oa ob oc ρ = (oa ρ).bind fun x ρ1 => (ob ρ1).bind fun y ρ2 => (R.of ((x.see ρ2).bind fun d => (y.see ρ2).bind fun e => cmpD o1 d e) ρ2).bind fun k ρ2 =>
    if k = true then (oc ρ2).bind fun z ρ3 => R.of ((y.see ρ3).bind fun e => (z.see ρ3).bind fun f => cmpD o2 e f) ρ3 else .ok false ρ2 := by
  unfold chnB
  congr
  funext x ρ1
  congr
  funext y ρ2
  cases ((x.see ρ2).bind fun d => (y.see ρ2).bind fun e => cmpD o1 d e) with
  | none => rfl
  | some b => cases b <;> rfl
theorem e_chn (o1 o2 : CmpOp) (a b c : E) (ρ : Rho) : (ev2 Φ (.chn o1 o2 a b c)).1 ρ = ofB (chnB o1 o2 (ev2 Φ a).1 (ev2 Φ b).1 (ev2 Φ c).1 ρ) := rfl
theorem t_chn (o1 o2 : CmpOp) (a b c : E) (ρ : Rho) : (ev2 Φ (.chn o1 o2 a b c)).2 ρ = chnB o1 o2 (ev2 Φ a).1 (ev2 Φ b).1 (ev2 Φ c).1 ρ := rfl
theorem e_and (a b : E) (ρ : Rho) : (ev2 Φ (.and_ a b)).1 ρ = (asT a (ev2 Φ a).1 ρ).bind fun t ρ1 => (R.of (t.view.bind truthD) ρ1).bind fun k ρ1 => if k = true then (asT b (ev2 Φ b).1 ρ1).map .tmp else .ok (.tmp t) ρ1 := by
  show (asT a (ev2 Φ a).1 ρ).bind _ = _
  congr
  funext t ρ1
  cases (t.view.bind truthD) with
  | none => rfl
  | some b => cases b <;> rfl
theorem e_or (a b : E) (ρ : Rho) : (ev2 Φ (.or_ a b)).1 ρ = (asT a (ev2 Φ a).1 ρ).bind fun t ρ1 => (R.of (t.view.bind truthD) ρ1).bind fun k ρ1 => if k = true then .ok (.tmp t) ρ1 else (asT b (ev2 Φ b).1 ρ1).map .tmp := by
  show (asT a (ev2 Φ a).1 ρ).bind _ = _
  congr
  funext t ρ1
  cases (t.view.bind truthD) with
  | none => rfl
  | some b => cases b <;> rfl
theorem t_and (a b : E) (ρ : Rho) : (ev2 Φ (.and_ a b)).2 ρ = ((ev2 Φ a).2 ρ).bind fun k ρ1 => if k = true then (ev2 Φ b).2 ρ1 else .ok false ρ1 := rfl
theorem t_or (a b : E) (ρ : Rho) : (ev2 Φ (.or_ a b)).2 ρ = ((ev2 Φ a).2 ρ).bind fun k ρ1 => if k = true then .ok true ρ1 else (ev2 Φ b).2 ρ1 := rfl
theorem e_not (a : E) (ρ : Rho) : (ev2 Φ (.not_ a)).1 ρ = ((ev2 Φ a).1 ρ).bind fun x ρ1 => R.of (((x.see ρ1).bind truthD).map fun k => .tmp (.fz (.bool (!k)))) ρ1 := rfl
theorem t_not (a : E) (ρ : Rho) : (ev2 Φ (.not_ a)).2 ρ = ((ev2 Φ a).2 ρ).map (!·) := rfl
theorem e_ite (c a b : E) (ρ : Rho) : (ev2 Φ (.ite c a b)).1 ρ = ((ev2 Φ c).2 ρ).bind fun k ρ1 => if k = true then (asT a (ev2 Φ a).1 ρ1).map .tmp else (asT b (ev2 Φ b).1 ρ1).map .tmp := rfl
theorem e_lst (es : Es) (ρ : Rho) : (ev2 Φ (.lst es)).1 ρ = (evDs Φ es ρ).bind fun ds ρ1 => if ds.length ≤ sizeLine then .ok (.tmp (.ol ds)) ρ1 else .no := rfl
theorem e_tup (es : Es) (ρ : Rho) : (ev2 Φ (.tup es)).1 ρ = (evDs Φ es ρ).bind fun ds ρ1 => if ds.length ≤ sizeLine then .ok (.tmp (.fz (.tuple ds))) ρ1 else .no := rfl
theorem e_idx (a i : E) (ρ : Rho) : (ev2 Φ (.idx a i)).1 ρ = ((ev2 Φ a).1 ρ).bind fun x ρ1 => ((ev2 Φ i).1 ρ1).bind fun y ρ2 => R.of ((x.see ρ2).bind fun d => (y.see ρ2).bind fun e => (idxD d e).map fun f => .tmp (.fz f)) ρ2 := rfl
theorem e_slc (a : E) (lo hi : OE) (ρ : Rho) : (ev2 Φ (.slc a lo hi)).1 ρ = ((ev2 Φ a).1 ρ).bind fun x ρ1 => (evOI Φ lo ρ1).bind fun l ρ2 => (evOI Φ hi ρ2).bind fun h ρ3 => R.of ((x.see ρ3).bind fun d => (slcD d l h).map Opd.tmp) ρ3 := rfl
theorem e_call (f : Str) (es : Es) (ds : List D) (ρ : Rho) : (ev2 Φ (.call f es ds)).1 ρ = (evOs Φ es ρ).bind fun os ρ1 => (callF Φ f os ds ρ1).map .tmp := rfl
theorem e_bi (f : Bi) (es : Es) (ρ : Rho) : (ev2 Φ (.bi f es)).1 ρ = (evOs Φ es ρ).bind fun os ρ1 => R.of ((sees ρ1 os).bind fun ds => (biD f ds).map Opd.tmp) ρ1 := rfl
theorem e_rl1 (a : E) (ρ : Rho) : (ev2 Φ (.rl1 a)).1 ρ = ((ev2 Φ a).1 ρ).bind fun x ρ1 => R.of ((x.see ρ1).bind fun d => (rl1D d).map Opd.tmp) ρ1 := rfl
theorem e_rl2 (a b : E) (ρ : Rho) : (ev2 Φ (.rl2 a b)).1 ρ = ((ev2 Φ a).1 ρ).bind fun x ρ1 => ((ev2 Φ b).1 ρ1).bind fun y ρ2 => R.of ((x.see ρ2).bind fun d => (y.see ρ2).bind fun e => (rl2D d e).map Opd.tmp) ρ2 := rfl
theorem e_isi (a : E) (ks : List Kd) (ρ : Rho) : (ev2 Φ (.isi a ks)).1 ρ = ((ev2 Φ a).1 ρ).bind fun x ρ1 => R.of ((x.see ρ1).map fun d => .tmp (.fz (.bool (ks.any fun k => isKd k d)))) ρ1 := rfl
theorem e_me (m : Me) (o : E) (es : Es) (ρ : Rho) : (ev2 Φ (.me m o es)).1 ρ = ((ev2 Φ o).1 ρ).bind fun x ρ1 => if ((x.see ρ1).map (meTy m)).getD false then (evOs Φ es ρ1).bind fun os ρ2 => R.of ((x.see ρ2).bind fun d => (sees ρ2 os).bind fun ds => (meD m d ds).map Opd.tmp) ρ2 else .no := rfl
theorem e_mu (m : Mu) (i : Nat) (es : Es) (ρ : Rho) : (ev2 Φ (.mu m i es)).1 ρ = if isOl (slotT ρ i) then (evDs Φ es ρ).bind (muFin m i) else .no := rfl
theorem e_lc (tg : Tg) (own : List Nat) (it : It) (c : OE) (elt : E) (ρ : Rho) : (ev2 Φ (.lc tg own it c elt)).1 ρ = (evI Φ it ρ).bind fun src ρ1 => (lcRun own tg src (evC Φ c) (asD elt (ev2 Φ elt).1) src.len 0 [] (wipeR ρ1 own)).bind fun ds ρ2 => .ok (.tmp (.ol ds)) (backR ρ1 ρ2 own) := rfl
/-! ### truth of a value -/
theorem t_nm (i : Nat) (ρ : Rho) : (ev2 Φ (.nm i)).2 ρ = dflT (ev2 Φ (.nm i)).1 ρ := rfl
theorem t_bl (b : Bool) (ρ : Rho) : (ev2 Φ (.bl b)).2 ρ = .ok b ρ := rfl
theorem t_idx (a i : E) (ρ : Rho) : (ev2 Φ (.idx a i)).2 ρ = dflT (ev2 Φ (.idx a i)).1 ρ := rfl
theorem t_call (f : Str) (es : Es) (ds : List D) (ρ : Rho) : (ev2 Φ (.call f es ds)).2 ρ = dflT (ev2 Φ (.call f es ds)).1 ρ := rfl
theorem t_bi (f : Bi) (es : Es) (ρ : Rho) : (ev2 Φ (.bi f es)).2 ρ = dflT (ev2 Φ (.bi f es)).1 ρ := rfl
theorem t_isi (a : E) (ks : List Kd) (ρ : Rho) : (ev2 Φ (.isi a ks)).2 ρ = dflT (ev2 Φ (.isi a ks)).1 ρ := rfl
theorem t_lc (tg : Tg) (own : List Nat) (it : It) (c : OE) (elt : E) (ρ : Rho) : (ev2 Φ (.lc tg own it c elt)).2 ρ = dflT (ev2 Φ (.lc tg own it c elt)).1 ρ := rfl
theorem t_bin (op : Operator) (a b : E) (ρ : Rho) : (ev2 Φ (.bin op a b)).2 ρ = dflT (ev2 Φ (.bin op a b)).1 ρ := rfl
/-! ### lists of expressions, walks -/
theorem ds_nil (ρ : Rho) : evDs Φ .nil ρ = .ok [] ρ := rfl
theorem ds_cons (e : E) (es : Es) (ρ : Rho) : evDs Φ (.cons e es) ρ = (asD e (ev2 Φ e).1 ρ).bind fun d ρ1 => (evDs Φ es ρ1).map (d :: ·) := rfl
theorem os_nil (ρ : Rho) : evOs Φ .nil ρ = .ok [] ρ := rfl
theorem os_cons (e : E) (es : Es) (ρ : Rho) : evOs Φ (.cons e es) ρ = ((ev2 Φ e).1 ρ).bind fun o ρ1 => (evOs Φ es ρ1).map (o :: ·) := rfl
theorem oi_none (ρ : Rho) : evOI Φ .none ρ = .ok none ρ := rfl
theorem oi_some (e : E) (ρ : Rho) : evOI Φ (.some e) ρ = ((ev2 Φ e).1 ρ).bind fun x ρ1 => R.of ((x.see ρ1).bind fun d => match d with | .int i => some (some i) | _ => none) ρ1 := rfl
theorem c_none (ρ : Rho) : evC Φ .none ρ = .ok true ρ := rfl
theorem c_some (e : E) (ρ : Rho) : evC Φ (.some e) ρ = (ev2 Φ e).2 ρ := rfl
theorem i_op (e : E) (ρ : Rho) : evI Φ (.opd e) ρ = ((ev2 Φ e).1 ρ).bind fun x ρ1 => R.of ((x.see ρ1).bind fun d => (seqD d).map (opdSrc x)) ρ1 := rfl
theorem i_r1 (a : E) (ρ : Rho) : evI Φ (.rng1 a) ρ = ((ev2 Φ a).1 ρ).bind fun x ρ1 => R.of ((x.see ρ1).bind fun d => match d with | .int j => if rngOk 0 j then some (.rng 0 1 j.toNat) else none | _ => none) ρ1 := rfl
theorem i_r2 (a b : E) (ρ : Rho) : evI Φ (.rng2 a b) ρ = ((ev2 Φ a).1 ρ).bind fun x ρ1 => ((ev2 Φ b).1 ρ1).bind fun y ρ2 => R.of ((x.see ρ2).bind fun d => (y.see ρ2).bind fun e => match d, e with | .int i, .int j => if rngOk i j then some (.rng i 1 (j - i).toNat) else none | _, _ => none) ρ2 := rfl
theorem r1_ok {a : E} {ρ ρ1 : Rho} {j : Int} (h : (ev2 Φ a).1 ρ = .ok (.tmp (.fz (.int j))) ρ1) (hr : rngOk 0 j = true) : evI Φ (.rng1 a) ρ = .ok (.rng 0 1 j.toNat) ρ1 := by
  rw [i_r1, h, bind_ok]
  show R.of (if rngOk 0 j then some (Src.rng 0 1 j.toNat) else none) ρ1 = _
  rw [hr]
  rfl
theorem r2_ok {a b : E} {ρ ρ1 ρ2 : Rho} {i j : Int} (h : (ev2 Φ a).1 ρ = .ok (.tmp (.fz (.int i))) ρ1) (h2 : (ev2 Φ b).1 ρ1 = .ok (.tmp (.fz (.int j))) ρ2) (hr : rngOk i j = true) : evI Φ (.rng2 a b) ρ = .ok (.rng i 1 (j - i).toNat) ρ2 := by
  rw [i_r2, h, bind_ok, h2, bind_ok]
  show R.of (if rngOk i j then some (Src.rng i 1 (j - i).toNat) else none) ρ2 = _
  rw [hr]
  rfl
theorem as_nm (i : Nat) (o : Rho → R Opd) (ρ : Rho) : asT (.nm i) o ρ = takeSlot i ρ := rfl
theorem as_mv (i : Nat) (o : Rho → R Opd) (ρ : Rho) : asT (.mv i) o ρ = moveSlot i ρ := rfl
/-! ### statements -/
theorem x_nil (ρ : Rho) : exSs Φ .nil ρ = .ok .nx ρ := rfl
theorem x_cons (s : S) (ss : Ss) (ρ : Rho) : exSs Φ (.cons s ss) ρ = (exS Φ s ρ).bind fun f ρ1 => match f with
    | .nx => exSs Φ ss ρ1
    | g => .ok g ρ1 := rfl
theorem x_set (i : Nat) (e : E) (ρ : Rho) : exS Φ (.set i e) ρ = (asT e (ev2 Φ e).1 ρ).bind fun t ρ1 => .ok .nx (ρ1.set i (some t)) := rfl
theorem x_setF (i : Nat) (e : E) (ρ : Rho) : exS Φ (.setF i e) ρ = (asD e (ev2 Φ e).1 ρ).bind fun d ρ1 => .ok .nx (ρ1.set i (some (.fz d))) := rfl
theorem x_setT (is : List Nat) (e : E) (ρ : Rho) : exS Φ (.setT is e) ρ = ((ev2 Φ e).1 ρ).bind fun x ρ1 => setFin is (x.see ρ1) ρ1 := rfl
theorem x_par (i j : Nat) (a b : E) (ρ : Rho) : exS Φ (.par i j a b) ρ = (evDs Φ (.cons a (.cons b .nil)) ρ).bind (parFin i j) := rfl
theorem x_sub (i : Nat) (k e : E) (ρ : Rho) : exS Φ (.sub i k e) ρ = (asD e (ev2 Φ e).1 ρ).bind fun d ρ1 => if isOl (slotT ρ1 i) then ((ev2 Φ k).1 ρ1).bind fun y ρ2 => subFin i d (y.see ρ2) ρ2 else .no := rfl
theorem x_expr (e : E) (ρ : Rho) : exS Φ (.expr e) ρ = ((ev2 Φ e).1 ρ).bind fun _ ρ1 => .ok .nx ρ1 := rfl
theorem x_ret (e : E) (ρ : Rho) : exS Φ (.ret e) ρ = (asT e (ev2 Φ e).1 ρ).map .rt := rfl
theorem x_if (c : E) (a b : Ss) (ρ : Rho) : exS Φ (.ifS c a b) ρ = ((ev2 Φ c).2 ρ).bind fun k ρ1 => if k = true then exSs Φ a ρ1 else exSs Φ b ρ1 := rfl
theorem x_whl (c : E) (b : Ss) (ρ : Rho) : exS Φ (.whl c b) ρ = whileRun (evB Φ c) (exSs Φ b) Φ.fuel ρ := rfl
theorem x_for (tg : Tg) (it : It) (b : Ss) (ρ : Rho) : exS Φ (.for_ tg it b) ρ = (evI Φ it ρ).bind fun src ρ1 => if src.free (tg.is ++ b.sets) then forRun tg src (exSs Φ b) src.len 0 ρ1 else .no := rfl
theorem x_raise (c : Str) (e : E) (ρ : Rho) : exS Φ (.raise c e) ρ = ((ev2 Φ e).1 ρ).bind fun _ ρ1 => .exc ⟨c, []⟩ ρ1 := rfl
theorem x_pass (ρ : Rho) : exS Φ .pass ρ = .ok .nx ρ := rfl
theorem x_brk (ρ : Rho) : exS Φ .brk ρ = .ok .bk ρ := rfl
theorem x_cont (ρ : Rho) : exS Φ .cont ρ = .ok .ct ρ := rfl
theorem x_tryC (b : Ss) (h : Str) (i : Nat) (f : Str) (ρ : Rho) : exS Φ (.tryC b h i f) ρ = catchC Φ h i f (exSs Φ b ρ) := rfl
end
/-! ### loops -/
section
variable {tg : Tg} {src : Src} {body : Rho → R Fl}
theorem for_wp (I : Nat → Rho → Prop) (P : R Fl → Prop) : ∀ (n j : Nat) (ρ : Rho), I j ρ →
    (∀ i ρ, j ≤ i → i < j + n → I i ρ → ∃ d ρ1, src.item i ρ = some d ∧ tg.put d ρ = some ρ1 ∧ match body ρ1 with
      | .ok .nx ρ2 => I (i + 1) ρ2
      | .ok .ct ρ2 => I (i + 1) ρ2
      | .ok .bk ρ2 => P (.ok .nx ρ2)
      | .ok (.rt t) ρ2 => P (.ok (.rt t) ρ2)
      | .exc x ρ2 => P (.exc x ρ2)
      | .no => False) →
    (∀ ρ, I (j + n) ρ → src.fin ρ = true ∧ P (.ok .nx ρ)) → P (forRun tg src body n j ρ)
  | 0, j, ρ, h0, _, hf => by
    obtain ⟨a, b⟩ := hf ρ h0
    unfold forRun
    rw [if_pos a]
    exact b
  | n + 1, j, ρ, h0, hs, hf => by
    obtain ⟨d, ρ1, e1, e2, h⟩ := hs j ρ (Nat.le_refl _) (by omega) h0
    unfold forRun
    simp only [e1, e2]
    have go : ∀ ρ2, I (j + 1) ρ2 → P (forRun tg src body n (j + 1) ρ2) := fun ρ2 h2 =>
      for_wp I P n (j + 1) ρ2 h2 (fun i ρ a b c => hs i ρ (by omega) (by omega) c) (fun ρ h => hf ρ (by rw [show j + (n + 1) = j + 1 + n by omega]; exact h))
    split at h <;> rename_i e <;> (try simp only [e] at h ⊢)
    · exact go _ h
    · exact go _ h
    · exact h
    · exact h
    · exact h
variable {own : List Nat} {c : Rho → R Bool} {elt : Rho → R D}
theorem lc_wp (I : Nat → List D → Rho → Prop) (P : R (List D) → Prop) : ∀ (n j : Nat) (acc : List D) (ρ : Rho), I j acc ρ →
    (∀ i acc ρ, j ≤ i → i < j + n → I i acc ρ → ∃ d ρ1, src.item i ρ = some d ∧ tg.put d ρ = some ρ1 ∧ ∃ b ρ2, c ρ1 = .ok b ρ2 ∧
      (b = true → ∃ y ρ3, elt ρ2 = .ok y ρ3 ∧ acc.length < sizeLine ∧ I (i + 1) (acc ++ [y]) (wipeR ρ3 own)) ∧ (b = false → I (i + 1) acc (wipeR ρ2 own))) →
    (∀ acc ρ, I (j + n) acc ρ → src.fin ρ = true ∧ P (.ok acc ρ)) → P (lcRun own tg src c elt n j acc ρ)
  | 0, j, acc, ρ, h0, _, hf => by
    obtain ⟨a, b⟩ := hf acc ρ h0
    unfold lcRun
    rw [if_pos a]
    exact b
  | n + 1, j, acc, ρ, h0, hs, hf => by
    obtain ⟨d, ρ1, e1, e2, b, ρ2, e3, ht, hff⟩ := hs j acc ρ (Nat.le_refl _) (by omega) h0
    unfold lcRun
    simp only [e1, e2, e3]
    have go : ∀ acc2 ρ2, I (j + 1) acc2 ρ2 → P (lcRun own tg src c elt n (j + 1) acc2 ρ2) := fun acc2 ρ2 h2 =>
      lc_wp I P n (j + 1) acc2 ρ2 h2 (fun i acc ρ a b c => hs i acc ρ (by omega) (by omega) c) (fun acc ρ h => hf acc ρ (by rw [show j + (n + 1) = j + 1 + n by omega]; exact h))
    cases b with
    | true =>
      obtain ⟨y, ρ3, e4, hl, h⟩ := ht rfl
      simp only [e4]
      rw [if_pos hl]
      exact go _ _ h
    | false => exact go _ _ (hff rfl)
/-- a walk that leaves the slots as they are -/
theorem lc_pure {ρ : Rho} {xs : List D} {n : Nat} (ok : D → Bool) (f : D → D) (hn : xs.length = n) (hsz : n ≤ sizeLine) (hi : ∀ i d, xs[i]? = some d → src.item i ρ = some d) (hfin : src.fin ρ = true)
    (h : ∀ d ∈ xs, ∃ ρ1, tg.put d ρ = some ρ1 ∧ ∃ ρ2, c ρ1 = .ok (ok d) ρ2 ∧ (ok d = true → ∃ ρ3, elt ρ2 = .ok (f d) ρ3 ∧ wipeR ρ3 own = ρ) ∧ (ok d = false → wipeR ρ2 own = ρ)) :
    lcRun own tg src c elt n 0 [] ρ = .ok ((xs.filter ok).map f) ρ := by
  refine lc_wp (fun i acc ρ' => ρ' = ρ ∧ acc = ((xs.take i).filter ok).map f) (fun r => r = .ok ((xs.filter ok).map f) ρ) n 0 [] ρ ⟨rfl, by simp⟩ ?_ ?_
  · rintro i acc _ _ hlt ⟨rfl, rfl⟩
    have hi' : i < xs.length := by omega
    have ex : xs[i]? = some xs[i] := List.getElem?_eq_getElem hi'
    obtain ⟨ρ1, e1, ρ2, e2, ht, hf⟩ := h xs[i] (List.getElem_mem hi')
    have tk : xs.take (i + 1) = xs.take i ++ [xs[i]] := by rw [List.take_add_one, ex]; rfl
    refine ⟨_, ρ1, hi i _ ex, e1, _, ρ2, e2, fun hb => ?_, fun hb => ?_⟩
    · obtain ⟨ρ3, e3, e4⟩ := ht hb
      refine ⟨_, ρ3, e3, ?_, e4, ?_⟩
      · have l1 := List.length_filter_le ok (xs.take i)
        rw [List.length_take] at l1
        rw [List.length_map]
        omega
      · rw [tk, List.filter_append, List.map_append]
        simp [hb]
    · refine ⟨hf hb, ?_⟩
      rw [tk, List.filter_append, List.map_append]
      simp [hb]
  · rintro acc _ ⟨rfl, rfl⟩
    refine ⟨hfin, ?_⟩
    rw [Nat.zero_add, List.take_of_length_le (by omega)]
/-- a walk over a range that leaves the slots as they are -/
theorem lc_rng {ρ : Rho} {lo : Int} {n s : Nat} (ok : Nat → Bool) (g : Nat → D) (hsz : n ≤ sizeLine)
    (h : ∀ i, i < n → ∃ ρ2, c (ρ.set s (some (.fz (.int (lo + (i : Int)))))) = .ok (ok i) ρ2 ∧ (ok i = true → ∃ ρ3, elt ρ2 = .ok (g i) ρ3 ∧ wipeR ρ3 own = ρ) ∧ (ok i = false → wipeR ρ2 own = ρ)) :
    lcRun own (.one s) (.rng lo 1 n) c elt n 0 [] ρ = .ok (((List.range n).filter ok).map g) ρ := by
  refine lc_wp (fun i acc ρ' => ρ' = ρ ∧ acc = ((List.range i).filter ok).map g) (fun r => r = .ok (((List.range n).filter ok).map g) ρ) n 0 [] ρ ⟨rfl, by simp⟩ ?_ ?_
  · rintro i acc _ _ hlt ⟨rfl, rfl⟩
    obtain ⟨ρ2, e2, ht, hf⟩ := h i (by omega)
    have e0 : lo + (i : Int) * 1 = lo + (i : Int) := by omega
    refine ⟨.int (lo + (i : Int) * 1), _, rfl, rfl, ok i, ρ2, by rw [e0]; exact e2, fun hb => ?_, fun hb => ?_⟩
    · obtain ⟨ρ3, e3, e4⟩ := ht hb
      refine ⟨_, ρ3, e3, ?_, e4, ?_⟩
      · have l1 := List.length_filter_le ok (List.range i)
        rw [List.length_range] at l1
        rw [List.length_map]
        omega
      · rw [List.range_succ, List.filter_append, List.map_append]
        simp [hb]
    · refine ⟨hf hb, ?_⟩
      rw [List.range_succ, List.filter_append, List.map_append]
      simp [hb]
  · rintro acc _ ⟨rfl, rfl⟩
    exact ⟨rfl, by rw [Nat.zero_add]⟩
variable {cnd : Rho → R Bool}
theorem while_wp (I : Nat → Rho → Prop) (P : R Fl → Prop) : ∀ (n m : Nat) (ρ : Rho), m < n → I m ρ →
    (∀ m ρ, I m ρ → ∃ b ρ1, cnd ρ = .ok b ρ1 ∧ (b = false → P (.ok .nx ρ1)) ∧ (b = true → match body ρ1 with
      | .ok .nx ρ2 => ∃ m', m' < m ∧ I m' ρ2
      | .ok .ct ρ2 => ∃ m', m' < m ∧ I m' ρ2
      | .ok .bk ρ2 => P (.ok .nx ρ2)
      | .ok (.rt t) ρ2 => P (.ok (.rt t) ρ2)
      | .exc x ρ2 => P (.exc x ρ2)
      | .no => False)) → P (whileRun cnd body n ρ)
  | 0, m, ρ, hm, _, _ => by omega
  | n + 1, m, ρ, hm, h0, hs => by
    obtain ⟨b, ρ1, e1, hf, ht⟩ := hs m ρ h0
    unfold whileRun
    simp only [e1]
    cases b with
    | false => exact hf rfl
    | true =>
      have h := ht rfl
      have go : ∀ ρ2, (∃ m', m' < m ∧ I m' ρ2) → P (whileRun cnd body n ρ2) := fun ρ2 ⟨m', l, h2⟩ => while_wp I P n m' ρ2 (by omega) h2 hs
      split at h <;> rename_i e <;> (try simp only [e] at h ⊢)
      · exact go _ h
      · exact go _ h
      · exact h
      · exact h
      · exact h
end
end L2.Eng

/-! EngQ: the helpers that the laws share. -/
namespace L2.Eng
open PySem
/-! ### the pool -/
def poolL (ns : List Int) (i a b c : Int) : List D := [.list (ns.map PyData.int), .int i, .int a, .int b, .int c]
def Pool (p : List D) : Prop := ∃ ns i a b c, p = poolL ns i a b c ∧ 0 ≤ i ∧ ns.length ≤ 63
def drawS1 : S := .ifS (.cmp .Gt (.idx (.nm 0) (.int 2)) (.int 0)) (.cons (.setF 3 (.bin .Mod (.bi .int (.cons (.idx (.nm 0) (.int 2)) .nil)) (.nm 1)))
    (.cons (.sub 0 (.int 2) (.bin .FloorDiv (.idx (.nm 0) (.int 2)) (.nm 1)))
    (.cons (.ret (.mv 3))
    .nil))) .nil
def drawS2 : S := .ifS (.and_ (.cmp .Eq (.bin .Mod (.bi .int (.cons (.idx (.nm 0) (.int 4)) .nil)) (.int 8)) (.int 0)) (.cmp .Lt (.idx (.nm 0) (.int 1)) (.bi .len (.cons (.idx (.nm 0) (.int 0)) .nil)))) (.cons (.setF 4 (.bi .abs (.cons (.idx (.idx (.nm 0) (.int 0)) (.idx (.nm 0) (.int 1))) .nil)))
    (.cons (.sub 0 (.int 1) (.bin .Add (.idx (.nm 0) (.int 1)) (.int 1)))
    (.cons (.ifS (.cmp .GtE (.nm 4) (.bin .Pow (.int 10) (.int 18))) (.cons (.sub 0 (.int 2) (.bin .FloorDiv (.nm 4) (.nm 1)))
    (.cons (.ret (.bin .Mod (.bi .int (.cons (.nm 4) .nil)) (.nm 1)))
    .nil)) .nil)
    (.cons (.sub 0 (.int 3) (.nm 4))
    .nil)))) .nil
def drawT : Ss := (.cons (.sub 0 (.int 4) (.bin .Add (.idx (.nm 0) (.int 4)) (.int 1)))
    (.cons (.setF 2 (.bin .Mod (.bi .int (.cons (.bin .Add (.bin .Add (.bin .Mult (.idx (.nm 0) (.int 3)) (.int 48271)) (.bin .Mult (.idx (.nm 0) (.int 4)) (.int 69621))) (.int 7919)) .nil)) (.int 2147483647)))
    (.cons (.setF 2 (.bin .Mod (.bi .int (.cons (.bin .Add (.bin .Mult (.nm 2) (.nm 2)) (.bin .Mult (.idx (.nm 0) (.int 4)) (.int 40692))) .nil)) (.int 2147483399)))
    (.cons (.ret (.bin .Mod (.bi .int (.cons (.nm 2) .nil)) (.nm 1)))
    .nil))))
def drawBody : Ss := .cons drawS1 (.cons drawS2 drawT)
section
variable (x0 x1 x2 x3 x4 y : D)
theorem at0 : atI [x0, x1, x2, x3, x4] 0 = some x0 := rfl
theorem at1 : atI [x0, x1, x2, x3, x4] 1 = some x1 := rfl
theorem at2 : atI [x0, x1, x2, x3, x4] 2 = some x2 := rfl
theorem at3 : atI [x0, x1, x2, x3, x4] 3 = some x3 := rfl
theorem at4 : atI [x0, x1, x2, x3, x4] 4 = some x4 := rfl
theorem ix1 : ixN 5 1 = some 1 := rfl
theorem ix2 : ixN 5 2 = some 2 := rfl
theorem ix3 : ixN 5 3 = some 3 := rfl
theorem ix4 : ixN 5 4 = some 4 := rfl
end
theorem mul_l {i j : Int} (h : -(2 ^ 64) < i ∧ i < 2 ^ 64) : mulOk i j = true := by
  unfold mulOk
  rw [decide_eq_true h]
  rfl
theorem mul_r {i j : Int} (h : -(2 ^ 64) < j ∧ j < 2 ^ 64) : mulOk i j = true := by
  unfold mulOk
  rw [decide_eq_true h, Bool.or_true]
theorem eqv_int (i j : Int) : PyData.eqv (.int i) (.int j) = decide (i = j) := by
  unfold PyData.eqv
  first | rfl | simp
theorem na10 : Int.natAbs 10 = 10 := rfl
theorem tn18 : Int.toNat 18 = 18 := rfl
theorem atI_ints {ns : List Int} {i : Int} (h0 : 0 ≤ i) (h1 : i < ns.length) : ∃ x, atI (ns.map PyData.int) i = some (.int x) := by
  have hi : i.toNat < ns.length := by omega
  refine ⟨ns[i.toNat], ?_⟩
  unfold atI ixN
  rw [List.length_map, if_pos h0, if_pos h1]
  simp [hi]
theorem draw_ok {p : List D} {m : Int} (hp : Pool p) (h0 : 0 < m) (h1 : m < 1073741824) : ∃ r p', Pool p' ∧ 0 ≤ r ∧ r < m ∧ ∀ Φ, endR drawBody.sets [.ol p, .fz (.int m)] (exSs Φ drawBody (startR 5 [.ol p, .fz (.int m)])) = .ok (.fz (.int r)) [.ol p', .fz (.int m)] := by
  obtain ⟨ns, i, a, b, c, rfl, hi, hl⟩ := hp
  have fd : m ≠ 0 ∧ m.natAbs < 1073741824 := by omega
  have fm : m ≠ 0 := by omega
  have st : startR 5 [.ol (poolL ns i a b c), .fz (.int m)] = [some (.ol (poolL ns i a b c)), some (.fz (.int m)), none, none, none] := rfl
  by_cases ha : 0 < a
  · refine ⟨a.fmod m, poolL ns i (a.fdiv m) b c, ⟨ns, i, _, b, c, rfl, hi, hl⟩, Int.fmod_nonneg_of_pos _ h0, Int.fmod_lt_of_pos _ h0, fun Φ => ?_⟩
    simp -implicitDefEqProofs only [drawBody, drawS1, drawS2, drawT, poolL, e_nm, e_int, e_str, e_bl, e_non, e_glb, e_bin, e_neg, e_cmp, t_cmp, chn_if, e_chn, t_chn, e_and, e_or, t_and, t_or, e_not, t_not, e_ite, e_lst, e_tup, e_idx, e_slc, e_call, e_bi, e_rl1, e_rl2, e_isi, e_me, e_mu, t_nm, t_bl, t_idx, t_call, t_bi, t_isi, t_lc, t_bin, ds_nil, ds_cons, os_nil, os_cons, oi_none, oi_some, c_none, c_some, i_op, as_nm, as_mv, x_nil, x_cons, x_set, x_setF, x_setT, x_par, x_sub, x_expr, x_ret, x_if, x_whl, x_for, x_raise, x_pass, x_brk, x_cont, x_tryC, bind_ok, bind_exc, map_ok, map_exc, of_some, bind_ite, map_ite, endR_ite, dflT, asT, asD, frz, ofB, cmpB, takeSlot, moveSlot, slotT, Opd.see, sees, T.view, truthD, cmpD, eqD, scalD, binD, negD, isKd, callF, takeA, putA, startR, endR_rt, endR_nx, endR_exc, backs, evB, evT, evD, evO, List.map_cons, List.map_nil, List.length_cons, List.length_nil, List.cons_append, List.nil_append, List.append_nil, List.set_cons_zero, List.set_cons_succ, List.getElem?_cons_zero, List.getElem?_cons_succ, List.replicate_zero, List.replicate_succ, Option.join_some, Option.join_none, Option.bind_some, Option.bind_none, Option.map_some, Option.map_none, Nat.reduceAdd, Nat.reduceSub, Nat.sub_self, List.any_cons, List.any_nil, Bool.or_false, Bool.false_or, Bool.or_true, Bool.true_or, Bool.and_true, Bool.true_and, Bool.and_false, Bool.false_and, Bool.not_true, Bool.not_false, Bool.false_eq_true, reduceIte, reduceCtorEq, decide_eq_true_eq, Bool.not_eq_true', decide_eq_false_iff_not, sz_eq, Nat.reduceLeDiff, isOl, subFin, muFin, muD, setFin, setMany, parFin, idxD, slcD, bi_len, bi_lenT, bi_abs, bi_int, bi_list, bi_listT, bi_max2, bi_min2, Ss.sets, S.sets, Tg.is, List.mem_cons, List.not_mem_nil, or_false, or_true, false_or, true_or, List.mem_append, List.append_assoc, List.append_eq, at0, at1, at2, at3, at4, ix2, ha, fd, fm, decide_true, ne_eq, not_false_eq_true, and_self]
  · -- behind the first question
    have one : ∀ Φ, exS Φ drawS1 [some (.ol (poolL ns i a b c)), some (.fz (.int m)), none, none, none] = .ok .nx [some (.ol (poolL ns i a b c)), some (.fz (.int m)), none, none, none] := fun Φ => by
      simp -implicitDefEqProofs only [drawS1, poolL, e_nm, e_int, e_str, e_bl, e_non, e_glb, e_bin, e_neg, e_cmp, t_cmp, chn_if, e_chn, t_chn, e_and, e_or, t_and, t_or, e_not, t_not, e_ite, e_lst, e_tup, e_idx, e_slc, e_call, e_bi, e_rl1, e_rl2, e_isi, e_me, e_mu, t_nm, t_bl, t_idx, t_call, t_bi, t_isi, t_lc, t_bin, ds_nil, ds_cons, os_nil, os_cons, oi_none, oi_some, c_none, c_some, i_op, as_nm, as_mv, x_nil, x_cons, x_set, x_setF, x_setT, x_par, x_sub, x_expr, x_ret, x_if, x_whl, x_for, x_raise, x_pass, x_brk, x_cont, x_tryC, bind_ok, bind_exc, map_ok, map_exc, of_some, bind_ite, map_ite, endR_ite, dflT, asT, asD, frz, ofB, cmpB, takeSlot, moveSlot, slotT, Opd.see, sees, T.view, truthD, cmpD, eqD, scalD, binD, negD, isKd, callF, takeA, putA, startR, endR_rt, endR_nx, endR_exc, backs, evB, evT, evD, evO, List.map_cons, List.map_nil, List.length_cons, List.length_nil, List.cons_append, List.nil_append, List.append_nil, List.set_cons_zero, List.set_cons_succ, List.getElem?_cons_zero, List.getElem?_cons_succ, List.replicate_zero, List.replicate_succ, Option.join_some, Option.join_none, Option.bind_some, Option.bind_none, Option.map_some, Option.map_none, Nat.reduceAdd, Nat.reduceSub, Nat.sub_self, List.any_cons, List.any_nil, Bool.or_false, Bool.false_or, Bool.or_true, Bool.true_or, Bool.and_true, Bool.true_and, Bool.and_false, Bool.false_and, Bool.not_true, Bool.not_false, Bool.false_eq_true, reduceIte, reduceCtorEq, decide_eq_true_eq, Bool.not_eq_true', decide_eq_false_iff_not, sz_eq, Nat.reduceLeDiff, isOl, subFin, muFin, muD, setFin, setMany, parFin, idxD, slcD, bi_len, bi_lenT, bi_abs, bi_int, bi_list, bi_listT, bi_max2, bi_min2, Ss.sets, S.sets, Tg.is, List.mem_cons, List.not_mem_nil, or_false, or_true, false_or, true_or, List.mem_append, List.append_assoc, List.append_eq, ha, at0, at1, at2, at3, at4, ix1, ix2, ix3, ix4, fd, fm, eqv_int, na10, tn18, decide_true, decide_false, ne_eq, not_false_eq_true, not_true_eq_false, and_self, and_true, true_and, Int.reduceEq, Int.reduceLE, Int.reducePow, Int.reduceLT, Nat.reduceLT, Nat.reducePow]
    have rest : ∀ (i b : Int), ∃ r c', 0 ≤ r ∧ r < m ∧ ∀ (Φ : Fx) (σ4 : Option T) (q : List D), endR drawBody.sets [.ol q, .fz (.int m)] (exSs Φ drawT [some (.ol (poolL ns i a b c)), some (.fz (.int m)), none, none, σ4]) = .ok (.fz (.int r)) [.ol (poolL ns i a b c'), .fz (.int m)] := by
      intro i b
      have b1 := Int.fmod_nonneg_of_pos (b * 48271 + (c + 1) * 69621 + 7919) (show (0 : Int) < 2147483647 by decide)
      have b2 := Int.fmod_lt_of_pos (b * 48271 + (c + 1) * 69621 + 7919) (show (0 : Int) < 2147483647 by decide)
      have k1 : ∀ x, mulOk x 48271 = true := fun x => mul_r (by decide)
      have k2 : ∀ x, mulOk x 69621 = true := fun x => mul_r (by decide)
      have k3 : ∀ x, mulOk x 40692 = true := fun x => mul_r (by decide)
      have k4 : mulOk ((b * 48271 + (c + 1) * 69621 + 7919).fmod 2147483647) ((b * 48271 + (c + 1) * 69621 + 7919).fmod 2147483647) = true := mul_l (by omega)
      refine ⟨(((b * 48271 + (c + 1) * 69621 + 7919).fmod 2147483647 * (b * 48271 + (c + 1) * 69621 + 7919).fmod 2147483647 + (c + 1) * 40692).fmod 2147483399).fmod m, c + 1, Int.fmod_nonneg_of_pos _ h0, Int.fmod_lt_of_pos _ h0, fun Φ σ4 q => ?_⟩
      simp -implicitDefEqProofs only [drawBody, drawS1, drawS2, drawT, poolL, e_nm, e_int, e_str, e_bl, e_non, e_glb, e_bin, e_neg, e_cmp, t_cmp, chn_if, e_chn, t_chn, e_and, e_or, t_and, t_or, e_not, t_not, e_ite, e_lst, e_tup, e_idx, e_slc, e_call, e_bi, e_rl1, e_rl2, e_isi, e_me, e_mu, t_nm, t_bl, t_idx, t_call, t_bi, t_isi, t_lc, t_bin, ds_nil, ds_cons, os_nil, os_cons, oi_none, oi_some, c_none, c_some, i_op, as_nm, as_mv, x_nil, x_cons, x_set, x_setF, x_setT, x_par, x_sub, x_expr, x_ret, x_if, x_whl, x_for, x_raise, x_pass, x_brk, x_cont, x_tryC, bind_ok, bind_exc, map_ok, map_exc, of_some, bind_ite, map_ite, endR_ite, dflT, asT, asD, frz, ofB, cmpB, takeSlot, moveSlot, slotT, Opd.see, sees, T.view, truthD, cmpD, eqD, scalD, binD, negD, isKd, callF, takeA, putA, startR, endR_rt, endR_nx, endR_exc, backs, evB, evT, evD, evO, List.map_cons, List.map_nil, List.length_cons, List.length_nil, List.cons_append, List.nil_append, List.append_nil, List.set_cons_zero, List.set_cons_succ, List.getElem?_cons_zero, List.getElem?_cons_succ, List.replicate_zero, List.replicate_succ, Option.join_some, Option.join_none, Option.bind_some, Option.bind_none, Option.map_some, Option.map_none, Nat.reduceAdd, Nat.reduceSub, Nat.sub_self, List.any_cons, List.any_nil, Bool.or_false, Bool.false_or, Bool.or_true, Bool.true_or, Bool.and_true, Bool.true_and, Bool.and_false, Bool.false_and, Bool.not_true, Bool.not_false, Bool.false_eq_true, reduceIte, reduceCtorEq, decide_eq_true_eq, Bool.not_eq_true', decide_eq_false_iff_not, sz_eq, Nat.reduceLeDiff, isOl, subFin, muFin, muD, setFin, setMany, parFin, idxD, slcD, bi_len, bi_lenT, bi_abs, bi_int, bi_list, bi_listT, bi_max2, bi_min2, Ss.sets, S.sets, Tg.is, List.mem_cons, List.not_mem_nil, or_false, or_true, false_or, true_or, List.mem_append, List.append_assoc, List.append_eq, at0, at1, at2, at3, at4, ix4, k1, k2, k3, k4, fm, ne_eq, not_false_eq_true, Int.reduceEq]
    by_cases hb : c.fmod 8 = 0 ∧ i < ns.length
    · obtain ⟨x, ex⟩ := atI_ints hi hb.2
      have lm : (ns.map PyData.int).length = ns.length := by simp
      by_cases hc : (1000000000000000000 : Int) ≤ (if x < 0 then -x else x)
      · refine ⟨(if x < 0 then -x else x).fmod m, poolL ns (i + 1) ((if x < 0 then -x else x).fdiv m) b c, ⟨ns, _, _, b, c, rfl, by omega, hl⟩, Int.fmod_nonneg_of_pos _ h0, Int.fmod_lt_of_pos _ h0, fun Φ => ?_⟩
        rw [st, drawBody, x_cons, one, bind_ok]
        simp -implicitDefEqProofs only [drawS2, drawS1, drawT, poolL, e_nm, e_int, e_str, e_bl, e_non, e_glb, e_bin, e_neg, e_cmp, t_cmp, chn_if, e_chn, t_chn, e_and, e_or, t_and, t_or, e_not, t_not, e_ite, e_lst, e_tup, e_idx, e_slc, e_call, e_bi, e_rl1, e_rl2, e_isi, e_me, e_mu, t_nm, t_bl, t_idx, t_call, t_bi, t_isi, t_lc, t_bin, ds_nil, ds_cons, os_nil, os_cons, oi_none, oi_some, c_none, c_some, i_op, as_nm, as_mv, x_nil, x_cons, x_set, x_setF, x_setT, x_par, x_sub, x_expr, x_ret, x_if, x_whl, x_for, x_raise, x_pass, x_brk, x_cont, x_tryC, bind_ok, bind_exc, map_ok, map_exc, of_some, bind_ite, map_ite, endR_ite, dflT, asT, asD, frz, ofB, cmpB, takeSlot, moveSlot, slotT, Opd.see, sees, T.view, truthD, cmpD, eqD, scalD, binD, negD, isKd, callF, takeA, putA, startR, endR_rt, endR_nx, endR_exc, backs, evB, evT, evD, evO, List.map_cons, List.map_nil, List.length_cons, List.length_nil, List.cons_append, List.nil_append, List.append_nil, List.set_cons_zero, List.set_cons_succ, List.getElem?_cons_zero, List.getElem?_cons_succ, List.replicate_zero, List.replicate_succ, Option.join_some, Option.join_none, Option.bind_some, Option.bind_none, Option.map_some, Option.map_none, Nat.reduceAdd, Nat.reduceSub, Nat.sub_self, List.any_cons, List.any_nil, Bool.or_false, Bool.false_or, Bool.or_true, Bool.true_or, Bool.and_true, Bool.true_and, Bool.and_false, Bool.false_and, Bool.not_true, Bool.not_false, Bool.false_eq_true, reduceIte, reduceCtorEq, decide_eq_true_eq, Bool.not_eq_true', decide_eq_false_iff_not, sz_eq, Nat.reduceLeDiff, isOl, subFin, muFin, muD, setFin, setMany, parFin, idxD, slcD, bi_len, bi_lenT, bi_abs, bi_int, bi_list, bi_listT, bi_max2, bi_min2, Ss.sets, S.sets, Tg.is, List.mem_cons, List.not_mem_nil, or_false, or_true, false_or, true_or, List.mem_append, List.append_assoc, List.append_eq, hb, hc, ex, lm, at0, at1, at2, at3, at4, ix1, ix2, ix3, ix4, fd, fm, eqv_int, na10, tn18, decide_true, decide_false, ne_eq, not_false_eq_true, not_true_eq_false, and_self, and_true, true_and, Int.reduceEq, Int.reduceLE, Int.reducePow, Int.reduceLT, Nat.reduceLT, Nat.reducePow]
      · obtain ⟨r, c', r0, r1, e⟩ := rest (i + 1) (if x < 0 then -x else x)
        refine ⟨r, poolL ns (i + 1) a (if x < 0 then -x else x) c', ⟨ns, _, _, _, _, rfl, by omega, hl⟩, r0, r1, fun Φ => ?_⟩
        have two : exS Φ drawS2 [some (.ol (poolL ns i a b c)), some (.fz (.int m)), none, none, none] = .ok .nx [some (.ol (poolL ns (i + 1) a (if x < 0 then -x else x) c)), some (.fz (.int m)), none, none, some (.fz (.int (if x < 0 then -x else x)))] := by
          simp -implicitDefEqProofs only [drawS2, poolL, e_nm, e_int, e_str, e_bl, e_non, e_glb, e_bin, e_neg, e_cmp, t_cmp, chn_if, e_chn, t_chn, e_and, e_or, t_and, t_or, e_not, t_not, e_ite, e_lst, e_tup, e_idx, e_slc, e_call, e_bi, e_rl1, e_rl2, e_isi, e_me, e_mu, t_nm, t_bl, t_idx, t_call, t_bi, t_isi, t_lc, t_bin, ds_nil, ds_cons, os_nil, os_cons, oi_none, oi_some, c_none, c_some, i_op, as_nm, as_mv, x_nil, x_cons, x_set, x_setF, x_setT, x_par, x_sub, x_expr, x_ret, x_if, x_whl, x_for, x_raise, x_pass, x_brk, x_cont, x_tryC, bind_ok, bind_exc, map_ok, map_exc, of_some, bind_ite, map_ite, endR_ite, dflT, asT, asD, frz, ofB, cmpB, takeSlot, moveSlot, slotT, Opd.see, sees, T.view, truthD, cmpD, eqD, scalD, binD, negD, isKd, callF, takeA, putA, startR, endR_rt, endR_nx, endR_exc, backs, evB, evT, evD, evO, List.map_cons, List.map_nil, List.length_cons, List.length_nil, List.cons_append, List.nil_append, List.append_nil, List.set_cons_zero, List.set_cons_succ, List.getElem?_cons_zero, List.getElem?_cons_succ, List.replicate_zero, List.replicate_succ, Option.join_some, Option.join_none, Option.bind_some, Option.bind_none, Option.map_some, Option.map_none, Nat.reduceAdd, Nat.reduceSub, Nat.sub_self, List.any_cons, List.any_nil, Bool.or_false, Bool.false_or, Bool.or_true, Bool.true_or, Bool.and_true, Bool.true_and, Bool.and_false, Bool.false_and, Bool.not_true, Bool.not_false, Bool.false_eq_true, reduceIte, reduceCtorEq, decide_eq_true_eq, Bool.not_eq_true', decide_eq_false_iff_not, sz_eq, Nat.reduceLeDiff, isOl, subFin, muFin, muD, setFin, setMany, parFin, idxD, slcD, bi_len, bi_lenT, bi_abs, bi_int, bi_list, bi_listT, bi_max2, bi_min2, Ss.sets, S.sets, Tg.is, List.mem_cons, List.not_mem_nil, or_false, or_true, false_or, true_or, List.mem_append, List.append_assoc, List.append_eq, hb, hc, ex, lm, at0, at1, at2, at3, at4, ix1, ix2, ix3, ix4, fd, fm, eqv_int, na10, tn18, decide_true, decide_false, ne_eq, not_false_eq_true, not_true_eq_false, and_self, and_true, true_and, Int.reduceEq, Int.reduceLE, Int.reducePow, Int.reduceLT, Nat.reduceLT, Nat.reducePow]
        rw [st, drawBody, x_cons, one, bind_ok]
        simp only [x_cons, two, bind_ok]
        exact e Φ _ _
    · obtain ⟨r, c', r0, r1, e⟩ := rest i b
      refine ⟨r, poolL ns i a b c', ⟨ns, _, _, _, _, rfl, hi, hl⟩, r0, r1, fun Φ => ?_⟩
      have lm : (ns.map PyData.int).length = ns.length := by simp
      have two : exS Φ drawS2 [some (.ol (poolL ns i a b c)), some (.fz (.int m)), none, none, none] = .ok .nx [some (.ol (poolL ns i a b c)), some (.fz (.int m)), none, none, none] := by
        by_cases hq : c.fmod 8 = 0
        · have hq2 : ¬ i < ns.length := fun z => hb ⟨hq, z⟩
          simp -implicitDefEqProofs only [drawS2, poolL, e_nm, e_int, e_str, e_bl, e_non, e_glb, e_bin, e_neg, e_cmp, t_cmp, chn_if, e_chn, t_chn, e_and, e_or, t_and, t_or, e_not, t_not, e_ite, e_lst, e_tup, e_idx, e_slc, e_call, e_bi, e_rl1, e_rl2, e_isi, e_me, e_mu, t_nm, t_bl, t_idx, t_call, t_bi, t_isi, t_lc, t_bin, ds_nil, ds_cons, os_nil, os_cons, oi_none, oi_some, c_none, c_some, i_op, as_nm, as_mv, x_nil, x_cons, x_set, x_setF, x_setT, x_par, x_sub, x_expr, x_ret, x_if, x_whl, x_for, x_raise, x_pass, x_brk, x_cont, x_tryC, bind_ok, bind_exc, map_ok, map_exc, of_some, bind_ite, map_ite, endR_ite, dflT, asT, asD, frz, ofB, cmpB, takeSlot, moveSlot, slotT, Opd.see, sees, T.view, truthD, cmpD, eqD, scalD, binD, negD, isKd, callF, takeA, putA, startR, endR_rt, endR_nx, endR_exc, backs, evB, evT, evD, evO, List.map_cons, List.map_nil, List.length_cons, List.length_nil, List.cons_append, List.nil_append, List.append_nil, List.set_cons_zero, List.set_cons_succ, List.getElem?_cons_zero, List.getElem?_cons_succ, List.replicate_zero, List.replicate_succ, Option.join_some, Option.join_none, Option.bind_some, Option.bind_none, Option.map_some, Option.map_none, Nat.reduceAdd, Nat.reduceSub, Nat.sub_self, List.any_cons, List.any_nil, Bool.or_false, Bool.false_or, Bool.or_true, Bool.true_or, Bool.and_true, Bool.true_and, Bool.and_false, Bool.false_and, Bool.not_true, Bool.not_false, Bool.false_eq_true, reduceIte, reduceCtorEq, decide_eq_true_eq, Bool.not_eq_true', decide_eq_false_iff_not, sz_eq, Nat.reduceLeDiff, isOl, subFin, muFin, muD, setFin, setMany, parFin, idxD, slcD, bi_len, bi_lenT, bi_abs, bi_int, bi_list, bi_listT, bi_max2, bi_min2, Ss.sets, S.sets, Tg.is, List.mem_cons, List.not_mem_nil, or_false, or_true, false_or, true_or, List.mem_append, List.append_assoc, List.append_eq, hq, hq2, lm, at0, at1, at2, at3, at4, ix1, ix2, ix3, ix4, fd, fm, eqv_int, na10, tn18, decide_true, decide_false, ne_eq, not_false_eq_true, not_true_eq_false, and_self, and_true, true_and, Int.reduceEq, Int.reduceLE, Int.reducePow, Int.reduceLT, Nat.reduceLT, Nat.reducePow]
        · simp -implicitDefEqProofs only [drawS2, poolL, e_nm, e_int, e_str, e_bl, e_non, e_glb, e_bin, e_neg, e_cmp, t_cmp, chn_if, e_chn, t_chn, e_and, e_or, t_and, t_or, e_not, t_not, e_ite, e_lst, e_tup, e_idx, e_slc, e_call, e_bi, e_rl1, e_rl2, e_isi, e_me, e_mu, t_nm, t_bl, t_idx, t_call, t_bi, t_isi, t_lc, t_bin, ds_nil, ds_cons, os_nil, os_cons, oi_none, oi_some, c_none, c_some, i_op, as_nm, as_mv, x_nil, x_cons, x_set, x_setF, x_setT, x_par, x_sub, x_expr, x_ret, x_if, x_whl, x_for, x_raise, x_pass, x_brk, x_cont, x_tryC, bind_ok, bind_exc, map_ok, map_exc, of_some, bind_ite, map_ite, endR_ite, dflT, asT, asD, frz, ofB, cmpB, takeSlot, moveSlot, slotT, Opd.see, sees, T.view, truthD, cmpD, eqD, scalD, binD, negD, isKd, callF, takeA, putA, startR, endR_rt, endR_nx, endR_exc, backs, evB, evT, evD, evO, List.map_cons, List.map_nil, List.length_cons, List.length_nil, List.cons_append, List.nil_append, List.append_nil, List.set_cons_zero, List.set_cons_succ, List.getElem?_cons_zero, List.getElem?_cons_succ, List.replicate_zero, List.replicate_succ, Option.join_some, Option.join_none, Option.bind_some, Option.bind_none, Option.map_some, Option.map_none, Nat.reduceAdd, Nat.reduceSub, Nat.sub_self, List.any_cons, List.any_nil, Bool.or_false, Bool.false_or, Bool.or_true, Bool.true_or, Bool.and_true, Bool.true_and, Bool.and_false, Bool.false_and, Bool.not_true, Bool.not_false, Bool.false_eq_true, reduceIte, reduceCtorEq, decide_eq_true_eq, Bool.not_eq_true', decide_eq_false_iff_not, sz_eq, Nat.reduceLeDiff, isOl, subFin, muFin, muD, setFin, setMany, parFin, idxD, slcD, bi_len, bi_lenT, bi_abs, bi_int, bi_list, bi_listT, bi_max2, bi_min2, Ss.sets, S.sets, Tg.is, List.mem_cons, List.not_mem_nil, or_false, or_true, false_or, true_or, List.mem_append, List.append_assoc, List.append_eq, hq, lm, at0, at1, at2, at3, at4, ix1, ix2, ix3, ix4, fd, fm, eqv_int, na10, tn18, decide_true, decide_false, ne_eq, not_false_eq_true, not_true_eq_false, and_self, and_true, true_and, Int.reduceEq, Int.reduceLE, Int.reducePow, Int.reduceLT, Nat.reduceLT, Nat.reducePow]
      rw [st, drawBody, x_cons, one, bind_ok]
      simp only [x_cons, two, bind_ok]
      exact e Φ _ _

/-! ### sameness -/
def sameLoop : Ss := .cons (.ifS (.not_ (.call "_law_same" (.cons (.idx (.nm 0) (.nm 2)) (.cons (.idx (.nm 1) (.nm 2)) .nil)) [])) (.cons (.ret (.bl false)) .nil) .nil) .nil
def sameSeq : Ss := (.cons (.ifS (.or_ (.cmp .NotEq (.isi (.nm 1) [.tuple]) (.isi (.nm 0) [.tuple])) (.cmp .NotEq (.isi (.nm 1) [.list]) (.isi (.nm 0) [.list]))) (.cons (.ret (.bl false))
    .nil) .nil)
    (.cons (.ifS (.cmp .NotEq (.bi .len (.cons (.nm 0) .nil)) (.bi .len (.cons (.nm 1) .nil))) (.cons (.ret (.bl false))
    .nil) .nil)
    (.cons (.for_ (.one 2) (.rng1 (.bi .len (.cons (.nm 1) .nil))) sameLoop)
    (.cons (.ret (.bl true))
    .nil))))
def sameTail : Ss := (.cons (.ifS (.isi (.nm 1) [.bool]) (.cons (.ret (.and_ (.isi (.nm 0) [.bool]) (.cmp .Eq (.nm 0) (.nm 1))))
    .nil) .nil)
    (.cons (.ifS (.isi (.nm 1) [.int]) (.cons (.ret (.and_ (.isi (.nm 0) [.int]) (.and_ (.not_ (.isi (.nm 0) [.bool])) (.cmp .Eq (.nm 0) (.nm 1)))))
    .nil) .nil)
    (.cons (.ret (.and_ (.isi (.nm 0) [.str]) (.cmp .Eq (.nm 0) (.nm 1))))
    .nil)))
def sameBody : Ss :=
    (.cons (.ifS (.cmp .Is (.nm 1) .non) (.cons (.ret (.cmp .Is (.nm 0) .non))
    .nil) .nil)
    (.cons (.ifS (.isi (.nm 1) [.tuple, .list]) sameSeq .nil) sameTail))
def good : Nat → D → Prop
  | 0, _ => False
  | n + 1, d => match d with
    | .list ds => ds.length ≤ 16777216 ∧ ∀ e ∈ ds, good n e
    | .tuple ds => ds.length ≤ 16777216 ∧ ∀ e ∈ ds, good n e
    | .dict _ => False
    | _ => True
theorem eqv_bool (i j : Bool) : PyData.eqv (.bool i) (.bool j) = decide (i = j) := by
  unfold PyData.eqv
  cases i <;> cases j <;> rfl
theorem eqv_str (i j : Str) : PyData.eqv (.str i) (.str j) = decide (i = j) := by
  unfold PyData.eqv
  first | rfl | simp
theorem atI_nat {xs : List D} {i : Nat} {x : D} (h : xs[i]? = some x) : atI xs (i : Int) = some x := by
  have hi := (List.getElem?_eq_some_iff.mp h).1
  unfold atI ixN
  rw [if_pos (by omega), if_pos (by omega)]
  simpa using h
theorem same_loop {Φ : Fx} {ds : List D} {t1 t2 : T} {d : D} (v1 : t1.view = some d) (v2 : t2.view = some d) (hd : d = .list ds ∨ d = .tuple ds) (hc : ∀ e ∈ ds, Φ.call "_law_same" [.fz e, .fz e] = .ok (.fz (.bool true)) [.fz e, .fz e]) :
    ∃ o, forRun (.one 2) (.rng 0 1 ds.length) (exSs Φ sameLoop) ds.length 0 [some t1, some t2, none] = .ok .nx [some t1, some t2, o] := by
  refine for_wp (fun _ ρ => ∃ o, ρ = [some t1, some t2, o]) (fun r => ∃ o, r = .ok .nx [some t1, some t2, o]) ds.length 0 _ ⟨_, rfl⟩ ?_ ?_
  · rintro i _ _ hi ⟨o, rfl⟩
    have hi' : i < ds.length := by omega
    have ex : ds[i]? = some ds[i] := List.getElem?_eq_getElem hi'
    have ai := atI_nat ex
    have cl := hc ds[i] (List.getElem_mem hi')
    refine ⟨.int (0 + (i : Int) * 1), [some t1, some t2, some (.fz (.int (0 + (i : Int) * 1)))], rfl, rfl, ?_⟩
    have e0 : (0 + (i : Int) * 1) = (i : Int) := by omega
    rw [e0]
    have ix : idxD d (.int i) = some ds[i] := by rcases hd with rfl | rfl <;> exact ai
    have g1 : (ev2 Φ (.idx (.nm 0) (.nm 2))).1 [some t1, some t2, some (.fz (.int (i : Int)))] = .ok (.tmp (.fz ds[i])) [some t1, some t2, some (.fz (.int (i : Int)))] := by
      show (R.of ((t1.view).bind fun d => (some (PyData.int i)).bind fun e => (idxD d e).map fun f => Opd.tmp (.fz f)) _) = _
      rw [v1, Option.bind_some, Option.bind_some, ix]
      rfl
    have g2 : (ev2 Φ (.idx (.nm 1) (.nm 2))).1 [some t1, some t2, some (.fz (.int (i : Int)))] = .ok (.tmp (.fz ds[i])) [some t1, some t2, some (.fz (.int (i : Int)))] := by
      show (R.of ((t2.view).bind fun d => (some (PyData.int i)).bind fun e => (idxD d e).map fun f => Opd.tmp (.fz f)) _) = _
      rw [v2, Option.bind_some, Option.bind_some, ix]
      rfl
    have bd : exSs Φ sameLoop [some t1, some t2, some (.fz (.int (i : Int)))] = .ok .nx [some t1, some t2, some (.fz (.int (i : Int)))] := by
      simp only [sameLoop, x_cons, x_nil, x_if, t_not, t_call, dflT, e_call, os_cons, os_nil, g1, g2, bind_ok, map_ok, callF, takeA, Option.map_some, List.map_nil, List.append_nil, cl, putA, Opd.see, T.view, Option.bind_some, truthD, of_some, Bool.not_true, Bool.false_eq_true, reduceIte]
    rw [bd]
    exact ⟨_, rfl⟩
  · rintro _ ⟨o, rfl⟩
    exact ⟨rfl, _, rfl⟩
theorem same_sets : sameBody.sets = [2] := rfl
theorem same_seq {Φ : Fx} {ds : List D} {t1 t2 : T} {d : D} (v1 : t1.view = some d) (v2 : t2.view = some d) (hd : d = .list ds ∨ d = .tuple ds) (hl : ds.length < 2 ^ 62) (hc : ∀ e ∈ ds, Φ.call "_law_same" [.fz e, .fz e] = .ok (.fz (.bool true)) [.fz e, .fz e]) :
    ∃ o, exSs Φ sameSeq [some t1, some t2, none] = .ok (.rt (.fz (.bool true))) [some t1, some t2, o] := by
  obtain ⟨o, lp⟩ := same_loop v1 v2 hd hc
  have rg : rngOk 0 (ds.length : Int) = true := decide_eq_true ⟨by decide, by decide, by omega, by omega⟩
  have i1 : ∀ ks, (ev2 Φ (.isi (.nm 0) ks)).1 [some t1, some t2, none] = .ok (.tmp (.fz (.bool (ks.any fun k => isKd k d)))) [some t1, some t2, none] := fun ks => by
    show R.of ((t1.view).map _) _ = _
    rw [v1]
    rfl
  have i2 : ∀ ks, (ev2 Φ (.isi (.nm 1) ks)).1 [some t1, some t2, none] = .ok (.tmp (.fz (.bool (ks.any fun k => isKd k d)))) [some t1, some t2, none] := fun ks => by
    show R.of ((t2.view).map _) _ = _
    rw [v2]
    rfl
  have bl : biD .len [d] = some (.fz (.int ds.length)) := by rcases hd with rfl | rfl <;> rfl
  have l1 : (ev2 Φ (.bi .len (.cons (.nm 0) .nil))).1 [some t1, some t2, none] = .ok (.tmp (.fz (.int ds.length))) [some t1, some t2, none] := by
    show R.of (((t1.view).bind fun d => (some []).map (d :: ·)).bind fun ds => (biD .len ds).map Opd.tmp) _ = _
    rw [v1, Option.bind_some, Option.map_some, Option.bind_some, bl]
    rfl
  have l2 : (ev2 Φ (.bi .len (.cons (.nm 1) .nil))).1 [some t1, some t2, none] = .ok (.tmp (.fz (.int ds.length))) [some t1, some t2, none] := by
    show R.of (((t2.view).bind fun d => (some []).map (d :: ·)).bind fun ds => (biD .len ds).map Opd.tmp) _ = _
    rw [v2, Option.bind_some, Option.map_some, Option.bind_some, bl]
    rfl
  have fr : (Src.rng 0 1 ds.length).free (Tg.is (.one 2) ++ sameLoop.sets) = true := rfl
  have s1 : exS Φ (.ifS (.or_ (.cmp .NotEq (.isi (.nm 1) [.tuple]) (.isi (.nm 0) [.tuple])) (.cmp .NotEq (.isi (.nm 1) [.list]) (.isi (.nm 0) [.list]))) (.cons (.ret (.bl false)) .nil) .nil) [some t1, some t2, none] = .ok .nx [some t1, some t2, none] := by
    simp only [x_if, t_or, t_cmp, cmpB, i1, i2, bind_ok, map_ok, of_some, Opd.see, T.view, Option.bind_some, Option.map_some, cmpD, eqD, scalD, Bool.true_or, reduceIte, eqv_bool, decide_true, Bool.not_true, Bool.false_eq_true, x_nil]
  have s2 : exS Φ (.ifS (.cmp .NotEq (.bi .len (.cons (.nm 0) .nil)) (.bi .len (.cons (.nm 1) .nil))) (.cons (.ret (.bl false)) .nil) .nil) [some t1, some t2, none] = .ok .nx [some t1, some t2, none] := by
    simp only [x_if, t_cmp, cmpB, l1, l2, bind_ok, of_some, Opd.see, T.view, Option.bind_some, Option.map_some, cmpD, eqD, scalD, Bool.true_or, reduceIte, eqv_int, decide_true, Bool.not_true, Bool.false_eq_true, x_nil]
  have ev : evI Φ (.rng1 (.bi .len (.cons (.nm 1) .nil))) [some t1, some t2, none] = .ok (.rng 0 1 ds.length) [some t1, some t2, none] := by
    have q := r1_ok l2 rg
    rw [Int.toNat_natCast] at q
    exact q
  have s3 : exS Φ (.for_ (.one 2) (.rng1 (.bi .len (.cons (.nm 1) .nil))) sameLoop) [some t1, some t2, none] = .ok .nx [some t1, some t2, o] := by
    rw [x_for, ev, bind_ok, fr, if_pos rfl]
    exact lp
  refine ⟨o, ?_⟩
  rw [sameSeq, x_cons, s1, bind_ok]
  show exSs Φ (.cons _ _) _ = _
  rw [x_cons, s2, bind_ok]
  show exSs Φ (.cons _ _) _ = _
  rw [x_cons, s3, bind_ok]
  rfl
theorem endR_same {t1 t2 : T} {d : D} {o : Option T} (v1 : t1.view = some d) (v2 : t2.view = some d) (t : T) : endR sameBody.sets [t1, t2] (.ok (.rt t) [some t1, some t2, o]) = .ok t [t1, t2] := by
  cases t1 <;> cases t2 <;> first | rfl | cases v1 | cases v2
theorem same_ok {fs : List Fn} {B : Fx} {F : Fn} (h : (Fn.tab fs).lookup ("_law_same" : Str) = some F) (hF : F.body = sameBody) (hp : F.np = 2) (hN : F.N.length = 3) : ∀ (n k : Nat) (d : D), n ≤ k → good n d → ∀ t1 t2 : T, t1.view = some d → t2.view = some d →
    (lev fs B k).call "_law_same" [t1, t2] = .ok (.fz (.bool true)) [t1, t2] := by
  intro n
  induction n with
  | zero => exact fun _ _ _ g => g.elim
  | succ n ih =>
    intro k d hk g t1 t2 v1 v2
    rw [lev_call h (by omega), run_fn (by rw [hp]; rfl), hF, hN]
    have sc : ∀ {t : T}, t.view = some d → (∀ ds, d ≠ .list ds) → t = .fz d := fun {t} e hd => by
      cases t with
      | fz d' => cases e; rfl
      | ol ds => cases e; exact absurd rfl (hd _)
      | od _ => cases e
    have st : startR 3 [t1, t2] = [some t1, some t2, none] := rfl
    have seq : ∀ ds, (d = .list ds ∨ d = .tuple ds) → ds.length ≤ 16777216 → (∀ e ∈ ds, good n e) → endR sameBody.sets [t1, t2] (exSs (lev fs B (k - 1)) sameBody (startR 3 [t1, t2])) = .ok (.fz (.bool true)) [t1, t2] := fun ds hd hl hg => by
      obtain ⟨o, sq⟩ := same_seq (Φ := lev fs B (k - 1)) v1 v2 hd (by omega) fun e he => ih (k - 1) e (by omega) (hg e he) _ _ rfl rfl
      have c1 : (ev2 (lev fs B (k - 1)) (.cmp .Is (.nm 1) .non)).2 [some t1, some t2, none] = .ok false [some t1, some t2, none] := by
        show R.of ((t2.view).bind fun d => (some PyData.none).bind fun e => cmpD .Is d e) _ = _
        rw [v2]
        rcases hd with rfl | rfl <;> rfl
      have c2 : (ev2 (lev fs B (k - 1)) (.isi (.nm 1) [.tuple, .list])).2 [some t1, some t2, none] = .ok true [some t1, some t2, none] := by
        show (R.of ((t2.view).map _) _).bind _ = _
        rw [v2]
        rcases hd with rfl | rfl <;> rfl
      have run : exSs (lev fs B (k - 1)) sameBody (startR 3 [t1, t2]) = .ok (.rt (.fz (.bool true))) [some t1, some t2, o] := by
        rw [st]
        simp only [sameBody, x_cons, x_if, c1, c2, bind_ok, Bool.false_eq_true, reduceIte, x_nil, sq]
      rw [run]
      exact endR_same v1 v2 _
    cases d with
    | none =>
      obtain rfl := sc v1 (fun _ z => nomatch z)
      obtain rfl := sc v2 (fun _ z => nomatch z)
      rfl
    | bool b =>
      obtain rfl := sc v1 (fun _ z => nomatch z)
      obtain rfl := sc v2 (fun _ z => nomatch z)
      simp -implicitDefEqProofs only [sameBody, sameTail, e_nm, e_int, e_str, e_bl, e_non, e_glb, e_bin, e_neg, e_cmp, t_cmp, chn_if, e_chn, t_chn, e_and, e_or, t_and, t_or, e_not, t_not, e_ite, e_lst, e_tup, e_idx, e_slc, e_call, e_bi, e_rl1, e_rl2, e_isi, e_me, e_mu, t_nm, t_bl, t_idx, t_call, t_bi, t_isi, t_lc, t_bin, ds_nil, ds_cons, os_nil, os_cons, oi_none, oi_some, c_none, c_some, i_op, as_nm, as_mv, x_nil, x_cons, x_set, x_setF, x_setT, x_par, x_sub, x_expr, x_ret, x_if, x_whl, x_for, x_raise, x_pass, x_brk, x_cont, x_tryC, bind_ok, bind_exc, map_ok, map_exc, of_some, bind_ite, map_ite, endR_ite, dflT, asT, asD, frz, ofB, cmpB, takeSlot, moveSlot, slotT, Opd.see, sees, T.view, truthD, cmpD, eqD, scalD, binD, negD, isKd, callF, takeA, putA, startR, endR_rt, endR_nx, endR_exc, backs, evB, evT, evD, evO, List.map_cons, List.map_nil, List.length_cons, List.length_nil, List.cons_append, List.nil_append, List.append_nil, List.set_cons_zero, List.set_cons_succ, List.getElem?_cons_zero, List.getElem?_cons_succ, List.replicate_zero, List.replicate_succ, Option.join_some, Option.join_none, Option.bind_some, Option.bind_none, Option.map_some, Option.map_none, Nat.reduceAdd, Nat.reduceSub, Nat.sub_self, List.any_cons, List.any_nil, Bool.or_false, Bool.false_or, Bool.or_true, Bool.true_or, Bool.and_true, Bool.true_and, Bool.and_false, Bool.false_and, Bool.not_true, Bool.not_false, Bool.false_eq_true, reduceIte, reduceCtorEq, decide_eq_true_eq, Bool.not_eq_true', decide_eq_false_iff_not, sz_eq, Nat.reduceLeDiff, isOl, subFin, muFin, muD, setFin, setMany, parFin, idxD, slcD, bi_len, bi_lenT, bi_abs, bi_int, bi_list, bi_listT, bi_max2, bi_min2, Ss.sets, S.sets, Tg.is, List.mem_cons, List.not_mem_nil, or_false, or_true, false_or, true_or, List.mem_append, List.append_assoc, List.append_eq, isNonD, eqv_bool, decide_true]
    | int b =>
      obtain rfl := sc v1 (fun _ z => nomatch z)
      obtain rfl := sc v2 (fun _ z => nomatch z)
      simp -implicitDefEqProofs only [sameBody, sameTail, e_nm, e_int, e_str, e_bl, e_non, e_glb, e_bin, e_neg, e_cmp, t_cmp, chn_if, e_chn, t_chn, e_and, e_or, t_and, t_or, e_not, t_not, e_ite, e_lst, e_tup, e_idx, e_slc, e_call, e_bi, e_rl1, e_rl2, e_isi, e_me, e_mu, t_nm, t_bl, t_idx, t_call, t_bi, t_isi, t_lc, t_bin, ds_nil, ds_cons, os_nil, os_cons, oi_none, oi_some, c_none, c_some, i_op, as_nm, as_mv, x_nil, x_cons, x_set, x_setF, x_setT, x_par, x_sub, x_expr, x_ret, x_if, x_whl, x_for, x_raise, x_pass, x_brk, x_cont, x_tryC, bind_ok, bind_exc, map_ok, map_exc, of_some, bind_ite, map_ite, endR_ite, dflT, asT, asD, frz, ofB, cmpB, takeSlot, moveSlot, slotT, Opd.see, sees, T.view, truthD, cmpD, eqD, scalD, binD, negD, isKd, callF, takeA, putA, startR, endR_rt, endR_nx, endR_exc, backs, evB, evT, evD, evO, List.map_cons, List.map_nil, List.length_cons, List.length_nil, List.cons_append, List.nil_append, List.append_nil, List.set_cons_zero, List.set_cons_succ, List.getElem?_cons_zero, List.getElem?_cons_succ, List.replicate_zero, List.replicate_succ, Option.join_some, Option.join_none, Option.bind_some, Option.bind_none, Option.map_some, Option.map_none, Nat.reduceAdd, Nat.reduceSub, Nat.sub_self, List.any_cons, List.any_nil, Bool.or_false, Bool.false_or, Bool.or_true, Bool.true_or, Bool.and_true, Bool.true_and, Bool.and_false, Bool.false_and, Bool.not_true, Bool.not_false, Bool.false_eq_true, reduceIte, reduceCtorEq, decide_eq_true_eq, Bool.not_eq_true', decide_eq_false_iff_not, sz_eq, Nat.reduceLeDiff, isOl, subFin, muFin, muD, setFin, setMany, parFin, idxD, slcD, bi_len, bi_lenT, bi_abs, bi_int, bi_list, bi_listT, bi_max2, bi_min2, Ss.sets, S.sets, Tg.is, List.mem_cons, List.not_mem_nil, or_false, or_true, false_or, true_or, List.mem_append, List.append_assoc, List.append_eq, isNonD, eqv_int, decide_true]
    | str b =>
      obtain rfl := sc v1 (fun _ z => nomatch z)
      obtain rfl := sc v2 (fun _ z => nomatch z)
      simp -implicitDefEqProofs only [sameBody, sameTail, e_nm, e_int, e_str, e_bl, e_non, e_glb, e_bin, e_neg, e_cmp, t_cmp, chn_if, e_chn, t_chn, e_and, e_or, t_and, t_or, e_not, t_not, e_ite, e_lst, e_tup, e_idx, e_slc, e_call, e_bi, e_rl1, e_rl2, e_isi, e_me, e_mu, t_nm, t_bl, t_idx, t_call, t_bi, t_isi, t_lc, t_bin, ds_nil, ds_cons, os_nil, os_cons, oi_none, oi_some, c_none, c_some, i_op, as_nm, as_mv, x_nil, x_cons, x_set, x_setF, x_setT, x_par, x_sub, x_expr, x_ret, x_if, x_whl, x_for, x_raise, x_pass, x_brk, x_cont, x_tryC, bind_ok, bind_exc, map_ok, map_exc, of_some, bind_ite, map_ite, endR_ite, dflT, asT, asD, frz, ofB, cmpB, takeSlot, moveSlot, slotT, Opd.see, sees, T.view, truthD, cmpD, eqD, scalD, binD, negD, isKd, callF, takeA, putA, startR, endR_rt, endR_nx, endR_exc, backs, evB, evT, evD, evO, List.map_cons, List.map_nil, List.length_cons, List.length_nil, List.cons_append, List.nil_append, List.append_nil, List.set_cons_zero, List.set_cons_succ, List.getElem?_cons_zero, List.getElem?_cons_succ, List.replicate_zero, List.replicate_succ, Option.join_some, Option.join_none, Option.bind_some, Option.bind_none, Option.map_some, Option.map_none, Nat.reduceAdd, Nat.reduceSub, Nat.sub_self, List.any_cons, List.any_nil, Bool.or_false, Bool.false_or, Bool.or_true, Bool.true_or, Bool.and_true, Bool.true_and, Bool.and_false, Bool.false_and, Bool.not_true, Bool.not_false, Bool.false_eq_true, reduceIte, reduceCtorEq, decide_eq_true_eq, Bool.not_eq_true', decide_eq_false_iff_not, sz_eq, Nat.reduceLeDiff, isOl, subFin, muFin, muD, setFin, setMany, parFin, idxD, slcD, bi_len, bi_lenT, bi_abs, bi_int, bi_list, bi_listT, bi_max2, bi_min2, Ss.sets, S.sets, Tg.is, List.mem_cons, List.not_mem_nil, or_false, or_true, false_or, true_or, List.mem_append, List.append_assoc, List.append_eq, isNonD, eqv_str, decide_true]
    | dict _ => exact g.elim
    | list ds => exact seq ds (.inl rfl) g.1 g.2
    | tuple ds => exact seq ds (.inr rfl) g.1 g.2
end L2.Eng

/-! EngR: walks and loops as equations. -/
namespace L2.Eng
open PySem
section
variable {Φ : Fx} {e elt a b : E} {c : OE} {s : Nat} {ρ ρ1 ρ2 : Rho}
theorem r1_see {x : Opd} {j : Int} (h : (ev2 Φ a).1 ρ = .ok x ρ1) (hs : x.see ρ1 = some (.int j)) (hr : rngOk 0 j = true) : evI Φ (.rng1 a) ρ = .ok (.rng 0 1 j.toNat) ρ1 := by
  rw [i_r1, h, bind_ok, hs]
  show R.of (if rngOk 0 j then some (Src.rng 0 1 j.toNat) else none) ρ1 = _
  rw [hr]
  rfl
theorem r2_see {x y : Opd} {i j : Int} (h : (ev2 Φ a).1 ρ = .ok x ρ1) (h2 : (ev2 Φ b).1 ρ1 = .ok y ρ2) (hs : x.see ρ2 = some (.int i)) (hs2 : y.see ρ2 = some (.int j)) (hr : rngOk i j = true) : evI Φ (.rng2 a b) ρ = .ok (.rng i 1 (j - i).toNat) ρ2 := by
  rw [i_r2, h, bind_ok, h2, bind_ok, hs, hs2]
  show R.of (if rngOk i j then some (Src.rng i 1 (j - i).toNat) else none) ρ2 = _
  rw [hr]
  rfl
theorem set_self (h : s < ρ.length) : ρ.set s (slotT ρ s) = ρ := by
  unfold slotT
  rw [List.getElem?_eq_getElem h]
  exact List.set_getElem_self h
theorem wipe1 (ρ : Rho) (s : Nat) : wipeR ρ [s] = ρ.set s none := rfl
theorem back1 (ρ1 ρ2 : Rho) (s : Nat) : backR ρ1 ρ2 [s] = ρ2.set s (slotT ρ1 s) := rfl
/-- where a walk over an operand gets its items -/
theorem src_opd {x : Opd} {d : D} {k : Bool} {xs : List D} (hs : x.see ρ = some d) (hd : seqD d = some (k, xs)) (hne : x ≠ .sl s) : (opdSrc x (k, xs)).len = xs.length ∧
    (∀ o i y, xs[i]? = some y → (opdSrc x (k, xs)).item i (ρ.set s o) = some y) ∧ ∀ o, (opdSrc x (k, xs)).fin (ρ.set s o) = true := by
  cases x with
  | tmp t => exact ⟨rfl, fun o i y h => h, fun _ => rfl⟩
  | sl j =>
    have hj : s ≠ j := fun z => hne (by rw [z])
    have sk : seqK k d = some xs := by
      cases d <;> cases hd <;> rfl
    have st : ∀ o, ((slotT (ρ.set s o) j).bind T.view).bind (seqK k) = some xs := fun o => by
      rw [slotT_other hj]
      have hs' : (slotT ρ j).bind T.view = some d := hs
      rw [hs', Option.bind_some, sk]
    refine ⟨rfl, fun o i y h => ?_, fun o => ?_⟩
    · show (((slotT (ρ.set s o) j).bind T.view).bind (seqK k)).bind (fun ds => if ds.length = xs.length then ds[i]? else none) = _
      rw [st, Option.bind_some, if_pos rfl, h]
    · show (match ((slotT (ρ.set s o) j).bind T.view).bind (seqK k) with | some ds => decide (ds.length = xs.length) | none => false) = true
      rw [st]
      exact decide_eq_true rfl
/-- a comprehension over a list or tuple, with an if -/
theorem lc_list (p : D → Bool) (f : D → D) {x : Opd} {d : D} {k : Bool} {xs : List D} (hx : (ev2 Φ e).1 ρ = .ok x ρ1) (hs : x.see ρ1 = some d) (hd : seqD d = some (k, xs)) (hne : x ≠ .sl s) (hl : s < ρ1.length) (hz : xs.length ≤ 16777216)
    (hc : ∀ y ∈ xs, evC Φ c (ρ1.set s (some (.fz y))) = .ok (p y) (ρ1.set s (some (.fz y))))
    (he : ∀ y ∈ xs, p y = true → asD elt (ev2 Φ elt).1 (ρ1.set s (some (.fz y))) = .ok (f y) (ρ1.set s (some (.fz y)))) :
    (ev2 Φ (.lc (.one s) [s] (.opd e) c elt)).1 ρ = .ok (.tmp (.ol ((xs.filter p).map f))) ρ1 := by
  obtain ⟨h1, h2, h3⟩ := src_opd (s := s) hs hd hne
  have ev : evI Φ (.opd e) ρ = .ok (opdSrc x (k, xs)) ρ1 := by
    rw [i_op, hx, bind_ok, hs, Option.bind_some, hd]
    rfl
  rw [e_lc, ev, bind_ok, wipe1, h1]
  rw [lc_pure (own := [s]) (tg := .one s) (xs := xs) (n := xs.length) p f rfl (by rw [sz_eq]; omega) (h2 _) (h3 _) fun y hy => ?_]
  · rw [bind_ok, back1, List.set_set, set_self hl]
  · refine ⟨_, rfl, ρ1.set s (some (.fz y)), ?_, fun hp => ⟨ρ1.set s (some (.fz y)), ?_, ?_⟩, fun _ => ?_⟩
    · rw [List.set_set]
      exact hc y hy
    · exact he y hy hp
    · rw [wipe1, List.set_set]
    · rw [wipe1, List.set_set]
theorem lc_map (f : D → D) {x : Opd} {d : D} {k : Bool} {xs : List D} (hx : (ev2 Φ e).1 ρ = .ok x ρ1) (hs : x.see ρ1 = some d) (hd : seqD d = some (k, xs)) (hne : x ≠ .sl s) (hl : s < ρ1.length) (hz : xs.length ≤ 16777216)
    (he : ∀ y ∈ xs, asD elt (ev2 Φ elt).1 (ρ1.set s (some (.fz y))) = .ok (f y) (ρ1.set s (some (.fz y)))) :
    (ev2 Φ (.lc (.one s) [s] (.opd e) .none elt)).1 ρ = .ok (.tmp (.ol (xs.map f))) ρ1 := by
  have q := lc_list (c := .none) (fun _ => true) f hx hs hd hne hl hz (fun y hy => rfl) (fun y hy _ => he y hy)
  rw [q, List.filter_eq_self.mpr (fun _ _ => rfl)]
/-- a comprehension over range(a), with an if -/
theorem lc_r1 (p : Nat → Bool) (f : Nat → D) {x : Opd} {n : Nat} (hx : (ev2 Φ a).1 ρ = .ok x ρ1) (hs : x.see ρ1 = some (.int n)) (hl : s < ρ1.length) (hz : n ≤ 16777216)
    (hc : ∀ i, i < n → evC Φ c (ρ1.set s (some (.fz (.int i)))) = .ok (p i) (ρ1.set s (some (.fz (.int i)))))
    (he : ∀ i, i < n → p i = true → asD elt (ev2 Φ elt).1 (ρ1.set s (some (.fz (.int i)))) = .ok (f i) (ρ1.set s (some (.fz (.int i))))) :
    (ev2 Φ (.lc (.one s) [s] (.rng1 a) c elt)).1 ρ = .ok (.tmp (.ol (((List.range n).filter p).map f))) ρ1 := by
  have ev := r1_see hx hs (decide_eq_true (p := -(2 ^ 62) ≤ (0 : Int) ∧ (0 : Int) < 2 ^ 62 ∧ -(2 ^ 62) ≤ (n : Int) ∧ (n : Int) < 2 ^ 62) ⟨by decide, by decide, by omega, by omega⟩)
  rw [Int.toNat_natCast] at ev
  rw [e_lc, ev, bind_ok, wipe1]
  show (lcRun [s] (.one s) (.rng 0 1 n) _ _ n 0 [] _).bind _ = _
  rw [lc_rng (own := [s]) (s := s) (lo := 0) (n := n) p f (by rw [sz_eq]; omega) fun i hi => ?_]
  · rw [bind_ok, back1, List.set_set, set_self hl]
  · have e0 : (0 : Int) + (i : Int) = i := by omega
    rw [e0, List.set_set]
    refine ⟨_, hc i hi, fun hp => ⟨_, he i hi hp, ?_⟩, fun _ => ?_⟩
    · rw [wipe1, List.set_set]
    · rw [wipe1, List.set_set]
theorem lc_r1m (f : Nat → D) {x : Opd} {n : Nat} (hx : (ev2 Φ a).1 ρ = .ok x ρ1) (hs : x.see ρ1 = some (.int n)) (hl : s < ρ1.length) (hz : n ≤ 16777216)
    (he : ∀ i, i < n → asD elt (ev2 Φ elt).1 (ρ1.set s (some (.fz (.int i)))) = .ok (f i) (ρ1.set s (some (.fz (.int i))))) :
    (ev2 Φ (.lc (.one s) [s] (.rng1 a) .none elt)).1 ρ = .ok (.tmp (.ol ((List.range n).map f))) ρ1 := by
  have q := lc_r1 (c := .none) (fun _ => true) f hx hs hl hz (fun y hy => rfl) (fun y hy _ => he y hy)
  rw [q, List.filter_eq_self.mpr (fun _ _ => rfl)]
/-- a comprehension over range(a, b), with an if -/
theorem lc_r2 (p : Nat → Bool) (f : Nat → D) {x y : Opd} {lo hi : Int} (hx : (ev2 Φ a).1 ρ = .ok x ρ1) (hy : (ev2 Φ b).1 ρ1 = .ok y ρ2) (hs : x.see ρ2 = some (.int lo)) (hs2 : y.see ρ2 = some (.int hi)) (hl : s < ρ2.length) (h1 : -100000 ≤ lo ∧ lo ≤ 100000) (h2 : -100000 ≤ hi ∧ hi ≤ 100000)
    (hc : ∀ i, i < (hi - lo).toNat → evC Φ c (ρ2.set s (some (.fz (.int (lo + i))))) = .ok (p i) (ρ2.set s (some (.fz (.int (lo + i))))))
    (he : ∀ i, i < (hi - lo).toNat → p i = true → asD elt (ev2 Φ elt).1 (ρ2.set s (some (.fz (.int (lo + i))))) = .ok (f i) (ρ2.set s (some (.fz (.int (lo + i)))))) :
    (ev2 Φ (.lc (.one s) [s] (.rng2 a b) c elt)).1 ρ = .ok (.tmp (.ol (((List.range (hi - lo).toNat).filter p).map f))) ρ2 := by
  have ev := r2_see hx hy hs hs2 (decide_eq_true (p := -(2 ^ 62) ≤ lo ∧ lo < 2 ^ 62 ∧ -(2 ^ 62) ≤ hi ∧ hi < 2 ^ 62) ⟨by omega, by omega, by omega, by omega⟩)
  rw [e_lc, ev, bind_ok, wipe1]
  show (lcRun [s] (.one s) (.rng lo 1 (hi - lo).toNat) _ _ (hi - lo).toNat 0 [] _).bind _ = _
  rw [lc_rng (own := [s]) (s := s) (lo := lo) (n := (hi - lo).toNat) p f (by rw [sz_eq]; omega) fun i hi => ?_]
  · rw [bind_ok, back1, List.set_set, set_self hl]
  · rw [List.set_set]
    refine ⟨_, hc i hi, fun hp => ⟨_, he i hi hp, ?_⟩, fun _ => ?_⟩
    · rw [wipe1, List.set_set]
    · rw [wipe1, List.set_set]
/-- a comprehension over range(a) whose item works on the slots: at each step one of all states that are right -/
theorem lc_r1x (I : Rho → Prop) (Q : D → Prop) {x : Opd} {n : Nat} (hx : (ev2 Φ a).1 ρ = .ok x ρ1) (hs : x.see ρ1 = some (.int n)) (hz : n ≤ 16777216) (hI : I (ρ1.set s none))
    (he : ∀ i ρ, i < n → I ρ → ∃ y ρ', asD elt (ev2 Φ elt).1 (ρ.set s (some (.fz (.int i)))) = .ok y ρ' ∧ Q y ∧ I (ρ'.set s none)) :
    ∃ ys ρ', (ev2 Φ (.lc (.one s) [s] (.rng1 a) .none elt)).1 ρ = .ok (.tmp (.ol ys)) (ρ'.set s (slotT ρ1 s)) ∧ ys.length = n ∧ (∀ y ∈ ys, Q y) ∧ I ρ' := by
  have ev := r1_see hx hs (decide_eq_true (p := -(2 ^ 62) ≤ (0 : Int) ∧ (0 : Int) < 2 ^ 62 ∧ -(2 ^ 62) ≤ (n : Int) ∧ (n : Int) < 2 ^ 62) ⟨by decide, by decide, by omega, by omega⟩)
  rw [Int.toNat_natCast] at ev
  rw [e_lc, ev, bind_ok, wipe1]
  show ∃ ys ρ', (lcRun [s] (.one s) (.rng 0 1 n) _ _ n 0 [] _).bind _ = _ ∧ _
  refine lc_wp (fun i acc ρ => acc.length = i ∧ (∀ y ∈ acc, Q y) ∧ I ρ) (fun (r : R (List D)) => ∃ (ys : List D) (ρ' : Rho), (r.bind fun ds ρ2 => R.ok (Opd.tmp (.ol ds)) (backR ρ1 ρ2 [s])) = R.ok (Opd.tmp (.ol ys)) (ρ'.set s (slotT ρ1 s)) ∧ ys.length = n ∧ (∀ y ∈ ys, Q y) ∧ I ρ') n 0 [] _ ⟨rfl, fun _ z => (nomatch z), hI⟩ ?_ ?_
  · rintro i acc ρ _ hi ⟨h1, h2, h3⟩
    obtain ⟨y, ρ', e1, e2, e3⟩ := he i ρ (by omega) h3
    refine ⟨_, _, rfl, rfl, true, _, rfl, fun _ => ⟨y, ρ', ?_, ?_, ?_, ?_, e3⟩, fun z => absurd z (by decide)⟩
    · have e0 : (0 : Int) + (i : Int) * 1 = i := by omega
      rw [e0]
      exact e1
    · rw [sz_eq, h1]
      omega
    · rw [List.length_append, h1]
      rfl
    · intro z hz
      rcases List.mem_append.mp hz with hz | hz
      · exact h2 z hz
      · rw [List.mem_singleton.mp hz]
        exact e2
  · rintro acc ρ ⟨h1, h2, h3⟩
    exact ⟨rfl, acc, ρ, rfl, by omega, h2, h3⟩
/-! ### loops -/
variable {bd : Ss}
/-- a loop over range(a): the slots behind each round are told -/
theorem for_r1 (I : Nat → Rho) {x : Opd} {n : Nat} (hx : (ev2 Φ a).1 ρ = .ok x (I 0)) (hs : x.see (I 0) = some (.int n)) (hz : n ≤ 16777216)
    (h : ∀ i, i < n → exSs Φ bd ((I i).set s (some (.fz (.int i)))) = .ok .nx (I (i + 1))) :
    exS Φ (.for_ (.one s) (.rng1 a) bd) ρ = .ok .nx (I n) := by
  have ev := r1_see hx hs (decide_eq_true (p := -(2 ^ 62) ≤ (0 : Int) ∧ (0 : Int) < 2 ^ 62 ∧ -(2 ^ 62) ≤ (n : Int) ∧ (n : Int) < 2 ^ 62) ⟨by decide, by decide, by omega, by omega⟩)
  rw [Int.toNat_natCast] at ev
  rw [x_for, ev, bind_ok]
  show forRun _ (.rng 0 1 n) _ n 0 _ = _
  refine for_wp (fun i ρ => ρ = I i) (fun r => r = .ok .nx (I n)) n 0 _ rfl ?_ ?_
  · rintro i _ _ hi rfl
    have e0 : (0 : Int) + (i : Int) * 1 = i := by omega
    refine ⟨_, _, rfl, rfl, ?_⟩
    rw [e0, h i (by omega)]
  · rintro _ rfl
    exact ⟨rfl, by rw [Nat.zero_add]⟩
/-- .. with an end that some round may tell -/
theorem for_r1p (I : Nat → Rho → Prop) (P : R Fl → Prop) {x : Opd} {n : Nat} (hx : (ev2 Φ a).1 ρ = .ok x ρ1) (hs : x.see ρ1 = some (.int n)) (hz : n ≤ 16777216) (h0 : I 0 ρ1)
    (h : ∀ i ρ, i < n → I i ρ → match exSs Φ bd (ρ.set s (some (.fz (.int i)))) with
      | .ok .nx ρ2 => I (i + 1) ρ2
      | .ok .ct ρ2 => I (i + 1) ρ2
      | .ok .bk ρ2 => P (.ok .nx ρ2)
      | .ok (.rt t) ρ2 => P (.ok (.rt t) ρ2)
      | .exc x ρ2 => P (.exc x ρ2)
      | .no => False) (hf : ∀ ρ, I n ρ → P (.ok .nx ρ)) :
    P (exS Φ (.for_ (.one s) (.rng1 a) bd) ρ) := by
  have ev := r1_see hx hs (decide_eq_true (p := -(2 ^ 62) ≤ (0 : Int) ∧ (0 : Int) < 2 ^ 62 ∧ -(2 ^ 62) ≤ (n : Int) ∧ (n : Int) < 2 ^ 62) ⟨by decide, by decide, by omega, by omega⟩)
  rw [Int.toNat_natCast] at ev
  rw [x_for, ev, bind_ok]
  show P (forRun _ (.rng 0 1 n) _ n 0 _)
  refine for_wp I P n 0 _ h0 ?_ ?_
  · intro i ρ _ hi hI
    have e0 : (0 : Int) + (i : Int) * 1 = i := by omega
    refine ⟨_, _, rfl, rfl, ?_⟩
    rw [e0]
    exact h i ρ (by omega) hI
  · intro ρ hI
    rw [Nat.zero_add] at hI
    exact ⟨rfl, hf ρ hI⟩
theorem for_r2p (I : Nat → Rho → Prop) (P : R Fl → Prop) {x y : Opd} {lo hi : Int} (hx : (ev2 Φ a).1 ρ = .ok x ρ1) (hy : (ev2 Φ b).1 ρ1 = .ok y ρ2) (hs : x.see ρ2 = some (.int lo)) (hs2 : y.see ρ2 = some (.int hi)) (h1 : -100000 ≤ lo ∧ lo ≤ 100000) (h2 : -100000 ≤ hi ∧ hi ≤ 100000) (h0 : I 0 ρ2)
    (h : ∀ i ρ, i < (hi - lo).toNat → I i ρ → match exSs Φ bd (ρ.set s (some (.fz (.int (lo + i))))) with
      | .ok .nx ρ2 => I (i + 1) ρ2
      | .ok .ct ρ2 => I (i + 1) ρ2
      | .ok .bk ρ2 => P (.ok .nx ρ2)
      | .ok (.rt t) ρ2 => P (.ok (.rt t) ρ2)
      | .exc x ρ2 => P (.exc x ρ2)
      | .no => False) (hf : ∀ ρ, I (hi - lo).toNat ρ → P (.ok .nx ρ)) :
    P (exS Φ (.for_ (.one s) (.rng2 a b) bd) ρ) := by
  have ev := r2_see hx hy hs hs2 (decide_eq_true (p := -(2 ^ 62) ≤ lo ∧ lo < 2 ^ 62 ∧ -(2 ^ 62) ≤ hi ∧ hi < 2 ^ 62) ⟨by omega, by omega, by omega, by omega⟩)
  rw [x_for, ev, bind_ok]
  show P (forRun _ (.rng lo 1 (hi - lo).toNat) _ (hi - lo).toNat 0 _)
  refine for_wp I P (hi - lo).toNat 0 _ h0 ?_ ?_
  · intro i ρ _ hi hI
    have e0 : lo + (i : Int) * 1 = lo + i := by omega
    refine ⟨_, _, rfl, rfl, ?_⟩
    rw [e0]
    exact h i ρ (by omega) hI
  · intro ρ hI
    rw [Nat.zero_add] at hI
    exact ⟨rfl, hf ρ hI⟩
/-- a loop over a list or tuple -/
theorem for_lp (I : Nat → Rho → Prop) (P : R Fl → Prop) {x : Opd} {d : D} {k : Bool} {xs : List D} (hx : (ev2 Φ e).1 ρ = .ok x ρ1) (hs : x.see ρ1 = some d) (hd : seqD d = some (k, xs)) (hf1 : (opdSrc x (k, xs)).free (s :: bd.sets) = true) (h0 : I 0 ρ1)
    (ht : ∀ i ρ, I i ρ → x.see ρ = some d)
    (h : ∀ i y ρ, xs[i]? = some y → I i ρ → match exSs Φ bd (ρ.set s (some (.fz y))) with
      | .ok .nx ρ2 => I (i + 1) ρ2
      | .ok .ct ρ2 => I (i + 1) ρ2
      | .ok .bk ρ2 => P (.ok .nx ρ2)
      | .ok (.rt t) ρ2 => P (.ok (.rt t) ρ2)
      | .exc x ρ2 => P (.exc x ρ2)
      | .no => False) (hf : ∀ ρ, I xs.length ρ → P (.ok .nx ρ)) :
    P (exS Φ (.for_ (.one s) (.opd e) bd) ρ) := by
  have ev : evI Φ (.opd e) ρ = .ok (opdSrc x (k, xs)) ρ1 := by
    rw [i_op, hx, bind_ok, hs, Option.bind_some, hd]
    rfl
  have sk : seqK k d = some xs := by
    cases d <;> cases hd <;> rfl
  have ln : (opdSrc x (k, xs)).len = xs.length := by cases x <;> rfl
  rw [x_for, ev, bind_ok]
  show P (if (opdSrc x (k, xs)).free (s :: bd.sets) = true then _ else _)
  rw [if_pos hf1, ln]
  have nx : ∀ i ρ, I i ρ → (∀ j, (opdSrc x (k, xs)).item j ρ = xs[j]?) ∧ (opdSrc x (k, xs)).fin ρ = true := fun i ρ hI => by
    cases x with
    | tmp t => exact ⟨fun _ => rfl, rfl⟩
    | sl j =>
      have st : ((slotT ρ j).bind T.view).bind (seqK k) = some xs := by
        have hs' : (slotT ρ j).bind T.view = some d := ht i ρ hI
        rw [hs', Option.bind_some, sk]
      refine ⟨fun j' => ?_, ?_⟩
      · show (((slotT ρ j).bind T.view).bind (seqK k)).bind (fun ds => if ds.length = xs.length then ds[j']? else none) = _
        rw [st, Option.bind_some, if_pos rfl]
      · show (match ((slotT ρ j).bind T.view).bind (seqK k) with | some ds => decide (ds.length = xs.length) | none => false) = true
        rw [st]
        exact decide_eq_true rfl
  refine for_wp I P xs.length 0 _ h0 ?_ ?_
  · intro i ρ _ hi hI
    have ex : xs[i]? = some xs[i] := List.getElem?_eq_getElem (by omega)
    refine ⟨xs[i], _, by rw [(nx i ρ hI).1, ex], rfl, h i _ ρ ex hI⟩
  · intro ρ hI
    rw [Nat.zero_add] at hI
    exact ⟨(nx _ ρ hI).2, hf ρ hI⟩
/-- .. of a list that is a row of things, each told as data -/
theorem for_lm {α : Type} (I : Nat → Rho → Prop) (P : R Fl → Prop) {x : Opd} {k : Bool} {rs : List α} {g : α → D} {d : D} (hx : (ev2 Φ e).1 ρ = .ok x ρ1) (hs : x.see ρ1 = some d) (hd : seqD d = some (k, rs.map g)) (hf1 : (opdSrc x (k, rs.map g)).free (s :: bd.sets) = true) (h0 : I 0 ρ1)
    (ht : ∀ i ρ, I i ρ → x.see ρ = some d)
    (h : ∀ i r ρ, rs[i]? = some r → I i ρ → match exSs Φ bd (ρ.set s (some (.fz (g r)))) with
      | .ok .nx ρ2 => I (i + 1) ρ2
      | .ok .ct ρ2 => I (i + 1) ρ2
      | .ok .bk ρ2 => P (.ok .nx ρ2)
      | .ok (.rt t) ρ2 => P (.ok (.rt t) ρ2)
      | .exc x ρ2 => P (.exc x ρ2)
      | .no => False) (hf : ∀ ρ, I rs.length ρ → P (.ok .nx ρ)) :
    P (exS Φ (.for_ (.one s) (.opd e) bd) ρ) := by
  refine for_lp I P hx hs hd hf1 h0 ht (fun i y ρ hy hI => ?_) (fun ρ hI => hf ρ (by rwa [List.length_map] at hI))
  rw [List.getElem?_map] at hy
  cases hr : rs[i]? with
  | none => rw [hr] at hy; cases hy
  | some r =>
    rw [hr] at hy
    cases hy
    exact h i r ρ hr hI
/-- a comprehension over a row of things, each told as data -/
theorem lc_lm {α : Type} (p : α → Bool) (f : α → D) {x : Opd} {d : D} {k : Bool} {rs : List α} {g : α → D} (hx : (ev2 Φ e).1 ρ = .ok x ρ1) (hs : x.see ρ1 = some d) (hd : seqD d = some (k, rs.map g)) (hne : x ≠ .sl s) (hl : s < ρ1.length) (hz : rs.length ≤ 16777216)
    (hc : ∀ r ∈ rs, evC Φ c (ρ1.set s (some (.fz (g r)))) = .ok (p r) (ρ1.set s (some (.fz (g r)))))
    (he : ∀ r ∈ rs, p r = true → asD elt (ev2 Φ elt).1 (ρ1.set s (some (.fz (g r)))) = .ok (f r) (ρ1.set s (some (.fz (g r))))) :
    (ev2 Φ (.lc (.one s) [s] (.opd e) c elt)).1 ρ = .ok (.tmp (.ol ((rs.filter p).map f))) ρ1 := by
  obtain ⟨h1, h2, h3⟩ := src_opd (s := s) hs hd hne
  have ev : evI Φ (.opd e) ρ = .ok (opdSrc x (k, rs.map g)) ρ1 := by
    rw [i_op, hx, bind_ok, hs, Option.bind_some, hd]
    rfl
  rw [e_lc, ev, bind_ok, wipe1, h1, List.length_map]
  have run : lcRun [s] (.one s) (opdSrc x (k, rs.map g)) (evC Φ c) (asD elt (ev2 Φ elt).1) rs.length 0 [] (ρ1.set s none) = .ok ((rs.filter p).map f) (ρ1.set s none) := by
    refine lc_wp (fun i acc ρ' => ρ' = ρ1.set s none ∧ acc = ((rs.take i).filter p).map f) (fun r => r = .ok ((rs.filter p).map f) (ρ1.set s none)) rs.length 0 [] _ ⟨rfl, by simp⟩ ?_ ?_
    · rintro i acc _ _ hlt ⟨rfl, rfl⟩
      have hi' : i < rs.length := by omega
      have ex : rs[i]? = some rs[i] := List.getElem?_eq_getElem hi'
      have hm := List.getElem_mem hi'
      have tk : rs.take (i + 1) = rs.take i ++ [rs[i]] := by rw [List.take_add_one, ex]; rfl
      have it := h2 none i (g rs[i]) (by rw [List.getElem?_map, ex]; rfl)
      refine ⟨_, (ρ1.set s none).set s (some (.fz (g rs[i]))), it, rfl, p rs[i], ρ1.set s (some (.fz (g rs[i]))), ?_, fun hb => ⟨f rs[i], ρ1.set s (some (.fz (g rs[i]))), he _ hm hb, ?_, ?_, ?_⟩, fun hb => ⟨?_, ?_⟩⟩
      · rw [List.set_set]
        exact hc _ hm
      · have l1 := List.length_filter_le p (rs.take i)
        rw [List.length_take] at l1
        rw [List.length_map, sz_eq]
        omega
      · rw [wipe1, List.set_set]
      · rw [tk, List.filter_append, List.map_append]
        simp [hb]
      · rw [wipe1, List.set_set]
      · rw [tk, List.filter_append, List.map_append]
        simp [hb]
    · rintro acc _ ⟨rfl, rfl⟩
      refine ⟨h3 none, ?_⟩
      rw [Nat.zero_add, List.take_of_length_le (Nat.le_refl _)]
  rw [run, bind_ok, back1, List.set_set, set_self hl]
theorem seq_nx {st : S} {ss : Ss} (h : exS Φ st ρ = .ok .nx ρ1) : exSs Φ (.cons st ss) ρ = exSs Φ ss ρ1 := by
  rw [x_cons, h]
  rfl
theorem seq_rt {st : S} {ss : Ss} {t : T} (h : exS Φ st ρ = .ok (.rt t) ρ1) : exSs Φ (.cons st ss) ρ = .ok (.rt t) ρ1 := by
  rw [x_cons, h]
  rfl
theorem catch_exc {h f c : Str} {i : Nat} {d : D} (hs : Φ.sub c h = some true) (hh : Φ.hot f c = some d) : catchC Φ h i f (.exc ⟨c, []⟩ ρ) = .ok (.rt (.fz d)) (ρ.set i none) := by
  unfold catchC
  simp only [hs, hh]
theorem ints_of {P : Int → Prop} : ∀ {ys : List D}, (∀ y ∈ ys, ∃ x, y = .int x ∧ P x) → ∃ ws : List Int, ys = ws.map PyData.int ∧ ∀ w ∈ ws, P w
  | [], _ => ⟨[], rfl, fun _ z => nomatch z⟩
  | y :: ys, h => by
    obtain ⟨x, rfl, hx⟩ := h y (List.mem_cons_self ..)
    obtain ⟨ws, rfl, hw⟩ := ints_of fun z hz => h z (List.mem_cons_of_mem _ hz)
    refine ⟨x :: ws, rfl, fun w hm => ?_⟩
    rcases List.mem_cons.mp hm with rfl | hm
    · exact hx
    · exact hw w hm
end
/-! ### loops that look for something -/
/-- a loop that went through (and then b is True) or gave t -/
def Scan (I : Rho → Prop) (t : T) (b : Bool) (r : R Fl) : Prop := (b = true ∧ ∃ ρ, r = .ok .nx ρ ∧ I ρ) ∨ (b = false ∧ ∃ ρ, r = .ok (.rt t) ρ)
section
variable {Φ : Fx} {e a b : E} {s : Nat} {ρ ρ1 ρ2 : Rho} {bd ss : Ss} {st : S} {I : Rho → Prop} {t : T} {v : Bool}
theorem scan_nx (h : exS Φ st ρ = .ok .nx ρ1) (k : Scan I t v (exSs Φ ss ρ1)) : Scan I t v (exSs Φ (.cons st ss) ρ) := by
  rw [seq_nx h]
  exact k
theorem scan_last (h : Scan I t v (exS Φ st ρ)) : Scan I t v (exSs Φ (.cons st .nil) ρ) := by
  rcases h with ⟨hb, ρ', e, hI⟩ | ⟨hb, ρ', e⟩
  · rw [seq_nx e]
    exact .inl ⟨hb, ρ', rfl, hI⟩
  · rw [seq_rt e]
    exact .inr ⟨hb, ρ', rfl⟩
theorem all_no {n i : Nat} {ok : Nat → Bool} (hi : i < n) (h : ok i = false) : (List.range n).all ok = false :=
  List.all_eq_false.mpr ⟨i, List.mem_range.mpr hi, by rw [h]; exact Bool.false_ne_true⟩
theorem all_more {i : Nat} {ok : Nat → Bool} (ha : (List.range i).all ok = true) (h : ok i = true) : (List.range (i + 1)).all ok = true := by
  rw [List.range_succ, List.all_append, ha, List.all_cons, h]
  rfl
theorem scan_r1 (ok : Nat → Bool) {x : Opd} {n : Nat} (hx : (ev2 Φ a).1 ρ = .ok x ρ1) (hs : x.see ρ1 = some (.int n)) (hz : n ≤ 16777216) (h0 : I ρ1)
    (h : ∀ i ρ, i < n → I ρ → Scan I t (ok i) (exSs Φ bd (ρ.set s (some (.fz (.int i)))))) : Scan I t ((List.range n).all ok) (exS Φ (.for_ (.one s) (.rng1 a) bd) ρ) := by
  refine for_r1p (fun i ρ => (List.range i).all ok = true ∧ I ρ) (Scan I t ((List.range n).all ok)) hx hs hz ⟨rfl, h0⟩ ?_ ?_
  · rintro i ρ hi ⟨ha, hI⟩
    rcases h i ρ hi hI with ⟨hb, ρ', e, hI'⟩ | ⟨hb, ρ', e⟩
    · rw [e]
      exact ⟨all_more ha hb, hI'⟩
    · rw [e]
      exact .inr ⟨all_no hi hb, ρ', rfl⟩
  · rintro ρ ⟨ha, hI⟩
    exact .inl ⟨ha, ρ, rfl, hI⟩
theorem scan_r2 (ok : Nat → Bool) {x y : Opd} {lo hi : Int} (hx : (ev2 Φ a).1 ρ = .ok x ρ1) (hy : (ev2 Φ b).1 ρ1 = .ok y ρ2) (hs : x.see ρ2 = some (.int lo)) (hs2 : y.see ρ2 = some (.int hi)) (h1 : -100000 ≤ lo ∧ lo ≤ 100000) (h2 : -100000 ≤ hi ∧ hi ≤ 100000) (h0 : I ρ2)
    (h : ∀ i ρ, i < (hi - lo).toNat → I ρ → Scan I t (ok i) (exSs Φ bd (ρ.set s (some (.fz (.int (lo + i))))))) : Scan I t ((List.range (hi - lo).toNat).all ok) (exS Φ (.for_ (.one s) (.rng2 a b) bd) ρ) := by
  refine for_r2p (fun i ρ => (List.range i).all ok = true ∧ I ρ) (Scan I t ((List.range (hi - lo).toNat).all ok)) hx hy hs hs2 h1 h2 ⟨rfl, h0⟩ ?_ ?_
  · rintro i ρ hi ⟨ha, hI⟩
    rcases h i ρ hi hI with ⟨hb, ρ', e, hI'⟩ | ⟨hb, ρ', e⟩
    · rw [e]
      exact ⟨all_more ha hb, hI'⟩
    · rw [e]
      exact .inr ⟨all_no hi hb, ρ', rfl⟩
  · rintro ρ ⟨ha, hI⟩
    exact .inl ⟨ha, ρ, rfl, hI⟩
theorem scan_lm {α : Type} (ok : α → Bool) {x : Opd} {k : Bool} {rs : List α} {g : α → D} {d : D} (hx : (ev2 Φ e).1 ρ = .ok x ρ1) (hs : x.see ρ1 = some d) (hd : seqD d = some (k, rs.map g)) (hf1 : (opdSrc x (k, rs.map g)).free (s :: bd.sets) = true) (h0 : I ρ1)
    (ht : ∀ ρ, I ρ → x.see ρ = some d)
    (h : ∀ r ρ, r ∈ rs → I ρ → Scan I t (ok r) (exSs Φ bd (ρ.set s (some (.fz (g r)))))) : Scan I t (rs.all ok) (exS Φ (.for_ (.one s) (.opd e) bd) ρ) := by
  refine for_lm (fun i ρ => (rs.take i).all ok = true ∧ I ρ) (Scan I t (rs.all ok)) hx hs hd hf1 ⟨rfl, h0⟩ (fun i ρ q => ht ρ q.2) ?_ ?_
  · rintro i r ρ hr ⟨ha, hI⟩
    rcases h r ρ (List.mem_of_getElem? hr) hI with ⟨hb, ρ', e, hI'⟩ | ⟨hb, ρ', e⟩
    · rw [e]
      refine ⟨?_, hI'⟩
      rw [List.take_add_one, hr, List.all_append, ha]
      simp [hb]
    · rw [e]
      exact .inr ⟨List.all_eq_false.mpr ⟨r, List.mem_of_getElem? hr, by rw [hb]; exact Bool.false_ne_true⟩, ρ', rfl⟩
  · rintro ρ ⟨ha, hI⟩
    rw [List.take_of_length_le (Nat.le_refl _)] at ha
    exact .inl ⟨ha, ρ, rfl, hI⟩
/-- a loop that gave the first found thing, or went through -/
def First (I J : Rho → Prop) (o : Option T) (r : R Fl) : Prop := (o = none ∧ ∃ ρ, r = .ok .nx ρ ∧ I ρ) ∨ (∃ t, o = some t ∧ ∃ ρ, r = .ok (.rt t) ρ ∧ J ρ)
theorem fs_succ {i : Nat} {g : Nat → Option T} (ha : (List.range i).findSome? g = none) : (List.range (i + 1)).findSome? g = g i := by
  rw [List.range_succ, List.findSome?_append, ha]
  show (List.findSome? g [i]) = g i
  rw [List.findSome?_cons]
  cases g i <;> rfl
theorem fs_at {n i : Nat} {g : Nat → Option T} {t : T} (hi : i < n) (ha : (List.range i).findSome? g = none) (h : g i = some t) : (List.range n).findSome? g = some t := by
  have split : List.range n = List.range (i + 1) ++ (List.range (n - (i + 1))).map (i + 1 + ·) := by
    rw [← List.range_add]
    congr 1
    omega
  rw [split, List.findSome?_append, fs_succ ha, h]
  rfl
theorem first_r1 {J : Rho → Prop} (g : Nat → Option T) {x : Opd} {n : Nat} (hx : (ev2 Φ a).1 ρ = .ok x ρ1) (hs : x.see ρ1 = some (.int n)) (hz : n ≤ 16777216) (h0 : I ρ1)
    (h : ∀ i ρ, i < n → I ρ → First I J (g i) (exSs Φ bd (ρ.set s (some (.fz (.int i)))))) : First I J ((List.range n).findSome? g) (exS Φ (.for_ (.one s) (.rng1 a) bd) ρ) := by
  refine for_r1p (fun i ρ => (List.range i).findSome? g = none ∧ I ρ) (First I J ((List.range n).findSome? g)) hx hs hz ⟨rfl, h0⟩ ?_ ?_
  · rintro i ρ hi ⟨ha, hI⟩
    rcases h i ρ hi hI with ⟨hb, ρ', e, hI'⟩ | ⟨t, hb, ρ', e, hJ⟩
    · rw [e]
      exact ⟨by rw [fs_succ ha, hb], hI'⟩
    · rw [e]
      exact .inr ⟨t, fs_at hi ha hb, ρ', rfl, hJ⟩
  · rintro ρ ⟨ha, hI⟩
    exact .inl ⟨ha, ρ, rfl, hI⟩
theorem first_r2 {J : Rho → Prop} (g : Nat → Option T) {x y : Opd} {lo hi : Int} (hx : (ev2 Φ a).1 ρ = .ok x ρ1) (hy : (ev2 Φ b).1 ρ1 = .ok y ρ2) (hs : x.see ρ2 = some (.int lo)) (hs2 : y.see ρ2 = some (.int hi)) (h1 : -100000 ≤ lo ∧ lo ≤ 100000) (h2 : -100000 ≤ hi ∧ hi ≤ 100000) (h0 : I ρ2)
    (h : ∀ i ρ, i < (hi - lo).toNat → I ρ → First I J (g i) (exSs Φ bd (ρ.set s (some (.fz (.int (lo + i))))))) : First I J ((List.range (hi - lo).toNat).findSome? g) (exS Φ (.for_ (.one s) (.rng2 a b) bd) ρ) := by
  refine for_r2p (fun i ρ => (List.range i).findSome? g = none ∧ I ρ) (First I J ((List.range (hi - lo).toNat).findSome? g)) hx hy hs hs2 h1 h2 ⟨rfl, h0⟩ ?_ ?_
  · rintro i ρ hi ⟨ha, hI⟩
    rcases h i ρ hi hI with ⟨hb, ρ', e, hI'⟩ | ⟨t, hb, ρ', e, hJ⟩
    · rw [e]
      exact ⟨by rw [fs_succ ha, hb], hI'⟩
    · rw [e]
      exact .inr ⟨t, fs_at hi ha hb, ρ', rfl, hJ⟩
  · rintro ρ ⟨ha, hI⟩
    exact .inl ⟨ha, ρ, rfl, hI⟩
end
end L2.Eng

namespace L2.Eng.K58
open PySem PySem.Spec PyProof.Rows L2.Eng
abbrev top (i : Nat) : Stmt := PySem.Challenge.pw_heraldboughs_k58_whole_mistakes_that_sho.main.body.getD i (.Pass ⟨0, 0, 0, 0⟩)
def f_is_number : Fn := ⟨"is_number", ["value", "least", "most"], 3, [(.int 0), (.int 1000000)], 7,
    (.cons (.ifS (.or_ (.isi (.nm 0) [.bool]) (.not_ (.isi (.nm 0) [.int]))) (.cons (.ret (.bl false))
    .nil) .nil)
    (.cons (.ret (.chn .LtE .LtE (.nm 1) (.nm 0) (.nm 2)))
    .nil))⟩
def f_checked_rule : Fn := ⟨"checked_rule", ["weights", "base", "weight"], 2, [], 10,
    (.cons (.ifS (.cmp .Gt (.bi .len (.cons (.nm 0) .nil)) (.glb "FIGURES" (.int 30))) (.cons (.raise "TooMany" (.str "places"))
    .nil) .nil)
    (.cons (.ifS (.not_ (.call "is_number" (.cons (.nm 1) (.cons (.int 2) (.cons (.int 100) .nil))) [])) (.cons (.raise "InvalidNumber" (.str "base"))
    .nil) .nil)
    (.cons (.ifS (.or_ (.not_ (.nm 0)) (.lc (.one 2) [2] (.opd (.nm 0)) (.some (.not_ (.call "is_number" (.cons (.nm 2) (.cons (.int 0) (.cons (.bin .Sub (.nm 1) (.int 1)) .nil))) []))) (.nm 2))) (.cons (.raise "InvalidPaper" (.str "no weights"))
    .nil) .nil)
    (.cons (.ret (.tup (.cons (.bi .list (.cons (.nm 0) .nil)) (.cons (.nm 1) .nil))))
    .nil))))⟩
def f_common : Fn := ⟨"common", ["one", "other"], 2, [], 11,
    (.cons (.whl (.cmp .Gt (.nm 1) (.int 0)) (.cons (.par 0 1 (.nm 1) (.bin .Mod (.nm 0) (.nm 1)))
    .nil))
    (.cons (.ret (.nm 0))
    .nil))⟩
def f_shows_wrong : Fn := ⟨"shows_wrong", ["weights", "base", "rows", "weight"], 2, [], 12,
    (.cons (.setF 2 (.idx (.call "checked_rule" (.cons (.nm 0) (.cons (.nm 1) .nil)) []) (.int 0)))
    (.cons (.ret (.not_ (.lc (.one 3) [3] (.opd (.nm 2)) (.some (.cmp .NotEq (.call "common" (.cons (.nm 3) (.cons (.nm 1) .nil)) []) (.int 1))) (.nm 3))))
    .nil))⟩
def f_shows_exchanged : Fn := ⟨"shows_exchanged", ["weights", "base", "rows", "at"], 2, [], 13,
    (.cons (.setF 2 (.idx (.call "checked_rule" (.cons (.nm 0) (.cons (.nm 1) .nil)) []) (.int 0)))
    (.cons (.ret (.not_ (.lc (.one 3) [3] (.rng2 (.int 1) (.bi .len (.cons (.nm 2) .nil))) (.some (.cmp .NotEq (.call "common" (.cons (.bi .abs (.cons (.bin .Sub (.idx (.nm 2) (.nm 3)) (.idx (.nm 2) (.bin .Sub (.nm 3) (.int 1)))) .nil)) (.cons (.nm 1) .nil)) []) (.int 1))) (.nm 3))))
    .nil))⟩
def f_hidden_wrong : Fn := ⟨"hidden_wrong", ["weights", "base", "rows", "at", "part"], 2, [], 14,
    (.cons (.setF 2 (.idx (.call "checked_rule" (.cons (.nm 0) (.cons (.nm 1) .nil)) []) (.int 0)))
    (.cons (.for_ (.one 3) (.rng1 (.bi .len (.cons (.nm 2) .nil))) (.cons (.setF 4 (.call "common" (.cons (.idx (.nm 2) (.nm 3)) (.cons (.nm 1) .nil)) []))
    (.cons (.ifS (.cmp .NotEq (.nm 4) (.int 1)) (.cons (.ret (.tup (.cons (.nm 3) (.cons (.bin .FloorDiv (.nm 1) (.nm 4)) .nil))))
    .nil) .nil)
    .nil)))
    (.cons (.ret .non)
    .nil)))⟩
def f_hidden_exchange : Fn := ⟨"hidden_exchange", ["weights", "base", "rows", "at", "part"], 2, [], 15,
    (.cons (.setF 2 (.idx (.call "checked_rule" (.cons (.nm 0) (.cons (.nm 1) .nil)) []) (.int 0)))
    (.cons (.for_ (.one 3) (.rng2 (.int 1) (.bi .len (.cons (.nm 2) .nil))) (.cons (.setF 4 (.call "common" (.cons (.bi .abs (.cons (.bin .Sub (.idx (.nm 2) (.nm 3)) (.idx (.nm 2) (.bin .Sub (.nm 3) (.int 1)))) .nil)) (.cons (.nm 1) .nil)) []))
    (.cons (.ifS (.cmp .NotEq (.nm 4) (.int 1)) (.cons (.ret (.tup (.cons (.bin .Sub (.nm 3) (.int 1)) (.cons (.bin .FloorDiv (.nm 1) (.nm 4)) .nil))))
    .nil) .nil)
    .nil)))
    (.cons (.ret .non)
    .nil)))⟩
def f_judge_wrong : Fn := ⟨"judge_wrong", ["weights", "base", "place", "by", "rows"], 4, [], 16,
    (.cons (.setF 4 (.idx (.call "checked_rule" (.cons (.nm 0) (.cons (.nm 1) .nil)) []) (.int 0)))
    (.cons (.ifS (.or_ (.not_ (.call "is_number" (.cons (.nm 2) (.cons (.int 0) (.cons (.bin .Sub (.bi .len (.cons (.nm 4) .nil)) (.int 1)) .nil))) [])) (.not_ (.call "is_number" (.cons (.nm 3) (.cons (.int 1) (.cons (.bin .Sub (.nm 1) (.int 1)) .nil))) []))) (.cons (.ret (.bl false))
    .nil) .nil)
    (.cons (.ret (.cmp .Eq (.bin .Mod (.bin .Mult (.nm 3) (.idx (.nm 4) (.nm 2))) (.nm 1)) (.int 0)))
    .nil)))⟩
def f_judge_exchange : Fn := ⟨"judge_exchange", ["weights", "base", "place", "by", "rows"], 4, [], 17,
    (.cons (.setF 4 (.idx (.call "checked_rule" (.cons (.nm 0) (.cons (.nm 1) .nil)) []) (.int 0)))
    (.cons (.ifS (.or_ (.not_ (.call "is_number" (.cons (.nm 2) (.cons (.int 0) (.cons (.bin .Sub (.bi .len (.cons (.nm 4) .nil)) (.int 2)) .nil))) [])) (.not_ (.call "is_number" (.cons (.nm 3) (.cons (.int 1) (.cons (.bin .Sub (.nm 1) (.int 1)) .nil))) []))) (.cons (.ret (.bl false))
    .nil) .nil)
    (.cons (.ret (.cmp .Eq (.bin .Mod (.bin .Mult (.nm 3) (.bi .abs (.cons (.bin .Sub (.idx (.nm 4) (.nm 2)) (.idx (.nm 4) (.bin .Add (.nm 2) (.int 1)))) .nil))) (.nm 1)) (.int 0)))
    .nil)))⟩
def f_best_weights : Fn := ⟨"best_weights", ["many", "base", "weight", "at"], 2, [], 18,
    (.cons (.ifS (.or_ (.not_ (.call "is_number" (.cons (.nm 0) (.cons (.int 1) (.cons (.glb "FIGURES" (.int 30)) .nil))) [])) (.not_ (.call "is_number" (.cons (.nm 1) (.cons (.int 2) (.cons (.int 100) .nil))) []))) (.cons (.raise "InvalidNumber" (.str "places or base"))
    .nil) .nil)
    (.cons (.ifS (.cmp .Eq (.nm 0) (.int 1)) (.cons (.ret (.lst (.cons (.int 1) .nil)))
    .nil) .nil)
    (.cons (.for_ (.one 2) (.rng2 (.int 2) (.nm 1)) (.cons (.ifS (.and_ (.cmp .Eq (.call "common" (.cons (.nm 2) (.cons (.nm 1) .nil)) []) (.int 1)) (.cmp .Eq (.call "common" (.cons (.bin .Sub (.nm 2) (.int 1)) (.cons (.nm 1) .nil)) []) (.int 1))) (.cons (.ret (.lc (.one 3) [3] (.rng1 (.nm 0)) .none (.ite (.cmp .Eq (.bin .Mod (.nm 3) (.int 2)) (.int 0)) (.int 1) (.nm 2))))
    .nil) .nil)
    .nil))
    (.cons (.ret .non)
    .nil))))⟩
def f__law_same : Fn := ⟨"_law_same", ["actual", "due", "k"], 2, [], 20,
    (.cons (.ifS (.cmp .Is (.nm 1) .non) (.cons (.ret (.cmp .Is (.nm 0) .non))
    .nil) .nil)
    (.cons (.ifS (.isi (.nm 1) [.tuple, .list]) (.cons (.ifS (.or_ (.cmp .NotEq (.isi (.nm 1) [.tuple]) (.isi (.nm 0) [.tuple])) (.cmp .NotEq (.isi (.nm 1) [.list]) (.isi (.nm 0) [.list]))) (.cons (.ret (.bl false))
    .nil) .nil)
    (.cons (.ifS (.cmp .NotEq (.bi .len (.cons (.nm 0) .nil)) (.bi .len (.cons (.nm 1) .nil))) (.cons (.ret (.bl false))
    .nil) .nil)
    (.cons (.for_ (.one 2) (.rng1 (.bi .len (.cons (.nm 1) .nil))) (.cons (.ifS (.not_ (.call "_law_same" (.cons (.idx (.nm 0) (.nm 2)) (.cons (.idx (.nm 1) (.nm 2)) .nil)) [])) (.cons (.ret (.bl false))
    .nil) .nil)
    .nil))
    (.cons (.ret (.bl true))
    .nil)))) .nil)
    (.cons (.ifS (.isi (.nm 1) [.bool]) (.cons (.ret (.and_ (.isi (.nm 0) [.bool]) (.cmp .Eq (.nm 0) (.nm 1))))
    .nil) .nil)
    (.cons (.ifS (.isi (.nm 1) [.int]) (.cons (.ret (.and_ (.isi (.nm 0) [.int]) (.and_ (.not_ (.isi (.nm 0) [.bool])) (.cmp .Eq (.nm 0) (.nm 1)))))
    .nil) .nil)
    (.cons (.ret (.and_ (.isi (.nm 0) [.str]) (.cmp .Eq (.nm 0) (.nm 1))))
    .nil)))))⟩
def f__law_pool : Fn := ⟨"_law_pool", ["script"], 1, [], 21,
    (.cons (.ret (.lst (.cons (.bi .list (.cons (.nm 0) .nil)) (.cons (.int 0) (.cons (.int 0) (.cons (.int 0) (.cons (.int 0) .nil)))))))
    .nil)⟩
def f__law_draw : Fn := ⟨"_law_draw", ["pool", "many", "mixed", "found", "cell"], 2, [], 22,
    (.cons (.ifS (.cmp .Gt (.idx (.nm 0) (.int 2)) (.int 0)) (.cons (.setF 3 (.bin .Mod (.bi .int (.cons (.idx (.nm 0) (.int 2)) .nil)) (.nm 1)))
    (.cons (.sub 0 (.int 2) (.bin .FloorDiv (.idx (.nm 0) (.int 2)) (.nm 1)))
    (.cons (.ret (.mv 3))
    .nil))) .nil)
    (.cons (.ifS (.and_ (.cmp .Eq (.bin .Mod (.bi .int (.cons (.idx (.nm 0) (.int 4)) .nil)) (.int 8)) (.int 0)) (.cmp .Lt (.idx (.nm 0) (.int 1)) (.bi .len (.cons (.idx (.nm 0) (.int 0)) .nil)))) (.cons (.setF 4 (.bi .abs (.cons (.idx (.idx (.nm 0) (.int 0)) (.idx (.nm 0) (.int 1))) .nil)))
    (.cons (.sub 0 (.int 1) (.bin .Add (.idx (.nm 0) (.int 1)) (.int 1)))
    (.cons (.ifS (.cmp .GtE (.nm 4) (.bin .Pow (.int 10) (.int 18))) (.cons (.sub 0 (.int 2) (.bin .FloorDiv (.nm 4) (.nm 1)))
    (.cons (.ret (.bin .Mod (.bi .int (.cons (.nm 4) .nil)) (.nm 1)))
    .nil)) .nil)
    (.cons (.sub 0 (.int 3) (.nm 4))
    .nil)))) .nil)
    (.cons (.sub 0 (.int 4) (.bin .Add (.idx (.nm 0) (.int 4)) (.int 1)))
    (.cons (.setF 2 (.bin .Mod (.bi .int (.cons (.bin .Add (.bin .Add (.bin .Mult (.idx (.nm 0) (.int 3)) (.int 48271)) (.bin .Mult (.idx (.nm 0) (.int 4)) (.int 69621))) (.int 7919)) .nil)) (.int 2147483647)))
    (.cons (.setF 2 (.bin .Mod (.bi .int (.cons (.bin .Add (.bin .Mult (.nm 2) (.nm 2)) (.bin .Mult (.idx (.nm 0) (.int 4)) (.int 40692))) .nil)) (.int 2147483399)))
    (.cons (.ret (.bin .Mod (.bi .int (.cons (.nm 2) .nil)) (.nm 1)))
    .nil))))))⟩
def f__law_pick : Fn := ⟨"_law_pick", ["pool", "rows"], 2, [], 23,
    (.cons (.ret (.idx (.nm 1) (.call "_law_draw" (.cons (.nm 0) (.cons (.bi .len (.cons (.nm 1) .nil)) .nil)) [])))
    .nil)⟩
def f__law_rule : Fn := ⟨"_law_rule", ["pool", "most", "wide", "base", "k"], 3, [], 25,
    (.cons (.setF 3 (.bin .Add (.int 2) (.call "_law_draw" (.cons (.nm 0) (.cons (.nm 2) .nil)) [])))
    (.cons (.ret (.lst (.cons (.lc (.one 4) [4] (.rng1 (.bin .Add (.int 1) (.call "_law_draw" (.cons (.nm 0) (.cons (.nm 1) .nil)) []))) .none (.call "_law_draw" (.cons (.nm 0) (.cons (.nm 3) .nil)) [])) (.cons (.nm 3) .nil))))
    .nil))⟩
def f__law_rest : Fn := ⟨"_law_rest", ["figures", "weights", "base", "k"], 3, [], 26,
    (.cons (.ret (.bin .Mod (.bi .int (.cons (.bi .sum (.cons (.lc (.one 3) [3] (.rng1 (.bi .len (.cons (.nm 1) .nil))) .none (.bin .Mult (.idx (.nm 0) (.nm 3)) (.idx (.nm 1) (.nm 3)))) .nil)) .nil)) (.nm 2)))
    .nil)⟩
def f__law_tallies : Fn := ⟨"_law_tallies", ["many", "base", "found", "k", "longer", "row", "figure"], 2, [], 27,
    (.cons (.setF 2 (.lst (.cons (.lst .nil) .nil)))
    (.cons (.for_ (.one 3) (.rng1 (.nm 0)) (.cons (.set 4 (.lst .nil))
    (.cons (.for_ (.one 5) (.opd (.nm 2)) (.cons (.expr (.mu .extend 4 (.cons (.lc (.one 6) [6] (.rng1 (.nm 1)) .none (.bin .Add (.nm 5) (.lst (.cons (.nm 6) .nil)))) .nil)))
    .nil))
    (.cons (.setF 2 (.nm 4))
    .nil))))
    (.cons (.ret (.mv 2))
    .nil)))⟩
def f__law_swapped : Fn := ⟨"_law_swapped", ["row", "at"], 2, [], 28,
    (.cons (.ret (.bin .Add (.bin .Add (.slc (.nm 0) .none (.some (.nm 1))) (.lst (.cons (.idx (.nm 0) (.bin .Add (.nm 1) (.int 1))) (.cons (.idx (.nm 0) (.nm 1)) .nil)))) (.slc (.nm 0) (.some (.bin .Add (.nm 1) (.int 2))) .none)))
    .nil)⟩
def f__law_wrong : Fn := ⟨"_law_wrong", ["weights", "base", "row", "left", "at", "figure"], 2, [], 29,
    (.cons (.for_ (.one 2) (.opd (.call "_law_tallies" (.cons (.bi .len (.cons (.nm 0) .nil)) (.cons (.nm 1) .nil)) [])) (.cons (.setF 3 (.call "_law_rest" (.cons (.nm 2) (.cons (.nm 0) (.cons (.nm 1) .nil))) []))
    (.cons (.for_ (.one 4) (.rng1 (.bi .len (.cons (.nm 2) .nil))) (.cons (.for_ (.one 5) (.rng1 (.nm 1)) (.cons (.ifS (.and_ (.cmp .NotEq (.nm 5) (.idx (.nm 2) (.nm 4))) (.cmp .Eq (.call "_law_rest" (.cons (.bin .Add (.bin .Add (.slc (.nm 2) .none (.some (.nm 4))) (.lst (.cons (.nm 5) .nil))) (.slc (.nm 2) (.some (.bin .Add (.nm 4) (.int 1))) .none)) (.cons (.nm 0) (.cons (.nm 1) .nil))) []) (.nm 3))) (.cons (.ret (.bl false))
    .nil) .nil)
    .nil))
    .nil))
    .nil)))
    (.cons (.ret (.bl true))
    .nil))⟩
def f__law_exchanged : Fn := ⟨"_law_exchanged", ["weights", "base", "row", "at"], 2, [], 30,
    (.cons (.for_ (.one 2) (.opd (.call "_law_tallies" (.cons (.bi .len (.cons (.nm 0) .nil)) (.cons (.nm 1) .nil)) [])) (.cons (.for_ (.one 3) (.rng1 (.bin .Sub (.bi .len (.cons (.nm 2) .nil)) (.int 1))) (.cons (.ifS (.and_ (.cmp .NotEq (.idx (.nm 2) (.nm 3)) (.idx (.nm 2) (.bin .Add (.nm 3) (.int 1)))) (.cmp .Eq (.call "_law_rest" (.cons (.call "_law_swapped" (.cons (.nm 2) (.cons (.nm 3) .nil)) []) (.cons (.nm 0) (.cons (.nm 1) .nil))) []) (.call "_law_rest" (.cons (.nm 2) (.cons (.nm 0) (.cons (.nm 1) .nil))) []))) (.cons (.ret (.bl false))
    .nil) .nil)
    .nil))
    .nil))
    (.cons (.ret (.bl true))
    .nil))⟩
def f__law_first : Fn := ⟨"_law_first", ["factors", "base", "at", "rows", "by"], 2, [], 31,
    (.cons (.for_ (.one 2) (.rng1 (.bi .len (.cons (.nm 0) .nil))) (.cons (.setF 3 (.lc (.one 4) [4] (.rng2 (.int 1) (.nm 1)) (.some (.cmp .Eq (.bin .Mod (.bi .int (.cons (.bin .Mult (.nm 4) (.idx (.nm 0) (.nm 2))) .nil)) (.nm 1)) (.int 0))) (.nm 4)))
    (.cons (.ifS (.cmp .Gt (.bi .len (.cons (.nm 3) .nil)) (.int 0)) (.cons (.ret (.tup (.cons (.nm 2) (.cons (.idx (.nm 3) (.int 0)) .nil))))
    .nil) .nil)
    .nil)))
    (.cons (.ret .non)
    .nil))⟩
def f__law_refused : Fn := ⟨"_law_refused", ["choice", "one", "two", "problem"], 3, [], 32,
    (.cons (.tryC (.cons (.ifS (.cmp .Eq (.nm 0) (.int 0)) (.cons (.expr (.call "checked_rule" (.cons (.nm 1) (.cons (.nm 2) .nil)) []))
    .nil) (.cons (.expr (.call "best_weights" (.cons (.nm 1) (.cons (.nm 2) .nil)) []))
    .nil))
    .nil) "HeraldError" 3 "_law_refusal")
    (.cons (.ret (.str "none"))
    .nil))⟩
def f_law : Fn := ⟨"law", ["script", "pool", "weights", "base", "wrong", "changed", "steps", "fair", "turn", "many", "told", "good", "row", "one", "other", "parts", "at", "k", "by", "part", "fit"], 1, [], 33,
    (.cons (.set 1 (.call "_law_pool" (.cons (.nm 0) .nil) []))
    (.cons (.setT [2, 3] (.call "_law_rule" (.cons (.nm 1) (.cons (.int 3) (.cons (.int 4) .nil))) []))
    (.cons (.setF 4 (.call "_law_wrong" (.cons (.nm 2) (.cons (.nm 3) .nil)) []))
    (.cons (.setF 5 (.call "_law_exchanged" (.cons (.nm 2) (.cons (.nm 3) .nil)) []))
    (.cons (.ifS (.or_ (.not_ (.call "_law_same" (.cons (.call "shows_wrong" (.cons (.nm 2) (.cons (.nm 3) .nil)) []) (.cons (.nm 4) .nil)) [])) (.not_ (.call "_law_same" (.cons (.call "checked_rule" (.cons (.nm 2) (.cons (.nm 3) .nil)) []) (.cons (.tup (.cons (.nm 2) (.cons (.nm 3) .nil))) .nil)) []))) (.cons (.ret (.bl false))
    .nil) .nil)
    (.cons (.setF 6 (.lc (.one 17) [17] (.rng1 (.bin .Sub (.bi .len (.cons (.nm 2) .nil)) (.int 1))) .none (.bi .abs (.cons (.bin .Sub (.idx (.nm 2) (.bin .Add (.nm 17) (.int 1))) (.idx (.nm 2) (.nm 17))) .nil))))
    (.cons (.setF 7 (.cmp .Is (.call "_law_first" (.cons (.nm 6) (.cons (.nm 3) .nil)) []) .non))
    (.cons (.ifS (.or_ (.not_ (.call "_law_same" (.cons (.call "shows_exchanged" (.cons (.nm 2) (.cons (.nm 3) .nil)) []) (.cons (.nm 7) .nil)) [])) (.or_ (.cmp .NotEq (.nm 5) (.nm 7)) (.cmp .NotEq (.nm 4) (.cmp .Is (.call "_law_first" (.cons (.nm 2) (.cons (.nm 3) .nil)) []) .non)))) (.cons (.ret (.bl false))
    .nil) .nil)
    (.cons (.for_ (.one 8) (.rng1 (.int 2)) (.cons (.ifS (.cmp .Eq (.nm 8) (.int 1)) (.cons (.setT [2, 3] (.call "_law_rule" (.cons (.nm 1) (.cons (.int 8) (.cons (.int 30) .nil))) []))
    (.cons (.setF 6 (.lc (.one 17) [17] (.rng1 (.bin .Sub (.bi .len (.cons (.nm 2) .nil)) (.int 1))) .none (.bi .abs (.cons (.bin .Sub (.idx (.nm 2) (.bin .Add (.nm 17) (.int 1))) (.idx (.nm 2) (.nm 17))) .nil))))
    .nil)) .nil)
    (.cons (.ifS (.or_ (.not_ (.call "_law_same" (.cons (.call "hidden_wrong" (.cons (.nm 2) (.cons (.nm 3) .nil)) []) (.cons (.call "_law_first" (.cons (.nm 2) (.cons (.nm 3) .nil)) []) .nil)) [])) (.not_ (.call "_law_same" (.cons (.call "hidden_exchange" (.cons (.nm 2) (.cons (.nm 3) .nil)) []) (.cons (.call "_law_first" (.cons (.nm 6) (.cons (.nm 3) .nil)) []) .nil)) []))) (.cons (.ret (.bl false))
    .nil) .nil)
    (.cons (.ifS (.not_ (.call "_law_same" (.cons (.call "shows_wrong" (.cons (.nm 2) (.cons (.nm 3) .nil)) []) (.cons (.cmp .Is (.call "_law_first" (.cons (.nm 2) (.cons (.nm 3) .nil)) []) .non) .nil)) [])) (.cons (.ret (.bl false))
    .nil) .nil)
    (.cons (.for_ (.one 16) (.rng2 (.neg (.int 1)) (.bin .Add (.bi .len (.cons (.nm 2) .nil)) (.int 1))) (.cons (.for_ (.one 18) (.opd (.lst (.cons (.int 0) (.cons (.int 1) (.cons (.bin .Sub (.nm 3) (.int 1)) (.cons (.nm 3) (.cons (.call "_law_draw" (.cons (.nm 1) (.cons (.nm 3) .nil)) []) .nil))))))) (.cons (.setF 20 (.and_ (.chn .LtE .Lt (.int 0) (.nm 16) (.bi .len (.cons (.nm 2) .nil))) (.and_ (.chn .LtE .Lt (.int 1) (.nm 18) (.nm 3)) (.cmp .Eq (.bin .Mod (.bi .int (.cons (.bin .Mult (.nm 18) (.idx (.nm 2) (.nm 16))) .nil)) (.nm 3)) (.int 0)))))
    (.cons (.ifS (.not_ (.call "_law_same" (.cons (.call "judge_wrong" (.cons (.nm 2) (.cons (.nm 3) (.cons (.nm 16) (.cons (.nm 18) .nil)))) []) (.cons (.nm 20) .nil)) [])) (.cons (.ret (.bl false))
    .nil) .nil)
    (.cons (.setF 20 (.and_ (.chn .LtE .Lt (.int 0) (.nm 16) (.bi .len (.cons (.nm 6) .nil))) (.and_ (.chn .LtE .Lt (.int 1) (.nm 18) (.nm 3)) (.cmp .Eq (.bin .Mod (.bi .int (.cons (.bin .Mult (.nm 18) (.idx (.nm 6) (.nm 16))) .nil)) (.nm 3)) (.int 0)))))
    (.cons (.ifS (.not_ (.call "_law_same" (.cons (.call "judge_exchange" (.cons (.nm 2) (.cons (.nm 3) (.cons (.nm 16) (.cons (.nm 18) .nil)))) []) (.cons (.nm 20) .nil)) [])) (.cons (.ret (.bl false))
    .nil) .nil)
    .nil)))))
    .nil))
    .nil)))))
    (.cons (.setF 9 (.bin .Add (.int 1) (.call "_law_draw" (.cons (.nm 1) (.cons (.int 3) .nil)) [])))
    (.cons (.setF 3 (.bin .Add (.int 2) (.call "_law_draw" (.cons (.nm 1) (.cons (.int 8) .nil)) [])))
    (.cons (.setF 10 (.call "best_weights" (.cons (.nm 9) (.cons (.nm 3) .nil)) []))
    (.cons (.set 11 (.lst .nil))
    (.cons (.for_ (.one 12) (.opd (.call "_law_tallies" (.cons (.nm 9) (.cons (.nm 3) .nil)) [])) (.cons (.ifS (.and_ (.cmp .Is (.call "_law_first" (.cons (.nm 12) (.cons (.nm 3) .nil)) []) .non) (.cmp .Is (.call "_law_first" (.cons (.lc (.one 17) [17] (.rng1 (.bin .Sub (.nm 9) (.int 1))) .none (.bi .abs (.cons (.bin .Sub (.idx (.nm 12) (.bin .Add (.nm 17) (.int 1))) (.idx (.nm 12) (.nm 17))) .nil))) (.cons (.nm 3) .nil)) []) .non)) (.cons (.expr (.mu .append 11 (.cons (.nm 12) .nil)))
    .nil) .nil)
    .nil))
    (.cons (.ifS (.or_ (.cmp .NotEq (.cmp .Is (.nm 10) .non) (.cmp .Eq (.bi .len (.cons (.nm 11) .nil)) (.int 0))) (.and_ (.cmp .IsNot (.nm 10) .non) (.cmp .NotIn (.nm 10) (.nm 11)))) (.cons (.ret (.bl false))
    .nil) .nil)
    (.cons (.setF 13 (.call "_law_draw" (.cons (.nm 1) (.cons (.int 60) .nil)) []))
    (.cons (.setF 14 (.call "_law_draw" (.cons (.nm 1) (.cons (.int 60) .nil)) []))
    (.cons (.setF 15 (.lc (.one 19) [19] (.rng2 (.int 1) (.int 60)) (.some (.and_ (.cmp .Eq (.bin .Mod (.bi .int (.cons (.nm 13) .nil)) (.nm 19)) (.int 0)) (.cmp .Eq (.bin .Mod (.bi .int (.cons (.nm 14) .nil)) (.nm 19)) (.int 0)))) (.nm 19)))
    (.cons (.ifS (.and_ (.cmp .Gt (.bin .Add (.nm 13) (.nm 14)) (.int 0)) (.not_ (.call "_law_same" (.cons (.call "common" (.cons (.nm 13) (.cons (.nm 14) .nil)) []) (.cons (.bi .maxL (.cons (.nm 15) .nil)) .nil)) []))) (.cons (.ret (.bl false))
    .nil) .nil)
    (.cons (.ifS (.or_ (.cmp .NotEq (.call "_law_refused" (.cons (.int 0) (.cons (.lst .nil) (.cons (.int 10) .nil))) []) (.str "paper")) (.cmp .NotEq (.call "_law_refused" (.cons (.int 0) (.cons (.lst (.cons (.int 1) (.cons (.call "_law_pick" (.cons (.nm 1) (.cons (.lst (.cons (.int 10) (.cons (.neg (.int 1)) (.cons (.bl true) .nil)))) .nil)) []) .nil))) (.cons (.int 10) .nil))) []) (.str "paper"))) (.cons (.ret (.bl false))
    .nil) .nil)
    (.cons (.ifS (.or_ (.cmp .NotEq (.call "_law_refused" (.cons (.int 0) (.cons (.lst (.cons (.int 1) .nil)) (.cons (.call "_law_pick" (.cons (.nm 1) (.cons (.lst (.cons (.int 1) (.cons (.int 101) (.cons (.bl true) .nil)))) .nil)) []) .nil))) []) (.str "number")) (.cmp .NotEq (.call "_law_refused" (.cons (.int 0) (.cons (.lc (.one 17) [17] (.rng1 (.int 31)) .none (.int 1)) (.cons (.int 10) .nil))) []) (.str "many"))) (.cons (.ret (.bl false))
    .nil) .nil)
    (.cons (.ret (.and_ (.cmp .Eq (.call "_law_refused" (.cons (.int 1) (.cons (.call "_law_pick" (.cons (.nm 1) (.cons (.lst (.cons (.int 0) (.cons (.int 31) (.cons (.bl true) .nil)))) .nil)) []) (.cons (.int 10) .nil))) []) (.str "number")) (.cmp .Eq (.call "_law_refused" (.cons (.int 1) (.cons (.int 3) (.cons (.call "_law_pick" (.cons (.nm 1) (.cons (.lst (.cons (.int 1) (.cons (.int 101) (.cons (.bl true) .nil)))) .nil)) []) .nil))) []) (.str "number"))))
    .nil))))))))))))))))))))))⟩
def fs : List Fn := [f_is_number, f_checked_rule, f_common, f_shows_wrong, f_shows_exchanged, f_hidden_wrong, f_hidden_exchange, f_judge_wrong, f_judge_exchange, f_best_weights, f__law_same, f__law_pool, f__law_draw, f__law_pick, f__law_rule, f__law_rest, f__law_tallies, f__law_swapped, f__law_wrong, f__law_exchanged, f__law_first, f__law_refused, f_law]
def rcs : List Str := ["InvalidNumber", "InvalidPaper", "TooMany"]
def rzs : List Str := ["number", "paper", "many"]
def rtb : List (Str × List Bool) := [("InvalidNumber", [true, false, false]), ("InvalidPaper", [false, true, false]), ("TooMany", [false, false, true])]
def hot : Str → Str → Option D := hotOf rzs rtb
def prog : Pr := ⟨fs, [("FIGURES", (.int 30))], ["ValueError", "abs", "bool", "int", "isinstance", "len", "list", "max", "range", "str", "sum", "tuple"], ["InvalidNumber", "InvalidPaper", "TooMany"], ["HeraldError"], [("InvalidNumber", "HeraldError", true), ("InvalidPaper", "HeraldError", true), ("TooMany", "HeraldError", true)], [("_law_refusal", 24)], freeB :: rtb.map (hotB rcs)⟩
theorem ck_is_number : f_is_number.ck top prog.tb = true := by decide +kernel
theorem ck_checked_rule : f_checked_rule.ck top prog.tb = true := by decide +kernel
theorem ck_common : f_common.ck top prog.tb = true := by decide +kernel
theorem ck_shows_wrong : f_shows_wrong.ck top prog.tb = true := by decide +kernel
theorem ck_shows_exchanged : f_shows_exchanged.ck top prog.tb = true := by decide +kernel
theorem ck_hidden_wrong : f_hidden_wrong.ck top prog.tb = true := by decide +kernel
theorem ck_hidden_exchange : f_hidden_exchange.ck top prog.tb = true := by decide +kernel
theorem ck_judge_wrong : f_judge_wrong.ck top prog.tb = true := by decide +kernel
theorem ck_judge_exchange : f_judge_exchange.ck top prog.tb = true := by decide +kernel
theorem ck_best_weights : f_best_weights.ck top prog.tb = true := by decide +kernel
theorem ck__law_same : f__law_same.ck top prog.tb = true := by decide +kernel
theorem ck__law_pool : f__law_pool.ck top prog.tb = true := by decide +kernel
theorem ck__law_draw : f__law_draw.ck top prog.tb = true := by decide +kernel
theorem ck__law_pick : f__law_pick.ck top prog.tb = true := by decide +kernel
theorem ck__law_rule : f__law_rule.ck top prog.tb = true := by decide +kernel
theorem ck__law_rest : f__law_rest.ck top prog.tb = true := by decide +kernel
theorem ck__law_tallies : f__law_tallies.ck top prog.tb = true := by decide +kernel
theorem ck__law_swapped : f__law_swapped.ck top prog.tb = true := by decide +kernel
theorem ck__law_wrong : f__law_wrong.ck top prog.tb = true := by decide +kernel
theorem ck__law_exchanged : f__law_exchanged.ck top prog.tb = true := by decide +kernel
theorem ck__law_first : f__law_first.ck top prog.tb = true := by decide +kernel
theorem ck__law_refused : f__law_refused.ck top prog.tb = true := by decide +kernel
theorem ck_law : f_law.ck top prog.tb = true := by decide +kernel
theorem ck : prog.fs.all (Fn.ck top prog.tb) = true := by
  show fs.all _ = true
  simp only [fs, List.all_cons, List.all_nil, ck_is_number, ck_checked_rule, ck_common, ck_shows_wrong, ck_shows_exchanged, ck_hidden_wrong, ck_hidden_exchange, ck_judge_wrong, ck_judge_exchange, ck_best_weights, ck__law_same, ck__law_pool, ck__law_draw, ck__law_pick, ck__law_rule, ck__law_rest, ck__law_tallies, ck__law_swapped, ck__law_wrong, ck__law_exchanged, ck__law_first, ck__law_refused, ck_law, Bool.and_self]
theorem bn_is_number : f_is_number.bnd top := by
  unfold Fn.bnd
  rw [if_neg (show ¬ f_is_number.dfl = [] from fun z => nomatch z)]
  intro j hj T kV doc pm an cdv ct us its h1 h2
  match j, hj, us, its, h1, h2 with
  | 0, _, [_], [_, _], _, _ => exact ⟨_, rfl, rfl⟩
  | 1, _, [_, _], [_, _], _, _ => exact ⟨_, rfl, rfl⟩
  | 2, _, [_, _, _], [_, _], _, _ => exact ⟨_, rfl, rfl⟩
theorem bn_checked_rule : f_checked_rule.bnd top := by
  unfold Fn.bnd
  rw [if_pos (show f_checked_rule.dfl = [] from rfl)]
  exact fun _ _ _ _ _ _ us hl => match us, hl with | [_, _], _ => rfl
theorem bn_common : f_common.bnd top := by
  unfold Fn.bnd
  rw [if_pos (show f_common.dfl = [] from rfl)]
  exact fun _ _ _ _ _ _ us hl => match us, hl with | [_, _], _ => rfl
theorem bn_shows_wrong : f_shows_wrong.bnd top := by
  unfold Fn.bnd
  rw [if_pos (show f_shows_wrong.dfl = [] from rfl)]
  exact fun _ _ _ _ _ _ us hl => match us, hl with | [_, _], _ => rfl
theorem bn_shows_exchanged : f_shows_exchanged.bnd top := by
  unfold Fn.bnd
  rw [if_pos (show f_shows_exchanged.dfl = [] from rfl)]
  exact fun _ _ _ _ _ _ us hl => match us, hl with | [_, _], _ => rfl
theorem bn_hidden_wrong : f_hidden_wrong.bnd top := by
  unfold Fn.bnd
  rw [if_pos (show f_hidden_wrong.dfl = [] from rfl)]
  exact fun _ _ _ _ _ _ us hl => match us, hl with | [_, _], _ => rfl
theorem bn_hidden_exchange : f_hidden_exchange.bnd top := by
  unfold Fn.bnd
  rw [if_pos (show f_hidden_exchange.dfl = [] from rfl)]
  exact fun _ _ _ _ _ _ us hl => match us, hl with | [_, _], _ => rfl
theorem bn_judge_wrong : f_judge_wrong.bnd top := by
  unfold Fn.bnd
  rw [if_pos (show f_judge_wrong.dfl = [] from rfl)]
  exact fun _ _ _ _ _ _ us hl => match us, hl with | [_, _, _, _], _ => rfl
theorem bn_judge_exchange : f_judge_exchange.bnd top := by
  unfold Fn.bnd
  rw [if_pos (show f_judge_exchange.dfl = [] from rfl)]
  exact fun _ _ _ _ _ _ us hl => match us, hl with | [_, _, _, _], _ => rfl
theorem bn_best_weights : f_best_weights.bnd top := by
  unfold Fn.bnd
  rw [if_pos (show f_best_weights.dfl = [] from rfl)]
  exact fun _ _ _ _ _ _ us hl => match us, hl with | [_, _], _ => rfl
theorem bn__law_same : f__law_same.bnd top := by
  unfold Fn.bnd
  rw [if_pos (show f__law_same.dfl = [] from rfl)]
  exact fun _ _ _ _ _ _ us hl => match us, hl with | [_, _], _ => rfl
theorem bn__law_pool : f__law_pool.bnd top := by
  unfold Fn.bnd
  rw [if_pos (show f__law_pool.dfl = [] from rfl)]
  exact fun _ _ _ _ _ _ us hl => match us, hl with | [_], _ => rfl
theorem bn__law_draw : f__law_draw.bnd top := by
  unfold Fn.bnd
  rw [if_pos (show f__law_draw.dfl = [] from rfl)]
  exact fun _ _ _ _ _ _ us hl => match us, hl with | [_, _], _ => rfl
theorem bn__law_pick : f__law_pick.bnd top := by
  unfold Fn.bnd
  rw [if_pos (show f__law_pick.dfl = [] from rfl)]
  exact fun _ _ _ _ _ _ us hl => match us, hl with | [_, _], _ => rfl
theorem bn__law_rule : f__law_rule.bnd top := by
  unfold Fn.bnd
  rw [if_pos (show f__law_rule.dfl = [] from rfl)]
  exact fun _ _ _ _ _ _ us hl => match us, hl with | [_, _, _], _ => rfl
theorem bn__law_rest : f__law_rest.bnd top := by
  unfold Fn.bnd
  rw [if_pos (show f__law_rest.dfl = [] from rfl)]
  exact fun _ _ _ _ _ _ us hl => match us, hl with | [_, _, _], _ => rfl
theorem bn__law_tallies : f__law_tallies.bnd top := by
  unfold Fn.bnd
  rw [if_pos (show f__law_tallies.dfl = [] from rfl)]
  exact fun _ _ _ _ _ _ us hl => match us, hl with | [_, _], _ => rfl
theorem bn__law_swapped : f__law_swapped.bnd top := by
  unfold Fn.bnd
  rw [if_pos (show f__law_swapped.dfl = [] from rfl)]
  exact fun _ _ _ _ _ _ us hl => match us, hl with | [_, _], _ => rfl
theorem bn__law_wrong : f__law_wrong.bnd top := by
  unfold Fn.bnd
  rw [if_pos (show f__law_wrong.dfl = [] from rfl)]
  exact fun _ _ _ _ _ _ us hl => match us, hl with | [_, _], _ => rfl
theorem bn__law_exchanged : f__law_exchanged.bnd top := by
  unfold Fn.bnd
  rw [if_pos (show f__law_exchanged.dfl = [] from rfl)]
  exact fun _ _ _ _ _ _ us hl => match us, hl with | [_, _], _ => rfl
theorem bn__law_first : f__law_first.bnd top := by
  unfold Fn.bnd
  rw [if_pos (show f__law_first.dfl = [] from rfl)]
  exact fun _ _ _ _ _ _ us hl => match us, hl with | [_, _], _ => rfl
theorem bn__law_refused : f__law_refused.bnd top := by
  unfold Fn.bnd
  rw [if_pos (show f__law_refused.dfl = [] from rfl)]
  exact fun _ _ _ _ _ _ us hl => match us, hl with | [_, _, _], _ => rfl
theorem bn_law : f_law.bnd top := by
  unfold Fn.bnd
  rw [if_pos (show f_law.dfl = [] from rfl)]
  exact fun _ _ _ _ _ _ us hl => match us, hl with | [_], _ => rfl
theorem bnd : bndAll top prog.fs := ⟨bn_is_number, bn_checked_rule, bn_common, bn_shows_wrong, bn_shows_exchanged, bn_hidden_wrong, bn_hidden_exchange, bn_judge_wrong, bn_judge_exchange, bn_best_weights, bn__law_same, bn__law_pool, bn__law_draw, bn__law_pick, bn__law_rule, bn__law_rest, bn__law_tallies, bn__law_swapped, bn__law_wrong, bn__law_exchanged, bn__law_first, bn__law_refused, bn_law, trivial⟩
theorem hotOk {P : Program} (w : World) (K : PySem.W.Frag) (h : Heap) (mg : Str → Option Value) (pk : PK prog top K) (X : K.In h) (G : h.Ns mainGlobals mg) (base : Heap) (n : Nat) (f x : Str) (d : D) (e : hot f x = some d) :
    ∃ a fd ps cls, mg f = some (.ref a) ∧ mg x = some cls ∧ PySem.W.keepIn K (.ref a) = true ∧ Binds K fd ps [] ∧ FnX P w K mg base (n + 1) a fd ps cls d :=
  hot_fn (cs := rcs) (st := 24) (List.mem_singleton_self _) (List.mem_cons_self ..) (fun q hq => List.mem_cons_of_mem _ (List.mem_map_of_mem hq)) (by decide +kernel) (by decide +kernel) (fun _ _ _ _ _ _ us hl => match us, hl with | [_], _ => rfl) w K h mg pk X G base n f x d e
def nm0 : List Str := ["HeraldError", "InvalidNumber", "TooMany", "InvalidPaper", "GREATEST", "is_number", "FIGURES", "checked_rule", "common", "shows_wrong", "shows_exchanged", "hidden_wrong", "hidden_exchange", "judge_wrong", "judge_exchange", "best_weights", "_law_same", "_law_pool", "_law_draw", "_law_pick", "_law_refusal", "_law_rule", "_law_rest", "_law_tallies", "_law_swapped", "_law_wrong", "_law_exchanged", "_law_first", "_law_refused"]
def names : List Str := nm0
abbrev Rw : PySem.W.OpenRow := PySem.W.OpenLaw.row PySem.Challenge.rw_heraldboughs_k58_whole_mistakes_that_sho
abbrev hk : PySem.W.Hook := hookQ 5 prog (prog.dds top)
def ob (s : PySem.W.SharedT) : He.AlD := obsQG 5 prog (prog.dds top) (HandSHeadRun.getT s)
theorem ob_eq (s : PySem.W.SharedT) : ob s = hk.obs s.abs := obsQG_eq (HandSHeadRun.getT_eq s)
theorem run (w : World) : HandSHeadRun.RunEq Rw (PySem.W.view Rw.prog [33]) hk ob 6000 names w := by
  intro os
  kernel_rfl
end L2.Eng.K58

namespace L2.Eng.K58
open PySem
theorem s_is_number {B : Fx} {k : Nat} (a b c : Int) (hk : 0 < k) : (lev fs B k).call "is_number" [.fz (.int a), .fz (.int b), .fz (.int c)] = .ok (.fz (.bool (decide (b ≤ a) && decide (a ≤ c)))) [.fz (.int a), .fz (.int b), .fz (.int c)] := by
  rw [lev_call (F := f_is_number) rfl hk, run_fn rfl]
  simp -implicitDefEqProofs only [f_is_number, e_nm, e_int, e_str, e_bl, e_non, e_glb, e_bin, e_neg, e_cmp, t_cmp, chn_if, e_chn, t_chn, e_and, e_or, t_and, t_or, e_not, t_not, e_ite, e_lst, e_tup, e_idx, e_slc, e_call, e_bi, e_rl1, e_rl2, e_isi, e_me, e_mu, t_nm, t_bl, t_idx, t_call, t_bi, t_isi, t_lc, t_bin, ds_nil, ds_cons, os_nil, os_cons, oi_none, oi_some, c_none, c_some, i_op, as_nm, as_mv, x_nil, x_cons, x_set, x_setF, x_setT, x_par, x_sub, x_expr, x_ret, x_if, x_whl, x_for, x_raise, x_pass, x_brk, x_cont, x_tryC, bind_ok, bind_exc, map_ok, map_exc, of_some, bind_ite, map_ite, endR_ite, dflT, asT, asD, frz, ofB, cmpB, takeSlot, moveSlot, slotT, Opd.see, sees, T.view, truthD, cmpD, eqD, scalD, binD, negD, isKd, callF, takeA, putA, startR, endR_rt, endR_nx, endR_exc, backs, evB, evT, evD, evO, List.map_cons, List.map_nil, List.length_cons, List.length_nil, List.cons_append, List.nil_append, List.append_nil, List.set_cons_zero, List.set_cons_succ, List.getElem?_cons_zero, List.getElem?_cons_succ, List.replicate_zero, List.replicate_succ, Option.join_some, Option.join_none, Option.bind_some, Option.bind_none, Option.map_some, Option.map_none, Nat.reduceAdd, Nat.reduceSub, Nat.sub_self, List.any_cons, List.any_nil, Bool.or_false, Bool.false_or, Bool.or_true, Bool.true_or, Bool.and_true, Bool.true_and, Bool.and_false, Bool.false_and, Bool.not_true, Bool.not_false, Bool.false_eq_true, reduceIte, reduceCtorEq, decide_eq_true_eq, Bool.not_eq_true', decide_eq_false_iff_not, sz_eq, Nat.reduceLeDiff, isOl, subFin, muFin, muD, setFin, setMany, parFin, idxD, slcD, bi_len, bi_lenT, bi_abs, bi_int, bi_list, bi_listT, bi_max2, bi_min2, Ss.sets, S.sets, Tg.is, List.mem_cons, List.not_mem_nil, or_false, or_true, false_or, true_or, List.mem_append, List.append_assoc, List.append_eq]
  by_cases h : b ≤ a <;> simp [h]
theorem s_is_numberB {B : Fx} {k : Nat} (a : Bool) (b c : Int) (hk : 0 < k) : (lev fs B k).call "is_number" [.fz (.bool a), .fz (.int b), .fz (.int c)] = .ok (.fz (.bool false)) [.fz (.bool a), .fz (.int b), .fz (.int c)] := by
  rw [lev_call (F := f_is_number) rfl hk, run_fn rfl]
  simp -implicitDefEqProofs only [f_is_number, e_nm, e_int, e_str, e_bl, e_non, e_glb, e_bin, e_neg, e_cmp, t_cmp, chn_if, e_chn, t_chn, e_and, e_or, t_and, t_or, e_not, t_not, e_ite, e_lst, e_tup, e_idx, e_slc, e_call, e_bi, e_rl1, e_rl2, e_isi, e_me, e_mu, t_nm, t_bl, t_idx, t_call, t_bi, t_isi, t_lc, t_bin, ds_nil, ds_cons, os_nil, os_cons, oi_none, oi_some, c_none, c_some, i_op, as_nm, as_mv, x_nil, x_cons, x_set, x_setF, x_setT, x_par, x_sub, x_expr, x_ret, x_if, x_whl, x_for, x_raise, x_pass, x_brk, x_cont, x_tryC, bind_ok, bind_exc, map_ok, map_exc, of_some, bind_ite, map_ite, endR_ite, dflT, asT, asD, frz, ofB, cmpB, takeSlot, moveSlot, slotT, Opd.see, sees, T.view, truthD, cmpD, eqD, scalD, binD, negD, isKd, callF, takeA, putA, startR, endR_rt, endR_nx, endR_exc, backs, evB, evT, evD, evO, List.map_cons, List.map_nil, List.length_cons, List.length_nil, List.cons_append, List.nil_append, List.append_nil, List.set_cons_zero, List.set_cons_succ, List.getElem?_cons_zero, List.getElem?_cons_succ, List.replicate_zero, List.replicate_succ, Option.join_some, Option.join_none, Option.bind_some, Option.bind_none, Option.map_some, Option.map_none, Nat.reduceAdd, Nat.reduceSub, Nat.sub_self, List.any_cons, List.any_nil, Bool.or_false, Bool.false_or, Bool.or_true, Bool.true_or, Bool.and_true, Bool.true_and, Bool.and_false, Bool.false_and, Bool.not_true, Bool.not_false, Bool.false_eq_true, reduceIte, reduceCtorEq, decide_eq_true_eq, Bool.not_eq_true', decide_eq_false_iff_not, sz_eq, Nat.reduceLeDiff, isOl, subFin, muFin, muD, setFin, setMany, parFin, idxD, slcD, bi_len, bi_lenT, bi_abs, bi_int, bi_list, bi_listT, bi_max2, bi_min2, Ss.sets, S.sets, Tg.is, List.mem_cons, List.not_mem_nil, or_false, or_true, false_or, true_or, List.mem_append, List.append_assoc, List.append_eq]
theorem s_pool {B : Fx} {k : Nat} (ns : List Int) (hk : 0 < k) : (lev fs B k).call "_law_pool" [.fz (.list (ns.map PyData.int))] = .ok (.ol (poolL ns 0 0 0 0)) [.fz (.list (ns.map PyData.int))] := by
  rw [lev_call (F := f__law_pool) rfl hk, run_fn rfl]
  simp -implicitDefEqProofs only [f__law_pool, e_nm, e_int, e_str, e_bl, e_non, e_glb, e_bin, e_neg, e_cmp, t_cmp, chn_if, e_chn, t_chn, e_and, e_or, t_and, t_or, e_not, t_not, e_ite, e_lst, e_tup, e_idx, e_slc, e_call, e_bi, e_rl1, e_rl2, e_isi, e_me, e_mu, t_nm, t_bl, t_idx, t_call, t_bi, t_isi, t_lc, t_bin, ds_nil, ds_cons, os_nil, os_cons, oi_none, oi_some, c_none, c_some, i_op, as_nm, as_mv, x_nil, x_cons, x_set, x_setF, x_setT, x_par, x_sub, x_expr, x_ret, x_if, x_whl, x_for, x_raise, x_pass, x_brk, x_cont, x_tryC, bind_ok, bind_exc, map_ok, map_exc, of_some, bind_ite, map_ite, endR_ite, dflT, asT, asD, frz, ofB, cmpB, takeSlot, moveSlot, slotT, Opd.see, sees, T.view, truthD, cmpD, eqD, scalD, binD, negD, isKd, callF, takeA, putA, startR, endR_rt, endR_nx, endR_exc, backs, evB, evT, evD, evO, List.map_cons, List.map_nil, List.length_cons, List.length_nil, List.cons_append, List.nil_append, List.append_nil, List.set_cons_zero, List.set_cons_succ, List.getElem?_cons_zero, List.getElem?_cons_succ, List.replicate_zero, List.replicate_succ, Option.join_some, Option.join_none, Option.bind_some, Option.bind_none, Option.map_some, Option.map_none, Nat.reduceAdd, Nat.reduceSub, Nat.sub_self, List.any_cons, List.any_nil, Bool.or_false, Bool.false_or, Bool.or_true, Bool.true_or, Bool.and_true, Bool.true_and, Bool.and_false, Bool.false_and, Bool.not_true, Bool.not_false, Bool.false_eq_true, reduceIte, reduceCtorEq, decide_eq_true_eq, Bool.not_eq_true', decide_eq_false_iff_not, sz_eq, Nat.reduceLeDiff, isOl, subFin, muFin, muD, setFin, setMany, parFin, idxD, slcD, bi_len, bi_lenT, bi_abs, bi_int, bi_list, bi_listT, bi_max2, bi_min2, Ss.sets, S.sets, Tg.is, List.mem_cons, List.not_mem_nil, or_false, or_true, false_or, true_or, List.mem_append, List.append_assoc, List.append_eq, poolL]
theorem s_draw {p : List D} {m : Int} (hp : Pool p) (h0 : 0 < m) (h1 : m < 1073741824) : ∃ r p', Pool p' ∧ 0 ≤ r ∧ r < m ∧ ∀ B k, 0 < k → (lev fs B k).call "_law_draw" [.ol p, .fz (.int m)] = .ok (.fz (.int r)) [.ol p', .fz (.int m)] := by
  obtain ⟨r, p', a, b, c, e⟩ := draw_ok hp h0 h1
  refine ⟨r, p', a, b, c, fun B k hk => ?_⟩
  rw [lev_call (F := f__law_draw) rfl hk, run_fn rfl]
  exact e _
theorem s_same {B : Fx} {k n : Nat} {d : D} {t1 t2 : T} (hk : n ≤ k) (g : good n d) (v1 : t1.view = some d) (v2 : t2.view = some d) : (lev fs B k).call "_law_same" [t1, t2] = .ok (.fz (.bool true)) [t1, t2] :=
  same_ok (F := f__law_same) rfl rfl rfl rfl n k d hk g t1 t2 v1 v2
theorem s_pick {p : List D} {ds : List D} (hp : Pool p) (h0 : 0 < ds.length) (h1 : ds.length < 1073741824) : ∃ (i : Nat) (x : D) (p' : List D), Pool p' ∧ ds[i]? = some x ∧ ∀ B k, 1 < k → (lev fs B k).call "_law_pick" [.ol p, .fz (.list ds)] = .ok (.fz x) [.ol p', .fz (.list ds)] := by
  obtain ⟨r, p', hp', r0, r1, e⟩ := s_draw hp (m := (ds.length : Int)) (by omega) (by omega)
  have hi : r.toNat < ds.length := by omega
  have ai : atI ds r = some ds[r.toNat] := by
    have q := atI_nat (List.getElem?_eq_getElem hi)
    rwa [Int.toNat_of_nonneg r0] at q
  refine ⟨r.toNat, ds[r.toNat], p', hp', List.getElem?_eq_getElem hi, fun B k hk => ?_⟩
  rw [lev_call (F := f__law_pick) rfl (by omega), run_fn rfl]
  have e' := e B (k - 1) (by omega)
  simp -implicitDefEqProofs only [f__law_pick, e_nm, e_int, e_str, e_bl, e_non, e_glb, e_bin, e_neg, e_cmp, t_cmp, chn_if, e_chn, t_chn, e_and, e_or, t_and, t_or, e_not, t_not, e_ite, e_lst, e_tup, e_idx, e_slc, e_call, e_bi, e_rl1, e_rl2, e_isi, e_me, e_mu, t_nm, t_bl, t_idx, t_call, t_bi, t_isi, t_lc, t_bin, ds_nil, ds_cons, os_nil, os_cons, oi_none, oi_some, c_none, c_some, i_op, as_nm, as_mv, x_nil, x_cons, x_set, x_setF, x_setT, x_par, x_sub, x_expr, x_ret, x_if, x_whl, x_for, x_raise, x_pass, x_brk, x_cont, x_tryC, bind_ok, bind_exc, map_ok, map_exc, of_some, bind_ite, map_ite, endR_ite, dflT, asT, asD, frz, ofB, cmpB, takeSlot, moveSlot, slotT, Opd.see, sees, T.view, truthD, cmpD, eqD, scalD, binD, negD, isKd, callF, takeA, putA, startR, endR_rt, endR_nx, endR_exc, backs, evB, evT, evD, evO, List.map_cons, List.map_nil, List.length_cons, List.length_nil, List.cons_append, List.nil_append, List.append_nil, List.set_cons_zero, List.set_cons_succ, List.getElem?_cons_zero, List.getElem?_cons_succ, List.replicate_zero, List.replicate_succ, Option.join_some, Option.join_none, Option.bind_some, Option.bind_none, Option.map_some, Option.map_none, Nat.reduceAdd, Nat.reduceSub, Nat.sub_self, List.any_cons, List.any_nil, Bool.or_false, Bool.false_or, Bool.or_true, Bool.true_or, Bool.and_true, Bool.true_and, Bool.and_false, Bool.false_and, Bool.not_true, Bool.not_false, Bool.false_eq_true, reduceIte, reduceCtorEq, decide_eq_true_eq, Bool.not_eq_true', decide_eq_false_iff_not, sz_eq, Nat.reduceLeDiff, isOl, subFin, muFin, muD, setFin, setMany, parFin, idxD, slcD, bi_len, bi_lenT, bi_abs, bi_int, bi_list, bi_listT, bi_max2, bi_min2, Ss.sets, S.sets, Tg.is, List.mem_cons, List.not_mem_nil, or_false, or_true, false_or, true_or, List.mem_append, List.append_assoc, List.append_eq, e', ai]
/-! ### sums -/
abbrev il (ns : List Int) : D := .list (ns.map PyData.int)
def dot (fs ws : List Int) : Int := ((List.range ws.length).map fun i => fs.getD i 0 * ws.getD i 0).sum
theorem atI_il {ns : List Int} {i : Nat} (h : i < ns.length) : atI (ns.map PyData.int) (0 + (i : Int)) = some (.int (ns.getD i 0)) := by
  rw [Int.zero_add]
  refine atI_nat ?_
  rw [List.getElem?_map, List.getElem?_eq_getElem h]
  simp [List.getD, h]
theorem ints_map {l : List Nat} {g : Nat → Int} : intsD (l.map fun i => PyData.int (g i)) = some (l.map g) := by
  induction l with
  | nil => rfl
  | cons a r ih =>
    show (intsD _).map _ = _
    rw [ih]
    rfl
def Rule (ws : List Int) (b : Int) : Prop := 2 ≤ b ∧ b ≤ 100 ∧ 0 < ws.length ∧ ws.length ≤ 30 ∧ ∀ w ∈ ws, 0 ≤ w ∧ w < b
theorem numC {B : Fx} {k s ib : Nat} {ρ : Rho} {x b : Int} (hk : 0 < k) (hx : slotT ρ s = some (.fz (.int x))) (hb : slotT ρ ib = some (.fz (.int b))) (s1 : ρ[s]? = some (some (.fz (.int x)))) :
    (ev2 (lev fs B k) (.not_ (.call "is_number" (.cons (.nm s) (.cons (.int 0) (.cons (.bin .Sub (.nm ib) (.int 1)) .nil))) []))).2 ρ = .ok (!(decide (0 ≤ x) && decide (x ≤ b - 1))) ρ := by
  have e := s_is_number (B := B) (k := k) x 0 (b - 1) hk
  have h1 : (ρ[ib]?).join = some (.fz (.int b)) := hb
  have hs : (ρ[s]?).join = some (.fz (.int x)) := hx
  simp -implicitDefEqProofs only [e_nm, e_int, e_str, e_bl, e_non, e_glb, e_bin, e_neg, e_cmp, t_cmp, chn_if, e_chn, t_chn, e_and, e_or, t_and, t_or, e_not, t_not, e_ite, e_lst, e_tup, e_idx, e_slc, e_call, e_bi, e_rl1, e_rl2, e_isi, e_me, e_mu, t_nm, t_bl, t_idx, t_call, t_bi, t_isi, t_lc, t_bin, ds_nil, ds_cons, os_nil, os_cons, oi_none, oi_some, c_none, c_some, i_op, as_nm, as_mv, x_nil, x_cons, x_set, x_setF, x_setT, x_par, x_sub, x_expr, x_ret, x_if, x_whl, x_for, x_raise, x_pass, x_brk, x_cont, x_tryC, bind_ok, bind_exc, map_ok, map_exc, of_some, bind_ite, map_ite, endR_ite, dflT, asT, asD, frz, ofB, cmpB, takeSlot, moveSlot, slotT, Opd.see, sees, T.view, truthD, cmpD, eqD, scalD, binD, negD, isKd, callF, takeA, putA, startR, endR_rt, endR_nx, endR_exc, backs, evB, evT, evD, evO, List.map_cons, List.map_nil, List.length_cons, List.length_nil, List.cons_append, List.nil_append, List.append_nil, List.set_cons_zero, List.set_cons_succ, List.getElem?_cons_zero, List.getElem?_cons_succ, List.replicate_zero, List.replicate_succ, Option.join_some, Option.join_none, Option.bind_some, Option.bind_none, Option.map_some, Option.map_none, Nat.reduceAdd, Nat.reduceSub, Nat.sub_self, List.any_cons, List.any_nil, Bool.or_false, Bool.false_or, Bool.or_true, Bool.true_or, Bool.and_true, Bool.true_and, Bool.and_false, Bool.false_and, Bool.not_true, Bool.not_false, Bool.false_eq_true, reduceIte, reduceCtorEq, decide_eq_true_eq, Bool.not_eq_true', decide_eq_false_iff_not, sz_eq, Nat.reduceLeDiff, isOl, subFin, muFin, muD, setFin, setMany, parFin, idxD, slcD, bi_len, bi_lenT, bi_abs, bi_int, bi_list, bi_listT, bi_max2, bi_min2, Ss.sets, S.sets, Tg.is, List.mem_cons, List.not_mem_nil, or_false, or_true, false_or, true_or, List.mem_append, List.append_assoc, List.append_eq, hs, h1, e]
/-- the items at a slot that are out of bounds: none -/
theorem badC {B : Fx} {k s ib : Nat} {ns : List Int} {b : Int} {ρ : Rho} {i0 : Nat} (hk : 0 < k) (hi0 : slotT ρ i0 = some (.fz (il ns))) (hb : slotT ρ ib = some (.fz (.int b))) (hs : s < ρ.length) (ne : s ≠ i0) (ne1 : s ≠ ib) (hw : ρ.set s none = ρ) (hl : ns.length ≤ 1000) (ok : ∀ w ∈ ns, 0 ≤ w ∧ w < b) :
    (ev2 (lev fs B k) (.lc (.one s) [s] (.opd (.nm i0)) (.some (.not_ (.call "is_number" (.cons (.nm s) (.cons (.int 0) (.cons (.bin .Sub (.nm ib) (.int 1)) .nil))) []))) (.nm s))).1 ρ = .ok (.tmp (.ol [])) (ρ.set s (slotT ρ s)) := by
  have ev : evI (lev fs B k) (.opd (.nm i0)) ρ = .ok (.sl false i0 ns.length) ρ := by
    rw [i_op, e_nm, hi0]
    show R.of (((slotT ρ i0).bind T.view).bind fun d => (seqD d).map (opdSrc (.sl i0))) ρ = _
    rw [hi0]
    show R.of (some (Src.sl false i0 (ns.map PyData.int).length)) ρ = _
    rw [List.length_map]
    rfl
  have wr : wipeR ρ [s] = ρ := hw
  rw [e_lc, ev, bind_ok, wr]
  have run := lc_pure (own := [s]) (tg := .one s) (src := .sl false i0 ns.length) (c := evC (lev fs B k) (.some (.not_ (.call "is_number" (.cons (.nm s) (.cons (.int 0) (.cons (.bin .Sub (.nm ib) (.int 1)) .nil))) [])))) (elt := asD (.nm s) (ev2 (lev fs B k) (.nm s)).1) (ρ := ρ) (xs := ns.map PyData.int) (n := ns.length) (fun _ => false) id (by simp) (by rw [sz_eq]; omega)
    (fun i d e => by
      show ((((slotT ρ i0).bind T.view).bind (seqK false)).bind fun ds => if ds.length = ns.length then ds[i]? else none) = _
      rw [hi0]
      show (if (ns.map PyData.int).length = ns.length then (ns.map PyData.int)[i]? else none) = _
      rw [if_pos (by simp), e])
    (by
      show (match ((slotT ρ i0).bind T.view).bind (seqK false) with | some ds => decide (ds.length = ns.length) | none => false) = true
      rw [hi0]
      show decide ((ns.map PyData.int).length = ns.length) = true
      simp)
    (fun d hd => by
      obtain ⟨w, hw1, rfl⟩ := List.mem_map.mp hd
      refine ⟨_, rfl, ρ.set s (some (.fz (.int w))), ?_, fun z => absurd z Bool.false_ne_true, fun _ => ?_⟩
      · rw [c_some, numC (x := w) (b := b) hk (slotT_of (List.getElem?_set_self hs)) (by rw [slotT_other ne1]; exact hb) (List.getElem?_set_self hs)]
        have := ok w hw1
        have h1 : decide (0 ≤ w) = true := decide_eq_true this.1
        have h2 : decide (w ≤ b - 1) = true := decide_eq_true (by omega)
        rw [h1, h2]
        rfl
      · show ((ρ.set s _).set s none) = ρ
        rw [List.set_set]
        exact hw)
  show (lcRun [s] (.one s) (.sl false i0 ns.length) _ _ ns.length 0 [] ρ).bind _ = _
  rw [run]
  have e : ((ns.map PyData.int).filter fun _ => false) = [] := by simp
  rw [e]
  rfl
theorem s_rule {B : Fx} {k : Nat} {ws : List Int} {b : Int} (h : Rule ws b) (hk : 1 < k) : (lev fs B k).call "checked_rule" [.fz (il ws), .fz (.int b)] = .ok (.fz (.tuple [il ws, .int b])) [.fz (il ws), .fz (.int b)] := by
  obtain ⟨h1, h2, h3, h4, h5⟩ := h
  rw [lev_call (F := f_checked_rule) rfl (by omega), run_fn rfl]
  have nb := s_is_number (B := B) (k := k - 1) b 2 100 (by omega)
  have bad := badC (B := B) (k := k - 1) (s := 2) (ns := ws) (b := b) (ρ := [some (.fz (il ws)), some (.fz (.int b)), none]) (i0 := 0) (ib := 1) (by omega) rfl rfl (Nat.lt_succ_self 2) (by decide) (by decide) rfl (by omega) h5
  have e2 : [some (T.fz (il ws)), some (T.fz (.int b)), none].set 2 (slotT [some (T.fz (il ws)), some (T.fz (.int b)), none] 2) = [some (T.fz (il ws)), some (T.fz (.int b)), none] := rfl
  rw [e2] at bad
  have d1 : decide (2 ≤ b) = true := decide_eq_true h1
  have d2 : decide (b ≤ 100) = true := decide_eq_true h2
  have d3 : ¬ (30 : Int) < ws.length := by omega
  have d4 : (ws.map PyData.int).isEmpty = false := by cases ws with
    | nil => simp at h3
    | cons _ _ => rfl
  rw [d1, d2] at nb
  simp -implicitDefEqProofs only [f_checked_rule, e_nm, e_int, e_str, e_bl, e_non, e_glb, e_bin, e_neg, e_cmp, t_cmp, chn_if, e_chn, t_chn, e_and, e_or, t_and, t_or, e_not, t_not, e_ite, e_lst, e_tup, e_idx, e_slc, e_call, e_bi, e_rl1, e_rl2, e_isi, e_me, e_mu, t_nm, t_bl, t_idx, t_call, t_bi, t_isi, t_lc, t_bin, ds_nil, ds_cons, os_nil, os_cons, oi_none, oi_some, c_none, c_some, i_op, as_nm, as_mv, x_nil, x_cons, x_set, x_setF, x_setT, x_par, x_sub, x_expr, x_ret, x_if, x_whl, x_for, x_raise, x_pass, x_brk, x_cont, x_tryC, bind_ok, bind_exc, map_ok, map_exc, of_some, bind_ite, map_ite, endR_ite, dflT, asT, asD, frz, ofB, cmpB, takeSlot, moveSlot, slotT, Opd.see, sees, T.view, truthD, cmpD, eqD, scalD, binD, negD, isKd, callF, takeA, putA, startR, endR_rt, endR_nx, endR_exc, backs, evB, evT, evD, evO, List.map_cons, List.map_nil, List.length_cons, List.length_nil, List.cons_append, List.nil_append, List.append_nil, List.set_cons_zero, List.set_cons_succ, List.getElem?_cons_zero, List.getElem?_cons_succ, List.replicate_zero, List.replicate_succ, Option.join_some, Option.join_none, Option.bind_some, Option.bind_none, Option.map_some, Option.map_none, Nat.reduceAdd, Nat.reduceSub, Nat.sub_self, List.any_cons, List.any_nil, Bool.or_false, Bool.false_or, Bool.or_true, Bool.true_or, Bool.and_true, Bool.true_and, Bool.and_false, Bool.false_and, Bool.not_true, Bool.not_false, Bool.false_eq_true, reduceIte, reduceCtorEq, decide_eq_true_eq, Bool.not_eq_true', decide_eq_false_iff_not, sz_eq, Nat.reduceLeDiff, isOl, subFin, muFin, muD, setFin, setMany, parFin, idxD, slcD, bi_len, bi_lenT, bi_abs, bi_int, bi_list, bi_listT, bi_max2, bi_min2, Ss.sets, S.sets, Tg.is, List.mem_cons, List.not_mem_nil, or_false, or_true, false_or, true_or, List.mem_append, List.append_assoc, List.append_eq, nb, bad, d3, d4, List.length_map, List.isEmpty_nil, List.isEmpty_cons]
def Tally (fg ws : List Int) (b : Int) : Prop := Rule ws b ∧ fg.length = ws.length ∧ ∀ f ∈ fg, 0 ≤ f ∧ f < b
def numD (b : Int) : D → Bool
  | .int x => decide (0 ≤ x) && decide (x ≤ b - 1)
  | _ => false
def Pl (d : D) : Prop := (∃ x, d = .int x) ∨ ∃ c, d = .bool c
theorem s_num {B : Fx} {k : Nat} {d : D} {b : Int} (hd : Pl d) (hk : 0 < k) : (lev fs B k).call "is_number" [.fz d, .fz (.int 0), .fz (.int (b - 1))] = .ok (.fz (.bool (numD b d))) [.fz d, .fz (.int 0), .fz (.int (b - 1))] := by
  rcases hd with ⟨x, rfl⟩ | ⟨c, rfl⟩
  · exact s_is_number x 0 (b - 1) hk
  · exact s_is_numberB c 0 (b - 1) hk
theorem atI_i {ns : List Int} {i : Nat} (h : i < ns.length) : atI (ns.map PyData.int) (i : Int) = some (.int (ns.getD i 0)) := by
  have q := atI_il h
  rwa [Int.zero_add] at q
theorem sum_dot {fg ws : List Int} : biD .sum [.list ((List.range ws.length).map fun i => .int (fg.getD i 0 * ws.getD i 0))] = some (.fz (.int (dot fg ws))) := by
  show (intsD _).map _ = _
  rw [ints_map]
  rfl
theorem rule_le {ws : List Int} {b : Int} (h : Rule ws b) : ∀ x ∈ ws, 0 ≤ x ∧ x ≤ 1000 := fun x hx => by
  have h1 := h.2.2.2.2 x hx
  have h2 := h.2.1
  omega
theorem pl_map {fg : List Int} : ∀ d ∈ fg.map PyData.int, Pl d := fun d hd => by
  obtain ⟨x, hx, rfl⟩ := List.mem_map.mp hd
  exact .inl ⟨x, rfl⟩
def rt (fg ws : List Int) (b : Int) : Bool := decide ((dot fg ws).fmod b = 0)
theorem dotE {Φ : Fx} {t : T} {f w s n : Nat} {ρ : Rho} (hf : slotT ρ f = some t) (hv : t.view = some (il fg)) (hw : slotT ρ w = some (.fz (il ws))) (hs : s < ρ.length) (n1 : s ≠ f) (n2 : s ≠ w) (hm : slotT ρ n = some (.fz (il ws)) ∨ (slotT ρ n = some t ∧ fg.length = ws.length)) (hl : ws.length ≤ fg.length) (hz : ws.length ≤ 1000) (hb : ∀ x ∈ ws, 0 ≤ x ∧ x ≤ 1000) :
    (ev2 Φ (.lc (.one s) [s] (.rng1 (.bi .len (.cons (.nm n) .nil))) .none (.bin .Mult (.idx (.nm f) (.nm s)) (.idx (.nm w) (.nm s))))).1 ρ = .ok (.tmp (.ol ((List.range ws.length).map fun i => .int (fg.getD i 0 * ws.getD i 0)))) ρ := by
  have ln : (ev2 Φ (.bi .len (.cons (.nm n) .nil))).1 ρ = .ok (.tmp (.fz (.int ws.length))) ρ := by
    rcases hm with hm | ⟨hm, e⟩
    · have h1 : (ρ[n]?).join = some (.fz (il ws)) := hm
      simp -implicitDefEqProofs only [e_nm, e_int, e_str, e_bl, e_non, e_glb, e_bin, e_neg, e_cmp, t_cmp, chn_if, e_chn, t_chn, e_and, e_or, t_and, t_or, e_not, t_not, e_ite, e_lst, e_tup, e_idx, e_slc, e_call, e_bi, e_rl1, e_rl2, e_isi, e_me, e_mu, t_nm, t_bl, t_idx, t_call, t_bi, t_isi, t_lc, t_bin, ds_nil, ds_cons, os_nil, os_cons, oi_none, oi_some, c_none, c_some, i_op, as_nm, as_mv, x_nil, x_cons, x_set, x_setF, x_setT, x_par, x_sub, x_expr, x_ret, x_if, x_raise, x_pass, x_brk, x_cont, x_tryC, bind_ok, bind_exc, map_ok, map_exc, of_some, bind_ite, map_ite, endR_ite, dflT, asT, asD, frz, ofB, cmpB, takeSlot, moveSlot, slotT, Opd.see, sees, T.view, truthD, cmpD, eqD, scalD, binD, negD, isKd, callF, takeA, putA, startR, endR_rt, endR_nx, endR_exc, backs, evB, evT, evD, evO, List.map_cons, List.map_nil, List.length_cons, List.length_nil, List.cons_append, List.nil_append, List.append_nil, List.set_cons_zero, List.set_cons_succ, List.getElem?_cons_zero, List.getElem?_cons_succ, List.replicate_zero, List.replicate_succ, Option.join_some, Option.join_none, Option.bind_some, Option.bind_none, Option.map_some, Option.map_none, Nat.reduceAdd, Nat.reduceSub, Nat.sub_self, List.any_cons, List.any_nil, Bool.or_false, Bool.false_or, Bool.or_true, Bool.true_or, Bool.and_true, Bool.true_and, Bool.and_false, Bool.false_and, Bool.not_true, Bool.not_false, Bool.false_eq_true, reduceIte, reduceCtorEq, decide_eq_true_eq, Bool.not_eq_true', decide_eq_false_iff_not, sz_eq, Nat.reduceLeDiff, isOl, subFin, muFin, muD, setFin, setMany, parFin, idxD, slcD, bi_len, bi_lenT, bi_abs, bi_int, bi_list, bi_listT, bi_max2, bi_min2, Ss.sets, S.sets, Tg.is, List.mem_cons, List.not_mem_nil, or_false, or_true, false_or, true_or, List.mem_append, List.append_assoc, List.append_eq, h1, List.length_map]
    · have h1 : (ρ[n]?).join = some t := hm
      cases t <;> cases hv <;> simp -implicitDefEqProofs only [e_nm, e_int, e_str, e_bl, e_non, e_glb, e_bin, e_neg, e_cmp, t_cmp, chn_if, e_chn, t_chn, e_and, e_or, t_and, t_or, e_not, t_not, e_ite, e_lst, e_tup, e_idx, e_slc, e_call, e_bi, e_rl1, e_rl2, e_isi, e_me, e_mu, t_nm, t_bl, t_idx, t_call, t_bi, t_isi, t_lc, t_bin, ds_nil, ds_cons, os_nil, os_cons, oi_none, oi_some, c_none, c_some, i_op, as_nm, as_mv, x_nil, x_cons, x_set, x_setF, x_setT, x_par, x_sub, x_expr, x_ret, x_if, x_raise, x_pass, x_brk, x_cont, x_tryC, bind_ok, bind_exc, map_ok, map_exc, of_some, bind_ite, map_ite, endR_ite, dflT, asT, asD, frz, ofB, cmpB, takeSlot, moveSlot, slotT, Opd.see, sees, T.view, truthD, cmpD, eqD, scalD, binD, negD, isKd, callF, takeA, putA, startR, endR_rt, endR_nx, endR_exc, backs, evB, evT, evD, evO, List.map_cons, List.map_nil, List.length_cons, List.length_nil, List.cons_append, List.nil_append, List.append_nil, List.set_cons_zero, List.set_cons_succ, List.getElem?_cons_zero, List.getElem?_cons_succ, List.replicate_zero, List.replicate_succ, Option.join_some, Option.join_none, Option.bind_some, Option.bind_none, Option.map_some, Option.map_none, Nat.reduceAdd, Nat.reduceSub, Nat.sub_self, List.any_cons, List.any_nil, Bool.or_false, Bool.false_or, Bool.or_true, Bool.true_or, Bool.and_true, Bool.true_and, Bool.and_false, Bool.false_and, Bool.not_true, Bool.not_false, Bool.false_eq_true, reduceIte, reduceCtorEq, decide_eq_true_eq, Bool.not_eq_true', decide_eq_false_iff_not, sz_eq, Nat.reduceLeDiff, isOl, subFin, muFin, muD, setFin, setMany, parFin, idxD, slcD, bi_len, bi_lenT, bi_abs, bi_int, bi_list, bi_listT, bi_max2, bi_min2, Ss.sets, S.sets, Tg.is, List.mem_cons, List.not_mem_nil, or_false, or_true, false_or, true_or, List.mem_append, List.append_assoc, List.append_eq, h1, List.length_map, e]
  refine lc_r1m (x := .tmp (.fz (.int ws.length))) (fun i => .int (fg.getD i 0 * ws.getD i 0)) ln rfl hs (by omega) fun i hi => ?_
  have a1 := atI_i (ns := fg) (i := i) (by omega)
  have a2 := atI_i (ns := ws) (i := i) hi
  have hmu : mulOk (fg.getD i 0) (ws.getD i 0) = true := by
    have := hb (ws.getD i 0) (by simp [List.getD, hi])
    exact mul_r (by omega)
  have h1 : ((ρ.set s (some (.fz (.int (i : Int)))))[f]?).join = some t := by
    rw [← hf]
    exact slotT_other n1 _
  have h2 : ((ρ.set s (some (.fz (.int (i : Int)))))[w]?).join = some (.fz (il ws)) := by
    rw [← hw]
    exact slotT_other n2 _
  have h3 : ((ρ.set s (some (.fz (.int (i : Int)))))[s]?).join = some (.fz (.int (i : Int))) := slotT_of (List.getElem?_set_self hs)
  cases t <;> cases hv <;> simp -implicitDefEqProofs only [e_nm, e_int, e_str, e_bl, e_non, e_glb, e_bin, e_neg, e_cmp, t_cmp, chn_if, e_chn, t_chn, e_and, e_or, t_and, t_or, e_not, t_not, e_ite, e_lst, e_tup, e_idx, e_slc, e_call, e_bi, e_rl1, e_rl2, e_isi, e_me, e_mu, t_nm, t_bl, t_idx, t_call, t_bi, t_isi, t_lc, t_bin, ds_nil, ds_cons, os_nil, os_cons, oi_none, oi_some, c_none, c_some, i_op, as_nm, as_mv, x_nil, x_cons, x_set, x_setF, x_setT, x_par, x_sub, x_expr, x_ret, x_if, x_raise, x_pass, x_brk, x_cont, x_tryC, bind_ok, bind_exc, map_ok, map_exc, of_some, bind_ite, map_ite, endR_ite, dflT, asT, asD, frz, ofB, cmpB, takeSlot, moveSlot, slotT, Opd.see, sees, T.view, truthD, cmpD, eqD, scalD, binD, negD, isKd, callF, takeA, putA, startR, endR_rt, endR_nx, endR_exc, backs, evB, evT, evD, evO, List.map_cons, List.map_nil, List.length_cons, List.length_nil, List.cons_append, List.nil_append, List.append_nil, List.set_cons_zero, List.set_cons_succ, List.getElem?_cons_zero, List.getElem?_cons_succ, List.replicate_zero, List.replicate_succ, Option.join_some, Option.join_none, Option.bind_some, Option.bind_none, Option.map_some, Option.map_none, Nat.reduceAdd, Nat.reduceSub, Nat.sub_self, List.any_cons, List.any_nil, Bool.or_false, Bool.false_or, Bool.or_true, Bool.true_or, Bool.and_true, Bool.true_and, Bool.and_false, Bool.false_and, Bool.not_true, Bool.not_false, Bool.false_eq_true, reduceIte, reduceCtorEq, decide_eq_true_eq, Bool.not_eq_true', decide_eq_false_iff_not, sz_eq, Nat.reduceLeDiff, isOl, subFin, muFin, muD, setFin, setMany, parFin, idxD, slcD, bi_len, bi_lenT, bi_abs, bi_int, bi_list, bi_listT, bi_max2, bi_min2, Ss.sets, S.sets, Tg.is, List.mem_cons, List.not_mem_nil, or_false, or_true, false_or, true_or, List.mem_append, List.append_assoc, List.append_eq, h1, h2, h3, a1, a2, hmu]
section
variable {B : Fx} {k : Nat} {t : T} {fg ws : List Int} {b : Int}
theorem s_lrestT (hv : t.view = some (il fg)) (h : Tally fg ws b) (hk : 0 < k) : (lev fs B k).call "_law_rest" [t, .fz (il ws), .fz (.int b)] = .ok (.fz (.int ((dot fg ws).fmod b))) [t, .fz (il ws), .fz (.int b)] := by
  rw [lev_call (F := f__law_rest) rfl hk, run_fn rfl]
  have hz : ws.length ≤ 1000 := by have := h.1.2.2.2.1; omega
  have nb : b ≠ 0 := by have := h.1.1; omega
  have lc := dotE (Φ := lev fs B (k - 1)) (t := t) (f := 0) (w := 1) (s := 3) (n := 1) (fg := fg) (ws := ws) (ρ := [some t, some (.fz (il ws)), some (.fz (.int b)), none]) rfl hv rfl (Nat.lt_succ_self 3) (by decide) (by decide) (.inl rfl) (by rw [h.2.1]; exact Nat.le_refl _) hz (rule_le h.1)
  cases t <;> cases hv <;> simp -implicitDefEqProofs only [f__law_rest, e_nm, e_int, e_str, e_bl, e_non, e_glb, e_bin, e_neg, e_cmp, t_cmp, chn_if, e_chn, t_chn, e_and, e_or, t_and, t_or, e_not, t_not, e_ite, e_lst, e_tup, e_idx, e_slc, e_call, e_bi, e_rl1, e_rl2, e_isi, e_me, e_mu, t_nm, t_bl, t_idx, t_call, t_bi, t_isi, t_lc, t_bin, ds_nil, ds_cons, os_nil, os_cons, oi_none, oi_some, c_none, c_some, i_op, as_nm, as_mv, x_nil, x_cons, x_set, x_setF, x_setT, x_par, x_sub, x_expr, x_ret, x_if, x_raise, x_pass, x_brk, x_cont, x_tryC, bind_ok, bind_exc, map_ok, map_exc, of_some, bind_ite, map_ite, endR_ite, dflT, asT, asD, frz, ofB, cmpB, takeSlot, moveSlot, slotT, Opd.see, sees, T.view, truthD, cmpD, eqD, scalD, binD, negD, isKd, callF, takeA, putA, startR, endR_rt, endR_nx, endR_exc, backs, evB, evT, evD, evO, List.map_cons, List.map_nil, List.length_cons, List.length_nil, List.cons_append, List.nil_append, List.append_nil, List.set_cons_zero, List.set_cons_succ, List.getElem?_cons_zero, List.getElem?_cons_succ, List.replicate_zero, List.replicate_succ, Option.join_some, Option.join_none, Option.bind_some, Option.bind_none, Option.map_some, Option.map_none, Nat.reduceAdd, Nat.reduceSub, Nat.sub_self, List.any_cons, List.any_nil, Bool.or_false, Bool.false_or, Bool.or_true, Bool.true_or, Bool.and_true, Bool.true_and, Bool.and_false, Bool.false_and, Bool.not_true, Bool.not_false, Bool.false_eq_true, reduceIte, reduceCtorEq, decide_eq_true_eq, Bool.not_eq_true', decide_eq_false_iff_not, sz_eq, Nat.reduceLeDiff, isOl, subFin, muFin, muD, setFin, setMany, parFin, idxD, slcD, bi_len, bi_lenT, bi_abs, bi_int, bi_list, bi_listT, bi_max2, bi_min2, Ss.sets, S.sets, Tg.is, List.mem_cons, List.not_mem_nil, or_false, or_true, false_or, true_or, List.mem_append, List.append_assoc, List.append_eq, lc, sum_dot, nb, ne_eq, not_false_eq_true]
end
/-! ### a figure put elsewhere -/
theorem cut_to (xs : List D) (n : Nat) : cutD xs none (some (n : Int)) = xs.take n := by
  unfold cutD
  rw [HT.sIx_nat, HT.sIx_none, List.drop_zero, Nat.sub_zero]
  by_cases h : n ≤ xs.length
  · rw [Nat.min_eq_left h]
  · rw [Nat.min_eq_right (by omega), List.take_of_length_le (Nat.le_refl _), List.take_of_length_le (by omega)]
theorem cut_from (xs : List D) (n : Nat) : cutD xs (some (n : Int)) none = xs.drop n := by
  unfold cutD
  rw [HT.sIx_nat, HT.sIx_none]
  by_cases h : n ≤ xs.length
  · rw [Nat.min_eq_left h, List.take_of_length_le (by rw [List.length_drop]; exact Nat.le_refl _)]
  · rw [Nat.min_eq_right (by omega), List.drop_of_length_le (Nat.le_refl _), List.drop_of_length_le (by omega), List.take_nil]
theorem slot_same {ρ : Rho} {i : Nat} {t : T} (h : slotT ρ i = some t) : ρ.set i (some t) = ρ := by
  by_cases hl : i < ρ.length
  · rw [← h]
    exact set_self hl
  · exact List.set_eq_of_length_le (by omega)
def rep (fg : List Int) (a : Nat) (x : Int) : List Int := fg.take a ++ x :: fg.drop (a + 1)
theorem rep_len {fg : List Int} {a : Nat} {x : Int} (h : a < fg.length) : (rep fg a x).length = fg.length := by
  unfold rep
  simp
  omega
theorem repE {Φ : Fx} {i j f : Nat} {ρ : Rho} {fg : List Int} {a : Nat} {x : Int} (hi : slotT ρ i = some (.fz (il fg))) (hj : slotT ρ j = some (.fz (.int a))) (hf : slotT ρ f = some (.fz (.int x))) (h : a < fg.length) (hz : fg.length ≤ 1000) :
    (ev2 Φ (.bin .Add (.bin .Add (.slc (.nm i) .none (.some (.nm j))) (.lst (.cons (.nm f) .nil))) (.slc (.nm i) (.some (.bin .Add (.nm j) (.int 1))) .none))).1 ρ = .ok (.tmp (.ol ((rep fg a x).map PyData.int))) ρ := by
  have hs := slot_same hf
  have h1 : (ρ[i]?).join = some (.fz (il fg)) := hi
  have h2 : (ρ[j]?).join = some (.fz (.int a)) := hj
  have h3 : (ρ[f]?).join = some (.fz (.int x)) := hf
  have c1 := cut_to (fg.map PyData.int) a
  have c2 := cut_from (fg.map PyData.int) (a + 1)
  rw [Int.natCast_add, Int.natCast_one] at c2
  have n1 : (List.take a (fg.map PyData.int)).length + 1 ≤ 16777216 := by rw [List.length_take, List.length_map]; omega
  have n2 : (List.take a (fg.map PyData.int)).length + (1 + (List.drop (a + 1) (fg.map PyData.int)).length) ≤ 16777216 := by rw [List.length_take, List.length_drop, List.length_map]; omega
  have n3 : (List.take a (fg.map PyData.int)).length + 1 + (List.drop (a + 1) (fg.map PyData.int)).length ≤ 16777216 := by rw [List.length_take, List.length_drop, List.length_map]; omega
  have e : (rep fg a x).map PyData.int = List.take a (fg.map PyData.int) ++ .int x :: List.drop (a + 1) (fg.map PyData.int) := by
    unfold rep
    rw [List.map_append, List.map_cons, List.map_take, List.map_drop]
  rw [e]
  simp -implicitDefEqProofs only [e_nm, e_int, e_str, e_bl, e_non, e_glb, e_bin, e_neg, e_cmp, t_cmp, chn_if, e_chn, t_chn, e_and, e_or, t_and, t_or, e_not, t_not, e_ite, e_lst, e_tup, e_idx, e_slc, e_call, e_bi, e_rl1, e_rl2, e_isi, e_me, e_mu, t_nm, t_bl, t_idx, t_call, t_bi, t_isi, t_lc, t_bin, ds_nil, ds_cons, os_nil, os_cons, oi_none, oi_some, c_none, c_some, i_op, as_nm, as_mv, x_nil, x_cons, x_set, x_setF, x_setT, x_par, x_sub, x_expr, x_ret, x_if, x_raise, x_pass, x_brk, x_cont, x_tryC, bind_ok, bind_exc, map_ok, map_exc, of_some, bind_ite, map_ite, endR_ite, dflT, asT, asD, frz, ofB, cmpB, takeSlot, moveSlot, slotT, Opd.see, sees, T.view, truthD, cmpD, eqD, scalD, binD, negD, isKd, callF, takeA, putA, startR, endR_rt, endR_nx, endR_exc, backs, evB, evT, evD, evO, List.map_cons, List.map_nil, List.length_cons, List.length_nil, List.cons_append, List.nil_append, List.append_nil, List.set_cons_zero, List.set_cons_succ, List.getElem?_cons_zero, List.getElem?_cons_succ, List.replicate_zero, List.replicate_succ, Option.join_some, Option.join_none, Option.bind_some, Option.bind_none, Option.map_some, Option.map_none, Nat.reduceAdd, Nat.reduceSub, Nat.sub_self, List.any_cons, List.any_nil, Bool.or_false, Bool.false_or, Bool.or_true, Bool.true_or, Bool.and_true, Bool.true_and, Bool.and_false, Bool.false_and, Bool.not_true, Bool.not_false, Bool.false_eq_true, reduceIte, reduceCtorEq, decide_eq_true_eq, Bool.not_eq_true', decide_eq_false_iff_not, sz_eq, Nat.reduceLeDiff, isOl, subFin, muFin, muD, setFin, setMany, parFin, idxD, slcD, bi_len, bi_lenT, bi_abs, bi_int, bi_list, bi_listT, bi_max2, bi_min2, Ss.sets, S.sets, Tg.is, List.mem_cons, List.not_mem_nil, or_false, or_true, false_or, true_or, List.mem_append, List.append_assoc, List.append_eq, h1, h2, h3, hs, c1, c2, n1, n2, n3, List.length_append]
theorem s_common {B : Fx} {k x y : Nat} (hk : 0 < k) (hf : y < (lev fs B (k - 1)).fuel) : (lev fs B k).call "common" [.fz (.int x), .fz (.int y)] = .ok (.fz (.int (Nat.gcd x y : Nat))) [.fz (.int x), .fz (.int y)] := by
  rw [lev_call (F := f_common) rfl hk, run_fn rfl]
  have lp : exS (lev fs B (k - 1)) (.whl (.cmp .Gt (.nm 1) (.int 0)) (.cons (.par 0 1 (.nm 1) (.bin .Mod (.nm 0) (.nm 1))) .nil)) [some (.fz (.int x)), some (.fz (.int y))] = .ok .nx [some (.fz (.int (Nat.gcd x y : Nat))), some (.fz (.int 0))] := by
    rw [x_whl]
    refine while_wp (fun m ρ => ∃ u : Nat, ρ = [some (.fz (.int u)), some (.fz (.int m))] ∧ Nat.gcd u m = Nat.gcd x y) (fun r => r = .ok .nx [some (.fz (.int (Nat.gcd x y : Nat))), some (.fz (.int 0))]) _ y _ hf ⟨x, rfl, rfl⟩ ?_
    rintro m _ ⟨u, rfl, e⟩
    refine ⟨decide ((0 : Int) < m), [some (.fz (.int u)), some (.fz (.int m))], ?_, fun hb => ?_, fun hb => ?_⟩
    · simp -implicitDefEqProofs only [e_nm, e_int, e_str, e_bl, e_non, e_glb, e_bin, e_neg, e_cmp, t_cmp, chn_if, e_chn, t_chn, e_and, e_or, t_and, t_or, e_not, t_not, e_ite, e_lst, e_tup, e_idx, e_slc, e_call, e_bi, e_rl1, e_rl2, e_isi, e_me, e_mu, t_nm, t_bl, t_idx, t_call, t_bi, t_isi, t_lc, t_bin, ds_nil, ds_cons, os_nil, os_cons, oi_none, oi_some, c_none, c_some, i_op, as_nm, as_mv, x_nil, x_cons, x_set, x_setF, x_setT, x_par, x_sub, x_expr, x_ret, x_if, x_raise, x_pass, x_brk, x_cont, x_tryC, bind_ok, bind_exc, map_ok, map_exc, of_some, bind_ite, map_ite, endR_ite, dflT, asT, asD, frz, ofB, cmpB, takeSlot, moveSlot, slotT, Opd.see, sees, T.view, truthD, cmpD, eqD, scalD, binD, negD, isKd, callF, takeA, putA, startR, endR_rt, endR_nx, endR_exc, backs, evB, evT, evD, evO, List.map_cons, List.map_nil, List.length_cons, List.length_nil, List.cons_append, List.nil_append, List.append_nil, List.set_cons_zero, List.set_cons_succ, List.getElem?_cons_zero, List.getElem?_cons_succ, List.replicate_zero, List.replicate_succ, Option.join_some, Option.join_none, Option.bind_some, Option.bind_none, Option.map_some, Option.map_none, Nat.reduceAdd, Nat.reduceSub, Nat.sub_self, List.any_cons, List.any_nil, Bool.or_false, Bool.false_or, Bool.or_true, Bool.true_or, Bool.and_true, Bool.true_and, Bool.and_false, Bool.false_and, Bool.not_true, Bool.not_false, Bool.false_eq_true, reduceIte, reduceCtorEq, decide_eq_true_eq, Bool.not_eq_true', decide_eq_false_iff_not, sz_eq, Nat.reduceLeDiff, isOl, subFin, muFin, muD, setFin, setMany, parFin, idxD, slcD, bi_len, bi_lenT, bi_abs, bi_int, bi_list, bi_listT, bi_max2, bi_min2, Ss.sets, S.sets, Tg.is, List.mem_cons, List.not_mem_nil, or_false, or_true, false_or, true_or, List.mem_append, List.append_assoc, List.append_eq]
    · have hm : m = 0 := by have := of_decide_eq_false hb; omega
      subst hm
      rw [Nat.gcd_zero_right] at e
      rw [e]
      rfl
    · have hm : (0 : Int) < m := of_decide_eq_true hb
      have nm : ((m : Int) ≠ 0) := by omega
      have fm : (u : Int).fmod (m : Int) = ((u % m : Nat) : Int) := by
        rw [Int.fmod_eq_emod_of_nonneg _ (by omega)]
        rfl
      have bd : exSs (lev fs B (k - 1)) (.cons (.par 0 1 (.nm 1) (.bin .Mod (.nm 0) (.nm 1))) .nil) [some (.fz (.int u)), some (.fz (.int m))] = .ok .nx [some (.fz (.int m)), some (.fz (.int (u % m : Nat)))] := by
        simp -implicitDefEqProofs only [e_nm, e_int, e_str, e_bl, e_non, e_glb, e_bin, e_neg, e_cmp, t_cmp, chn_if, e_chn, t_chn, e_and, e_or, t_and, t_or, e_not, t_not, e_ite, e_lst, e_tup, e_idx, e_slc, e_call, e_bi, e_rl1, e_rl2, e_isi, e_me, e_mu, t_nm, t_bl, t_idx, t_call, t_bi, t_isi, t_lc, t_bin, ds_nil, ds_cons, os_nil, os_cons, oi_none, oi_some, c_none, c_some, i_op, as_nm, as_mv, x_nil, x_cons, x_set, x_setF, x_setT, x_par, x_sub, x_expr, x_ret, x_if, x_raise, x_pass, x_brk, x_cont, x_tryC, bind_ok, bind_exc, map_ok, map_exc, of_some, bind_ite, map_ite, endR_ite, dflT, asT, asD, frz, ofB, cmpB, takeSlot, moveSlot, slotT, Opd.see, sees, T.view, truthD, cmpD, eqD, scalD, binD, negD, isKd, callF, takeA, putA, startR, endR_rt, endR_nx, endR_exc, backs, evB, evT, evD, evO, List.map_cons, List.map_nil, List.length_cons, List.length_nil, List.cons_append, List.nil_append, List.append_nil, List.set_cons_zero, List.set_cons_succ, List.getElem?_cons_zero, List.getElem?_cons_succ, List.replicate_zero, List.replicate_succ, Option.join_some, Option.join_none, Option.bind_some, Option.bind_none, Option.map_some, Option.map_none, Nat.reduceAdd, Nat.reduceSub, Nat.sub_self, List.any_cons, List.any_nil, Bool.or_false, Bool.false_or, Bool.or_true, Bool.true_or, Bool.and_true, Bool.true_and, Bool.and_false, Bool.false_and, Bool.not_true, Bool.not_false, Bool.false_eq_true, reduceIte, reduceCtorEq, decide_eq_true_eq, Bool.not_eq_true', decide_eq_false_iff_not, sz_eq, Nat.reduceLeDiff, isOl, subFin, muFin, muD, setFin, setMany, parFin, idxD, slcD, bi_len, bi_lenT, bi_abs, bi_int, bi_list, bi_listT, bi_max2, bi_min2, Ss.sets, S.sets, Tg.is, List.mem_cons, List.not_mem_nil, or_false, or_true, false_or, true_or, List.mem_append, List.append_assoc, List.append_eq, nm, fm, ne_eq, not_false_eq_true]
      rw [bd]
      refine ⟨u % m, Nat.mod_lt _ (by omega), m, rfl, ?_⟩
      rw [← e, Nat.gcd_comm u m, Nat.gcd_rec m u, Nat.gcd_comm]
  simp -implicitDefEqProofs only [f_common, e_nm, e_int, e_str, e_bl, e_non, e_glb, e_bin, e_neg, e_cmp, t_cmp, chn_if, e_chn, t_chn, e_and, e_or, t_and, t_or, e_not, t_not, e_ite, e_lst, e_tup, e_idx, e_slc, e_call, e_bi, e_rl1, e_rl2, e_isi, e_me, e_mu, t_nm, t_bl, t_idx, t_call, t_bi, t_isi, t_lc, t_bin, ds_nil, ds_cons, os_nil, os_cons, oi_none, oi_some, c_none, c_some, i_op, as_nm, as_mv, x_nil, x_cons, x_set, x_setF, x_setT, x_par, x_sub, x_expr, x_ret, x_if, x_raise, x_pass, x_brk, x_cont, x_tryC, bind_ok, bind_exc, map_ok, map_exc, of_some, bind_ite, map_ite, endR_ite, dflT, asT, asD, frz, ofB, cmpB, takeSlot, moveSlot, slotT, Opd.see, sees, T.view, truthD, cmpD, eqD, scalD, binD, negD, isKd, callF, takeA, putA, startR, endR_rt, endR_nx, endR_exc, backs, evB, evT, evD, evO, List.map_cons, List.map_nil, List.length_cons, List.length_nil, List.cons_append, List.nil_append, List.append_nil, List.set_cons_zero, List.set_cons_succ, List.getElem?_cons_zero, List.getElem?_cons_succ, List.replicate_zero, List.replicate_succ, Option.join_some, Option.join_none, Option.bind_some, Option.bind_none, Option.map_some, Option.map_none, Nat.reduceAdd, Nat.reduceSub, Nat.sub_self, List.any_cons, List.any_nil, Bool.or_false, Bool.false_or, Bool.or_true, Bool.true_or, Bool.and_true, Bool.true_and, Bool.and_false, Bool.false_and, Bool.not_true, Bool.not_false, Bool.false_eq_true, reduceIte, reduceCtorEq, decide_eq_true_eq, Bool.not_eq_true', decide_eq_false_iff_not, sz_eq, Nat.reduceLeDiff, isOl, subFin, muFin, muD, setFin, setMany, parFin, idxD, slcD, bi_len, bi_lenT, bi_abs, bi_int, bi_list, bi_listT, bi_max2, bi_min2, Ss.sets, S.sets, Tg.is, List.mem_cons, List.not_mem_nil, or_false, or_true, false_or, true_or, List.mem_append, List.append_assoc, List.append_eq, lp]
section
variable {B : Fx} {k : Nat} {t : T} {fg ws : List Int} {b : Int}
theorem tally_rep {a : Nat} {x : Int} (h : Tally fg ws b) (ha : a < fg.length) (hx : 0 ≤ x ∧ x < b) : Tally (rep fg a x) ws b := by
  refine ⟨h.1, by rw [rep_len ha]; exact h.2.1, fun y hy => ?_⟩
  unfold rep at hy
  rcases List.mem_append.mp hy with hy | hy
  · exact h.2.2 y (List.mem_of_mem_take hy)
  · rcases List.mem_cons.mp hy with rfl | hy
    · exact hx
    · exact h.2.2 y (List.mem_of_mem_drop hy)
theorem filter_range_succ (p : Nat → Bool) (i : Nat) : (List.range (i + 1)).filter p = (List.range i).filter p ++ (if p i = true then [i] else []) := by
  rw [List.range_succ, List.filter_append]
  congr 1
  by_cases h : p i = true <;> simp [h]
def swp (fg : List Int) (i : Nat) : List Int := fg.take i ++ fg.getD (i + 1) 0 :: fg.getD i 0 :: fg.drop (i + 2)
theorem getD_mem {ns : List Int} {i : Nat} (h : i < ns.length) : ns.getD i 0 ∈ ns := by
  simp [List.getD, h]
theorem tally_swp {i : Nat} (h : Tally fg ws b) (hi : i + 1 < fg.length) : Tally (swp fg i) ws b := by
  refine ⟨h.1, ?_, fun y hy => ?_⟩
  · rw [← h.2.1]
    unfold swp
    simp
    omega
  · unfold swp at hy
    rcases List.mem_append.mp hy with hy | hy
    · exact h.2.2 y (List.mem_of_mem_take hy)
    · rcases List.mem_cons.mp hy with rfl | hy
      · exact h.2.2 _ (getD_mem hi)
      · rcases List.mem_cons.mp hy with rfl | hy
        · exact h.2.2 _ (getD_mem (by omega))
        · exact h.2.2 y (List.mem_of_mem_drop hy)
theorem swp_map (fg : List Int) (i : Nat) : (swp fg i).map PyData.int = (fg.map PyData.int).take i ++ .int (fg.getD (i + 1) 0) :: .int (fg.getD i 0) :: (fg.map PyData.int).drop (i + 2) := by
  unfold swp
  rw [List.map_append, List.map_cons, List.map_cons, List.map_take, List.map_drop]
theorem s_swapped {i : Nat} (hi : i + 1 < fg.length) (hz : fg.length ≤ 1000) (hk : 0 < k) : (lev fs B k).call "_law_swapped" [.fz (il fg), .fz (.int i)] = .ok (.ol ((swp fg i).map PyData.int)) [.fz (il fg), .fz (.int i)] := by
  rw [lev_call (F := f__law_swapped) rfl (by omega), run_fn rfl]
  have sm := swp_map fg i
  have ix := atI_i (ns := fg) (i := i) (by omega)
  have ix1 := atI_i (ns := fg) (i := i + 1) hi
  rw [Int.natCast_add, Int.natCast_one] at ix1
  have c1 := cut_to (fg.map PyData.int) i
  have c2 := cut_from (fg.map PyData.int) (i + 2)
  have e2 : (((i + 2 : Nat) : Int)) = (i : Int) + 2 := by omega
  rw [e2] at c2
  have n1 : (List.take i (fg.map PyData.int)).length + 2 ≤ 16777216 := by rw [List.length_take, List.length_map]; omega
  have n2 : (List.take i (fg.map PyData.int)).length + 2 + (List.drop (i + 2) (fg.map PyData.int)).length ≤ 16777216 := by rw [List.length_take, List.length_drop, List.length_map]; omega
  rw [sm]
  simp -implicitDefEqProofs only [f__law_swapped, e_nm, e_int, e_str, e_bl, e_non, e_glb, e_bin, e_neg, e_cmp, t_cmp, chn_if, e_chn, t_chn, e_and, e_or, t_and, t_or, e_not, t_not, e_ite, e_lst, e_tup, e_idx, e_slc, e_call, e_bi, e_rl1, e_rl2, e_isi, e_me, e_mu, t_nm, t_bl, t_idx, t_call, t_bi, t_isi, t_lc, t_bin, ds_nil, ds_cons, os_nil, os_cons, oi_none, oi_some, c_none, c_some, i_op, as_nm, as_mv, x_nil, x_cons, x_set, x_setF, x_setT, x_par, x_sub, x_expr, x_ret, x_if, x_raise, x_pass, x_brk, x_cont, x_tryC, bind_ok, bind_exc, map_ok, map_exc, of_some, bind_ite, map_ite, endR_ite, dflT, asT, asD, frz, ofB, cmpB, takeSlot, moveSlot, slotT, Opd.see, sees, T.view, truthD, cmpD, eqD, scalD, binD, negD, isKd, callF, takeA, putA, startR, endR_rt, endR_nx, endR_exc, backs, evB, evT, evD, evO, List.map_cons, List.map_nil, List.length_cons, List.length_nil, List.cons_append, List.nil_append, List.append_nil, List.set_cons_zero, List.set_cons_succ, List.getElem?_cons_zero, List.getElem?_cons_succ, List.replicate_zero, List.replicate_succ, Option.join_some, Option.join_none, Option.bind_some, Option.bind_none, Option.map_some, Option.map_none, Nat.reduceAdd, Nat.reduceSub, Nat.sub_self, List.any_cons, List.any_nil, Bool.or_false, Bool.false_or, Bool.or_true, Bool.true_or, Bool.and_true, Bool.true_and, Bool.and_false, Bool.false_and, Bool.not_true, Bool.not_false, Bool.false_eq_true, reduceIte, reduceCtorEq, decide_eq_true_eq, Bool.not_eq_true', decide_eq_false_iff_not, sz_eq, Nat.reduceLeDiff, isOl, subFin, muFin, muD, setFin, setMany, parFin, idxD, slcD, bi_len, bi_lenT, bi_abs, bi_int, bi_list, bi_listT, bi_max2, bi_min2, Ss.sets, S.sets, Tg.is, List.mem_cons, List.not_mem_nil, or_false, or_true, false_or, true_or, List.mem_append, List.append_assoc, List.append_eq, ix, ix1, c1, c2, n1, n2, List.length_append]
end
/-! ### all tallies -/
def tl (b : Nat) : Nat → List (List Int)
  | 0 => [[]]
  | m + 1 => (tl b m).flatMap fun r => (List.range b).map fun (x : Nat) => r ++ [(x : Int)]
theorem tl_row {b : Nat} : ∀ {m : Nat} {r : List Int}, r ∈ tl b m → r.length = m ∧ ∀ x ∈ r, 0 ≤ x ∧ x < b
  | 0, r, h => by
    rw [List.mem_singleton.mp h]
    exact ⟨rfl, fun _ z => nomatch z⟩
  | m + 1, r, h => by
    obtain ⟨q, hq, h⟩ := List.mem_flatMap.mp h
    obtain ⟨x, hx, rfl⟩ := List.mem_map.mp h
    obtain ⟨h1, h2⟩ := tl_row hq
    have hx := List.mem_range.mp hx
    refine ⟨by rw [List.length_append, h1]; rfl, fun y hy => ?_⟩
    rcases List.mem_append.mp hy with hy | hy
    · exact h2 y hy
    · rw [List.mem_singleton.mp hy]
      omega
theorem flat_len {α β : Type} {f : α → List β} {b : Nat} (h : ∀ r, (f r).length = b) : ∀ rs : List α, (rs.flatMap f).length = rs.length * b
  | [] => by simp
  | r :: rs => by
    rw [List.flatMap_cons, List.length_append, h, flat_len h rs, List.length_cons, Nat.succ_mul, Nat.add_comm]
theorem tl_len (b : Nat) : ∀ m, (tl b m).length = b ^ m
  | 0 => rfl
  | m + 1 => by
    show ((tl b m).flatMap _).length = _
    rw [flat_len (b := b) (fun r => by rw [List.length_map, List.length_range]), tl_len b m, Nat.pow_succ]
theorem tl_le {b : Nat} (hb : b ≤ 9) {m : Nat} (hm : m ≤ 3) : (tl b m).length ≤ 729 := by
  rw [tl_len]
  exact Nat.le_trans (Nat.pow_le_pow_left hb m) (Nat.pow_le_pow_right (n := 9) (by decide) hm)
abbrev ils (rs : List (List Int)) : List D := rs.map fun r => il r
theorem ils_get {rs : List (List Int)} {j : Nat} {y : D} (h : (ils rs)[j]? = some y) : ∃ r, rs[j]? = some r ∧ y = il r := by
  rw [List.getElem?_map] at h
  obtain ⟨r, h1, h2⟩ := Option.map_eq_some_iff.mp h
  exact ⟨r, h1, h2.symm⟩
def ext (b : Nat) (rs : List (List Int)) : List (List Int) := rs.flatMap fun r => (List.range b).map fun (x : Nat) => r ++ [(x : Int)]
theorem ext_len (b : Nat) (rs : List (List Int)) : (ext b rs).length = rs.length * b := by
  unfold ext
  rw [flat_len (b := b) (fun r => by rw [List.length_map, List.length_range])]
theorem ext_take {b : Nat} {rs : List (List Int)} {i : Nat} {r : List Int} (h : rs[i]? = some r) : ext b (rs.take (i + 1)) = ext b (rs.take i) ++ (List.range b).map fun (x : Nat) => r ++ [(x : Int)] := by
  have tk : rs.take (i + 1) = rs.take i ++ [r] := by rw [List.take_add_one, h]; rfl
  unfold ext
  rw [tk, List.flatMap_append]
  simp
theorem s_tallies {B : Fx} {k b m : Nat} (hb : b ≤ 9) (hm : m ≤ 3) (hk : 0 < k) : (lev fs B k).call "_law_tallies" [.fz (.int m), .fz (.int b)] = .ok (.fz (.list (ils (tl b m)))) [.fz (.int m), .fz (.int b)] := by
  rw [lev_call (F := f__law_tallies) rfl (by omega), run_fn rfl]
  have lp : ∃ o3 o4 o5, exS (lev fs B (k - 1)) (.for_ (.one 3) (.rng1 (.nm 0)) (.cons (.set 4 (.lst .nil)) (.cons (.for_ (.one 5) (.opd (.nm 2)) (.cons (.expr (.mu .extend 4 (.cons (.lc (.one 6) [6] (.rng1 (.nm 1)) .none (.bin .Add (.nm 5) (.lst (.cons (.nm 6) .nil)))) .nil))) .nil)) (.cons (.setF 2 (.nm 4)) .nil)))) [some (.fz (.int m)), some (.fz (.int b)), some (.fz (.list [il []])), none, none, none, none] = .ok .nx [some (.fz (.int m)), some (.fz (.int b)), some (.fz (.list (ils (tl b m)))), o3, o4, o5, none] := by
    refine for_r1p (x := .sl 0) (n := m) (ρ1 := [some (.fz (.int m)), some (.fz (.int b)), some (.fz (.list [il []])), none, none, none, none])
      (fun i ρ => ∃ o3 o4 o5, ρ = [some (.fz (.int m)), some (.fz (.int b)), some (.fz (.list (ils (tl b i)))), o3, o4, o5, none])
      (fun r => ∃ o3 o4 o5, r = .ok .nx [some (.fz (.int m)), some (.fz (.int b)), some (.fz (.list (ils (tl b m)))), o3, o4, o5, none]) rfl rfl (by omega) ⟨none, none, none, rfl⟩ ?_ ?_
    · rintro i _ hi ⟨o3, o4, o5, rfl⟩
      have inner : ∃ o5', exS (lev fs B (k - 1)) (.for_ (.one 5) (.opd (.nm 2)) (.cons (.expr (.mu .extend 4 (.cons (.lc (.one 6) [6] (.rng1 (.nm 1)) .none (.bin .Add (.nm 5) (.lst (.cons (.nm 6) .nil)))) .nil))) .nil)) [some (.fz (.int m)), some (.fz (.int b)), some (.fz (.list (ils (tl b i)))), some (.fz (.int i)), some (.ol []), o5, none] = .ok .nx [some (.fz (.int m)), some (.fz (.int b)), some (.fz (.list (ils (tl b i)))), some (.fz (.int i)), some (.ol (ils (tl b (i + 1)))), o5', none] := by
        refine for_lm (x := .sl 2) (d := .list (ils (tl b i))) (k := false) (rs := tl b i) (g := fun r => il r)
          (fun j ρ => ∃ o5', ρ = [some (.fz (.int m)), some (.fz (.int b)), some (.fz (.list (ils (tl b i)))), some (.fz (.int i)), some (.ol (ils (ext b ((tl b i).take j)))), o5', none])
          (fun r => ∃ o5', r = .ok .nx [some (.fz (.int m)), some (.fz (.int b)), some (.fz (.list (ils (tl b i)))), some (.fz (.int i)), some (.ol (ils (tl b (i + 1)))), o5', none]) rfl rfl rfl rfl ⟨o5, rfl⟩ ?_ ?_ ?_
        · rintro j _ ⟨o5', rfl⟩
          rfl
        · rintro j r _ hr ⟨o5', rfl⟩
          have rl := (tl_row (List.mem_of_getElem? hr)).1
          have l2 := tl_le hb (m := i) (by omega)
          have l1 : (ils (ext b ((tl b i).take j))).length ≤ 729 * 9 := by
            rw [List.length_map, ext_len, List.length_take]
            exact Nat.mul_le_mul (by omega) hb
          have lc : (ev2 (lev fs B (k - 1)) (.lc (.one 6) [6] (.rng1 (.nm 1)) .none (.bin .Add (.nm 5) (.lst (.cons (.nm 6) .nil))))).1 [some (.fz (.int m)), some (.fz (.int b)), some (.fz (.list (ils (tl b i)))), some (.fz (.int i)), some (.ol (ils (ext b ((tl b i).take j)))), some (.fz (il r)), none] =
              .ok (.tmp (.ol ((List.range b).map fun (x : Nat) => il (r ++ [(x : Int)])))) [some (.fz (.int m)), some (.fz (.int b)), some (.fz (.list (ils (tl b i)))), some (.fz (.int i)), some (.ol (ils (ext b ((tl b i).take j)))), some (.fz (il r)), none] := by
            refine lc_r1m (x := .sl 1) (fun (x : Nat) => il (r ++ [(x : Int)])) rfl rfl (Nat.lt_succ_self 6) (by omega) fun x hx => ?_
            have c1 : (r.map PyData.int).length + 1 ≤ 16777216 := by rw [List.length_map]; omega
            rw [show (il (r ++ [(x : Int)]) : D) = .list (r.map PyData.int ++ [.int x]) from congrArg PyData.list List.map_append]
            simp -implicitDefEqProofs only [e_nm, e_int, e_str, e_bl, e_non, e_glb, e_bin, e_neg, e_cmp, t_cmp, chn_if, e_chn, t_chn, e_and, e_or, t_and, t_or, e_not, t_not, e_ite, e_lst, e_tup, e_idx, e_slc, e_call, e_bi, e_rl1, e_rl2, e_isi, e_me, e_mu, t_nm, t_bl, t_idx, t_call, t_bi, t_isi, t_lc, t_bin, ds_nil, ds_cons, os_nil, os_cons, oi_none, oi_some, c_none, c_some, i_op, as_nm, as_mv, x_nil, x_cons, x_set, x_setF, x_setT, x_par, x_sub, x_expr, x_ret, x_if, x_raise, x_pass, x_brk, x_cont, x_tryC, bind_ok, bind_exc, map_ok, map_exc, of_some, bind_ite, map_ite, endR_ite, dflT, asT, asD, frz, ofB, cmpB, takeSlot, moveSlot, slotT, Opd.see, sees, T.view, truthD, cmpD, eqD, scalD, binD, negD, isKd, callF, takeA, putA, startR, endR_rt, endR_nx, endR_exc, backs, evB, evT, evD, evO, List.map_cons, List.map_nil, List.length_cons, List.length_nil, List.cons_append, List.nil_append, List.append_nil, List.set_cons_zero, List.set_cons_succ, List.getElem?_cons_zero, List.getElem?_cons_succ, List.replicate_zero, List.replicate_succ, Option.join_some, Option.join_none, Option.bind_some, Option.bind_none, Option.map_some, Option.map_none, Nat.reduceAdd, Nat.reduceSub, Nat.sub_self, List.any_cons, List.any_nil, Bool.or_false, Bool.false_or, Bool.or_true, Bool.true_or, Bool.and_true, Bool.true_and, Bool.and_false, Bool.false_and, Bool.not_true, Bool.not_false, Bool.false_eq_true, reduceIte, reduceCtorEq, decide_eq_true_eq, Bool.not_eq_true', decide_eq_false_iff_not, sz_eq, Nat.reduceLeDiff, isOl, subFin, muFin, muD, setFin, setMany, parFin, idxD, slcD, bi_len, bi_lenT, bi_abs, bi_int, bi_list, bi_listT, bi_max2, bi_min2, Ss.sets, S.sets, Tg.is, List.mem_cons, List.not_mem_nil, or_false, or_true, false_or, true_or, List.mem_append, List.append_assoc, List.append_eq, c1]
          have ex : ils (ext b ((tl b i).take (j + 1))) = ils (ext b ((tl b i).take j)) ++ (List.range b).map fun (x : Nat) => il (r ++ [(x : Int)]) := by
            rw [ext_take hr]
            show List.map _ _ = _
            rw [List.map_append, List.map_map]
            rfl
          have ln : (ils (ext b ((tl b i).take j))).length + ((List.range b).map fun (x : Nat) => il (r ++ [(x : Int)])).length ≤ 16777216 := by
            rw [List.length_map (as := List.range b), List.length_range]
            omega
          have bd : exSs (lev fs B (k - 1)) (.cons (.expr (.mu .extend 4 (.cons (.lc (.one 6) [6] (.rng1 (.nm 1)) .none (.bin .Add (.nm 5) (.lst (.cons (.nm 6) .nil)))) .nil))) .nil) ([some (.fz (.int m)), some (.fz (.int b)), some (.fz (.list (ils (tl b i)))), some (.fz (.int i)), some (.ol (ils (ext b ((tl b i).take j)))), o5', none].set 5 (some (.fz (il r)))) = .ok .nx [some (.fz (.int m)), some (.fz (.int b)), some (.fz (.list (ils (tl b i)))), some (.fz (.int i)), some (.ol (ils (ext b ((tl b i).take (j + 1))))), some (.fz (il r)), none] := by
            rw [ex]
            simp -implicitDefEqProofs only [e_nm, e_int, e_str, e_bl, e_non, e_glb, e_bin, e_neg, e_cmp, t_cmp, chn_if, e_chn, t_chn, e_and, e_or, t_and, t_or, e_not, t_not, e_ite, e_lst, e_tup, e_idx, e_slc, e_call, e_bi, e_rl1, e_rl2, e_isi, e_me, e_mu, t_nm, t_bl, t_idx, t_call, t_bi, t_isi, t_lc, t_bin, ds_nil, ds_cons, os_nil, os_cons, oi_none, oi_some, c_none, c_some, i_op, as_nm, as_mv, x_nil, x_cons, x_set, x_setF, x_setT, x_par, x_sub, x_expr, x_ret, x_if, x_raise, x_pass, x_brk, x_cont, x_tryC, bind_ok, bind_exc, map_ok, map_exc, of_some, bind_ite, map_ite, endR_ite, dflT, asT, asD, frz, ofB, cmpB, takeSlot, moveSlot, slotT, Opd.see, sees, T.view, truthD, cmpD, eqD, scalD, binD, negD, isKd, callF, takeA, putA, startR, endR_rt, endR_nx, endR_exc, backs, evB, evT, evD, evO, List.map_cons, List.map_nil, List.length_cons, List.length_nil, List.cons_append, List.nil_append, List.append_nil, List.set_cons_zero, List.set_cons_succ, List.getElem?_cons_zero, List.getElem?_cons_succ, List.replicate_zero, List.replicate_succ, Option.join_some, Option.join_none, Option.bind_some, Option.bind_none, Option.map_some, Option.map_none, Nat.reduceAdd, Nat.reduceSub, Nat.sub_self, List.any_cons, List.any_nil, Bool.or_false, Bool.false_or, Bool.or_true, Bool.true_or, Bool.and_true, Bool.true_and, Bool.and_false, Bool.false_and, Bool.not_true, Bool.not_false, Bool.false_eq_true, reduceIte, reduceCtorEq, decide_eq_true_eq, Bool.not_eq_true', decide_eq_false_iff_not, sz_eq, Nat.reduceLeDiff, isOl, subFin, muFin, muD, setFin, setMany, parFin, idxD, slcD, bi_len, bi_lenT, bi_abs, bi_int, bi_list, bi_listT, bi_max2, bi_min2, Ss.sets, S.sets, Tg.is, List.mem_cons, List.not_mem_nil, or_false, or_true, false_or, true_or, List.mem_append, List.append_assoc, List.append_eq, lc, ln]
          rw [bd]
          exact ⟨_, rfl⟩
        · rintro _ ⟨o5', rfl⟩
          refine ⟨o5', ?_⟩
          rw [List.take_of_length_le (Nat.le_refl _)]
          rfl
      obtain ⟨o5', inner⟩ := inner
      have bd : exSs (lev fs B (k - 1)) (.cons (.set 4 (.lst .nil)) (.cons (.for_ (.one 5) (.opd (.nm 2)) (.cons (.expr (.mu .extend 4 (.cons (.lc (.one 6) [6] (.rng1 (.nm 1)) .none (.bin .Add (.nm 5) (.lst (.cons (.nm 6) .nil)))) .nil))) .nil)) (.cons (.setF 2 (.nm 4)) .nil))) ([some (.fz (.int m)), some (.fz (.int b)), some (.fz (.list (ils (tl b i)))), o3, o4, o5, none].set 3 (some (.fz (.int i)))) = .ok .nx [some (.fz (.int m)), some (.fz (.int b)), some (.fz (.list (ils (tl b (i + 1))))), some (.fz (.int i)), some (.fz (.list (ils (tl b (i + 1))))), o5', none] := by
        simp -implicitDefEqProofs only [e_nm, e_int, e_str, e_bl, e_non, e_glb, e_bin, e_neg, e_cmp, t_cmp, chn_if, e_chn, t_chn, e_and, e_or, t_and, t_or, e_not, t_not, e_ite, e_lst, e_tup, e_idx, e_slc, e_call, e_bi, e_rl1, e_rl2, e_isi, e_me, e_mu, t_nm, t_bl, t_idx, t_call, t_bi, t_isi, t_lc, t_bin, ds_nil, ds_cons, os_nil, os_cons, oi_none, oi_some, c_none, c_some, i_op, as_nm, as_mv, x_nil, x_cons, x_set, x_setF, x_setT, x_par, x_sub, x_expr, x_ret, x_if, x_raise, x_pass, x_brk, x_cont, x_tryC, bind_ok, bind_exc, map_ok, map_exc, of_some, bind_ite, map_ite, endR_ite, dflT, asT, asD, frz, ofB, cmpB, takeSlot, moveSlot, slotT, Opd.see, sees, T.view, truthD, cmpD, eqD, scalD, binD, negD, isKd, callF, takeA, putA, startR, endR_rt, endR_nx, endR_exc, backs, evB, evT, evD, evO, List.map_cons, List.map_nil, List.length_cons, List.length_nil, List.cons_append, List.nil_append, List.append_nil, List.set_cons_zero, List.set_cons_succ, List.getElem?_cons_zero, List.getElem?_cons_succ, List.replicate_zero, List.replicate_succ, Option.join_some, Option.join_none, Option.bind_some, Option.bind_none, Option.map_some, Option.map_none, Nat.reduceAdd, Nat.reduceSub, Nat.sub_self, List.any_cons, List.any_nil, Bool.or_false, Bool.false_or, Bool.or_true, Bool.true_or, Bool.and_true, Bool.true_and, Bool.and_false, Bool.false_and, Bool.not_true, Bool.not_false, Bool.false_eq_true, reduceIte, reduceCtorEq, decide_eq_true_eq, Bool.not_eq_true', decide_eq_false_iff_not, sz_eq, Nat.reduceLeDiff, isOl, subFin, muFin, muD, setFin, setMany, parFin, idxD, slcD, bi_len, bi_lenT, bi_abs, bi_int, bi_list, bi_listT, bi_max2, bi_min2, Ss.sets, S.sets, Tg.is, List.mem_cons, List.not_mem_nil, or_false, or_true, false_or, true_or, List.mem_append, List.append_assoc, List.append_eq, inner, Nat.zero_le]
      rw [bd]
      exact ⟨_, _, _, rfl⟩
    · exact fun _ h => by obtain ⟨o3, o4, o5, rfl⟩ := h; exact ⟨o3, o4, o5, rfl⟩
  obtain ⟨o3, o4, o5, lp⟩ := lp
  have e0 : (il [] : D) = .list [] := rfl
  rw [e0] at lp
  simp -implicitDefEqProofs only [f__law_tallies, e_nm, e_int, e_str, e_bl, e_non, e_glb, e_bin, e_neg, e_cmp, t_cmp, chn_if, e_chn, t_chn, e_and, e_or, t_and, t_or, e_not, t_not, e_ite, e_lst, e_tup, e_idx, e_slc, e_call, e_bi, e_rl1, e_rl2, e_isi, e_me, e_mu, t_nm, t_bl, t_idx, t_call, t_bi, t_isi, t_lc, t_bin, ds_nil, ds_cons, os_nil, os_cons, oi_none, oi_some, c_none, c_some, i_op, as_nm, as_mv, x_nil, x_cons, x_set, x_setF, x_setT, x_par, x_sub, x_expr, x_ret, x_if, x_raise, x_pass, x_brk, x_cont, x_tryC, bind_ok, bind_exc, map_ok, map_exc, of_some, bind_ite, map_ite, endR_ite, dflT, asT, asD, frz, ofB, cmpB, takeSlot, moveSlot, slotT, Opd.see, sees, T.view, truthD, cmpD, eqD, scalD, binD, negD, isKd, callF, takeA, putA, startR, endR_rt, endR_nx, endR_exc, backs, evB, evT, evD, evO, List.map_cons, List.map_nil, List.length_cons, List.length_nil, List.cons_append, List.nil_append, List.append_nil, List.set_cons_zero, List.set_cons_succ, List.getElem?_cons_zero, List.getElem?_cons_succ, List.replicate_zero, List.replicate_succ, Option.join_some, Option.join_none, Option.bind_some, Option.bind_none, Option.map_some, Option.map_none, Nat.reduceAdd, Nat.reduceSub, Nat.sub_self, List.any_cons, List.any_nil, Bool.or_false, Bool.false_or, Bool.or_true, Bool.true_or, Bool.and_true, Bool.true_and, Bool.and_false, Bool.false_and, Bool.not_true, Bool.not_false, Bool.false_eq_true, reduceIte, reduceCtorEq, decide_eq_true_eq, Bool.not_eq_true', decide_eq_false_iff_not, sz_eq, Nat.reduceLeDiff, isOl, subFin, muFin, muD, setFin, setMany, parFin, idxD, slcD, bi_len, bi_lenT, bi_abs, bi_int, bi_list, bi_listT, bi_max2, bi_min2, Ss.sets, S.sets, Tg.is, List.mem_cons, List.not_mem_nil, or_false, or_true, false_or, true_or, List.mem_append, List.append_assoc, List.append_eq, lp, Nat.zero_le]
def Bx : Fx := prog.fx 1000 hot
theorem lev_fuel (k : Nat) : 101 ≤ (lev fs Bx k).fuel := by
  cases k with
  | zero => exact (by decide : 101 ≤ 1000)
  | succ k => exact (by decide : 101 ≤ 1000)
theorem lev_sub (k : Nat) : (lev fs Bx k).sub = Bx.sub := by cases k <;> rfl
theorem lev_hot {k : Nat} (hk : 0 < k) : (lev fs Bx k).hot = hot := by
  cases k with
  | zero => omega
  | succ k => rfl
theorem mem_tl {b : Nat} : ∀ {m : Nat} {ws : List Int}, ws.length = m → (∀ w ∈ ws, 0 ≤ w ∧ w < b) → ws ∈ tl b m
  | 0, ws, h, _ => by
    rw [List.length_eq_zero_iff.mp h]
    exact List.mem_singleton.mpr rfl
  | m + 1, ws, h, hw => by
    have ne : ws ≠ [] := fun z => by rw [z] at h; cases h
    have e : ws.dropLast ++ [ws.getLast ne] = ws := List.dropLast_concat_getLast ne
    refine List.mem_flatMap.mpr ⟨ws.dropLast, mem_tl (by rw [List.length_dropLast, h]; rfl) (fun w hm => hw w (List.dropLast_subset _ hm)), ?_⟩
    have hl := hw _ (List.getLast_mem ne)
    refine List.mem_map.mpr ⟨(ws.getLast ne).toNat, List.mem_range.mpr (by omega), ?_⟩
    rw [Int.toNat_of_nonneg hl.1]
    exact e
end L2.Eng.K58

namespace L2.Eng.K58
open PySem
/-! ### divisors in common -/
def prI (w b : Int) : Option Int := if Nat.gcd w.toNat b.toNat = 1 then none else some (b.fdiv (Nat.gcd w.toNat b.toNat : Nat))
theorem prI_of {w b : Int} {g : Nat} (h : Nat.gcd w.toNat b.toNat = g) : prI w b = if g = 1 then none else some (b.fdiv (g : Int)) := by
  subst h
  rfl
def rowsL (w b : Int) : List Nat := (List.range (b - 1).toNat).filter fun (i : Nat) => decide (((1 + (i : Int)) * w).fmod b = 0)
theorem hid_all : ((List.range 32).all fun b => (List.range 32).all fun w => decide (2 ≤ b → w < b → ((rowsL (w : Int) (b : Int)).head?.map fun (i : Nat) => (1 + (i : Int))) = prI w b)) = true := by decide +kernel
theorem hid_eq {w b : Int} (h1 : 2 ≤ b) (h2 : b ≤ 31) (h3 : 0 ≤ w ∧ w < b) : ((rowsL w b).head?.map fun (i : Nat) => (1 + (i : Int))) = prI w b := by
  have q := List.all_eq_true.mp (List.all_eq_true.mp hid_all b.toNat (List.mem_range.mpr (by omega))) w.toNat (List.mem_range.mpr (by omega))
  have q := of_decide_eq_true q (by omega) (by omega)
  rwa [Int.toNat_of_nonneg (by omega), Int.toNat_of_nonneg (by omega)] at q
def fnd (p : Nat → Option Int) (n : Nat) : Option D := (List.range n).findSome? fun i => (p i).map fun y => PyData.tuple [.int i, .int y]
def hwD (p : Nat → Option Int) (n : Nat) : D := (fnd p n).getD .none
def alN (p : Nat → Option Int) (n : Nat) : Bool := (List.range n).all fun i => (p i).isNone
theorem fnd_T (p : Nat → Option Int) (n : Nat) : ((List.range n).findSome? fun i => (p i).map fun y => T.fz (.tuple [.int i, .int y])) = (fnd p n).map T.fz := by
  unfold fnd
  rw [List.map_findSome?]
  congr 1
  funext i
  show _ = Option.map T.fz _
  rw [Option.map_map]
  rfl
theorem first_hw {I J : Rho → Prop} {p : Nat → Option Int} {n : Nat} {r : R Fl} (h : First I J ((List.range n).findSome? fun i => (p i).map fun y => T.fz (.tuple [.int i, .int y])) r) : (hwD p n = .none ∧ ∃ ρ, r = .ok .nx ρ ∧ I ρ) ∨ ∃ ρ, r = .ok (.rt (.fz (hwD p n))) ρ ∧ J ρ := by
  rw [fnd_T] at h
  unfold hwD
  cases hf : fnd p n with
  | none =>
    rw [hf] at h
    rcases h with ⟨_, h⟩ | ⟨t, e, _⟩
    · exact .inl ⟨rfl, h⟩
    · cases e
  | some d =>
    rw [hf] at h
    rcases h with ⟨e, _⟩ | ⟨t, e, ρ, h⟩
    · cases e
    · cases e
      exact .inr ⟨ρ, h⟩
theorem non_hw (p : Nat → Option Int) (n : Nat) : isNonD (hwD p n) = alN p n := by
  unfold hwD alN fnd
  induction List.range n with
  | nil => rfl
  | cons i r ih =>
    rw [List.findSome?_cons, List.all_cons]
    cases p i with
    | none => simpa using ih
    | some y => rfl
theorem good_hw (p : Nat → Option Int) (n : Nat) : good 2 (hwD p n) := by
  unfold hwD fnd
  cases h : (List.range n).findSome? fun i => (p i).map fun y => PyData.tuple [.int i, .int y] with
  | none => trivial
  | some d =>
    obtain ⟨i, _, hi⟩ := List.exists_of_findSome?_eq_some h
    obtain ⟨y, _, rfl⟩ := Option.map_eq_some_iff.mp hi
    refine ⟨by show 2 ≤ 16777216; decide, fun e he => ?_⟩
    rcases List.mem_cons.mp he with rfl | he
    · trivial
    · rw [List.mem_singleton.mp he]
      trivial
theorem all_getD {q : Int → Bool} : ∀ ws : List Int, ((List.range ws.length).all fun i => q (ws.getD i 0)) = ws.all q := fun ws => by
  rw [Bool.eq_iff_iff, List.all_eq_true, List.all_eq_true]
  constructor
  · intro h w hw
    obtain ⟨i, hi, rfl⟩ := List.getElem_of_mem hw
    have := h i (List.mem_range.mpr hi)
    simpa [List.getD, hi] using this
  · intro h i hi
    exact h _ (getD_mem (List.mem_range.mp hi))
def ab (d : Int) : Int := if d < 0 then -d else d
def steps (ws : List Int) : List Int := (List.range (ws.length - 1)).map fun i => ab (ws.getD (i + 1) 0 - ws.getD i 0)
theorem steps_len (ws : List Int) : (steps ws).length = ws.length - 1 := by
  unfold steps
  rw [List.length_map, List.length_range]
theorem steps_at {ws : List Int} {i : Nat} (h : i < ws.length - 1) : (steps ws).getD i 0 = ab (ws.getD (i + 1) 0 - ws.getD i 0) := by
  unfold steps
  rw [List.getD, List.getElem?_map, List.getElem?_range h]
  rfl
theorem ab_bnd {b x y : Int} (hx : 0 ≤ x ∧ x < b) (hy : 0 ≤ y ∧ y < b) : 0 ≤ ab (x - y) ∧ ab (x - y) < b := by
  unfold ab
  split <;> omega
theorem steps_bnd {ws : List Int} {b : Int} (h : ∀ w ∈ ws, 0 ≤ w ∧ w < b) : ∀ w ∈ steps ws, 0 ≤ w ∧ w < b := fun w hw => by
  obtain ⟨i, hi, rfl⟩ := List.mem_map.mp hw
  have hi := List.mem_range.mp hi
  exact ab_bnd (h _ (getD_mem (by omega))) (h _ (getD_mem (by omega)))
section
variable {k : Nat} {t : T} {ws : List Int} {b : Int}
theorem gcd_call {w : Int} (hk : 0 < k) (hw : 0 ≤ w) (hb : 0 ≤ b) (hb2 : b ≤ 100) : (lev fs Bx k).call "common" [.fz (.int w), .fz (.int b)] = .ok (.fz (.int (Nat.gcd w.toNat b.toNat : Nat))) [.fz (.int w), .fz (.int b)] := by
  have q := s_common (B := Bx) (k := k) (x := w.toNat) (y := b.toNat) hk (by have := lev_fuel (k - 1); omega)
  rwa [Int.toNat_of_nonneg hw, Int.toNat_of_nonneg hb] at q
theorem pr_none {w : Int} : (prI w b).isNone = decide (((Nat.gcd w.toNat b.toNat : Nat) : Int) = 1) := by
  unfold prI
  split
  · rename_i h
    rw [h]
    rfl
  · rename_i h
    rw [decide_eq_false (by omega)]
    rfl
theorem a0_rule : atI [il ws, .int b] (0 : Int) = some (il ws) := rfl
theorem s_shows (h : Rule ws b) (hk : 2 < k) : (lev fs Bx k).call "shows_wrong" [.fz (il ws), .fz (.int b)] = .ok (.fz (.bool (alN (fun i => prI (ws.getD i 0) b) ws.length))) [.fz (il ws), .fz (.int b)] := by
  rw [lev_call (F := f_shows_wrong) rfl (by omega), run_fn rfl]
  have cr := s_rule (B := Bx) (k := k - 1) h (by omega)
  have hb := h.1
  have hb2 := h.2.1
  have hz := h.2.2.2.1
  have hw := h.2.2.2.2
  have lc : (ev2 (lev fs Bx (k - 1)) (.lc (.one 3) [3] (.opd (.nm 2)) (.some (.cmp .NotEq (.call "common" (.cons (.nm 3) (.cons (.nm 1) .nil)) []) (.int 1))) (.nm 3))).1 [some (.fz (il ws)), some (.fz (.int b)), some (.fz (il ws)), none] = .ok (.tmp (.ol ((ws.filter fun w => !(prI w b).isNone).map fun w => .int w))) [some (.fz (il ws)), some (.fz (.int b)), some (.fz (il ws)), none] := by
    refine lc_lm (x := .sl 2) (d := il ws) (k := false) (rs := ws) (g := PyData.int) (fun w => !(prI w b).isNone) (fun w => .int w) rfl rfl rfl (fun z => by cases z) (by show 3 < 4; decide) (by omega) (fun w hm => ?_) (fun w hm _ => ?_)
    · have g := gcd_call (k := k - 1) (b := b) (w := w) (by omega) (hw w hm).1 (by omega) (by omega)
      rw [pr_none]
      simp -implicitDefEqProofs only [e_nm, e_int, e_str, e_bl, e_non, e_glb, e_bin, e_neg, e_cmp, t_cmp, chn_if, e_chn, t_chn, e_and, e_or, t_and, t_or, e_not, t_not, e_ite, e_lst, e_tup, e_idx, e_slc, e_call, e_bi, e_rl1, e_rl2, e_isi, e_me, e_mu, t_nm, t_bl, t_idx, t_call, t_bi, t_isi, t_lc, t_bin, ds_nil, ds_cons, os_nil, os_cons, oi_none, oi_some, c_none, c_some, i_op, as_nm, as_mv, x_nil, x_cons, x_set, x_setF, x_setT, x_par, x_sub, x_expr, x_ret, x_if, x_raise, x_pass, x_brk, x_cont, x_tryC, bind_ok, bind_exc, map_ok, map_exc, of_some, bind_ite, map_ite, endR_ite, dflT, asT, asD, frz, ofB, cmpB, takeSlot, moveSlot, slotT, Opd.see, sees, T.view, truthD, cmpD, eqD, scalD, binD, negD, isKd, callF, takeA, putA, startR, endR_rt, endR_nx, endR_exc, backs, evB, evT, evD, evO, List.map_cons, List.map_nil, List.length_cons, List.length_nil, List.cons_append, List.nil_append, List.append_nil, List.set_cons_zero, List.set_cons_succ, List.getElem?_cons_zero, List.getElem?_cons_succ, List.replicate_zero, List.replicate_succ, Option.join_some, Option.join_none, Option.bind_some, Option.bind_none, Option.map_some, Option.map_none, Nat.reduceAdd, Nat.reduceSub, Nat.sub_self, List.any_cons, List.any_nil, Bool.or_false, Bool.false_or, Bool.or_true, Bool.true_or, Bool.and_true, Bool.true_and, Bool.and_false, Bool.false_and, Bool.not_true, Bool.not_false, Bool.false_eq_true, reduceIte, reduceCtorEq, decide_eq_true_eq, Bool.not_eq_true', decide_eq_false_iff_not, sz_eq, Nat.reduceLeDiff, isOl, subFin, muFin, muD, setFin, setMany, parFin, idxD, slcD, bi_len, bi_lenT, bi_abs, bi_int, bi_list, bi_listT, bi_max2, bi_min2, Ss.sets, S.sets, Tg.is, List.mem_cons, List.not_mem_nil, or_false, or_true, false_or, true_or, List.mem_append, List.append_assoc, List.append_eq, g, eqv_int]
    · simp -implicitDefEqProofs only [e_nm, e_int, e_str, e_bl, e_non, e_glb, e_bin, e_neg, e_cmp, t_cmp, chn_if, e_chn, t_chn, e_and, e_or, t_and, t_or, e_not, t_not, e_ite, e_lst, e_tup, e_idx, e_slc, e_call, e_bi, e_rl1, e_rl2, e_isi, e_me, e_mu, t_nm, t_bl, t_idx, t_call, t_bi, t_isi, t_lc, t_bin, ds_nil, ds_cons, os_nil, os_cons, oi_none, oi_some, c_none, c_some, i_op, as_nm, as_mv, x_nil, x_cons, x_set, x_setF, x_setT, x_par, x_sub, x_expr, x_ret, x_if, x_raise, x_pass, x_brk, x_cont, x_tryC, bind_ok, bind_exc, map_ok, map_exc, of_some, bind_ite, map_ite, endR_ite, dflT, asT, asD, frz, ofB, cmpB, takeSlot, moveSlot, slotT, Opd.see, sees, T.view, truthD, cmpD, eqD, scalD, binD, negD, isKd, callF, takeA, putA, startR, endR_rt, endR_nx, endR_exc, backs, evB, evT, evD, evO, List.map_cons, List.map_nil, List.length_cons, List.length_nil, List.cons_append, List.nil_append, List.append_nil, List.set_cons_zero, List.set_cons_succ, List.getElem?_cons_zero, List.getElem?_cons_succ, List.replicate_zero, List.replicate_succ, Option.join_some, Option.join_none, Option.bind_some, Option.bind_none, Option.map_some, Option.map_none, Nat.reduceAdd, Nat.reduceSub, Nat.sub_self, List.any_cons, List.any_nil, Bool.or_false, Bool.false_or, Bool.or_true, Bool.true_or, Bool.and_true, Bool.true_and, Bool.and_false, Bool.false_and, Bool.not_true, Bool.not_false, Bool.false_eq_true, reduceIte, reduceCtorEq, decide_eq_true_eq, Bool.not_eq_true', decide_eq_false_iff_not, sz_eq, Nat.reduceLeDiff, isOl, subFin, muFin, muD, setFin, setMany, parFin, idxD, slcD, bi_len, bi_lenT, bi_abs, bi_int, bi_list, bi_listT, bi_max2, bi_min2, Ss.sets, S.sets, Tg.is, List.mem_cons, List.not_mem_nil, or_false, or_true, false_or, true_or, List.mem_append, List.append_assoc, List.append_eq]
  have e : ((ws.filter fun w => !(prI w b).isNone).map fun w => PyData.int w).isEmpty = alN (fun i => prI (ws.getD i 0) b) ws.length := by
    unfold alN
    rw [all_getD (q := fun w => (prI w b).isNone), List.isEmpty_map]
    rw [Bool.eq_iff_iff, List.isEmpty_iff, List.filter_eq_nil_iff, List.all_eq_true]
    simp
  simp -implicitDefEqProofs only [f_shows_wrong, e_nm, e_int, e_str, e_bl, e_non, e_glb, e_bin, e_neg, e_cmp, t_cmp, chn_if, e_chn, t_chn, e_and, e_or, t_and, t_or, e_not, t_not, e_ite, e_lst, e_tup, e_idx, e_slc, e_call, e_bi, e_rl1, e_rl2, e_isi, e_me, e_mu, t_nm, t_bl, t_idx, t_call, t_bi, t_isi, t_lc, t_bin, ds_nil, ds_cons, os_nil, os_cons, oi_none, oi_some, c_none, c_some, i_op, as_nm, as_mv, x_nil, x_cons, x_set, x_setF, x_setT, x_par, x_sub, x_expr, x_ret, x_if, x_raise, x_pass, x_brk, x_cont, x_tryC, bind_ok, bind_exc, map_ok, map_exc, of_some, bind_ite, map_ite, endR_ite, dflT, asT, asD, frz, ofB, cmpB, takeSlot, moveSlot, slotT, Opd.see, sees, T.view, truthD, cmpD, eqD, scalD, binD, negD, isKd, callF, takeA, putA, startR, endR_rt, endR_nx, endR_exc, backs, evB, evT, evD, evO, List.map_cons, List.map_nil, List.length_cons, List.length_nil, List.cons_append, List.nil_append, List.append_nil, List.set_cons_zero, List.set_cons_succ, List.getElem?_cons_zero, List.getElem?_cons_succ, List.replicate_zero, List.replicate_succ, Option.join_some, Option.join_none, Option.bind_some, Option.bind_none, Option.map_some, Option.map_none, Nat.reduceAdd, Nat.reduceSub, Nat.sub_self, List.any_cons, List.any_nil, Bool.or_false, Bool.false_or, Bool.or_true, Bool.true_or, Bool.and_true, Bool.true_and, Bool.and_false, Bool.false_and, Bool.not_true, Bool.not_false, Bool.false_eq_true, reduceIte, reduceCtorEq, decide_eq_true_eq, Bool.not_eq_true', decide_eq_false_iff_not, sz_eq, Nat.reduceLeDiff, isOl, subFin, muFin, muD, setFin, setMany, parFin, idxD, slcD, bi_len, bi_lenT, bi_abs, bi_int, bi_list, bi_listT, bi_max2, bi_min2, Ss.sets, S.sets, Tg.is, List.mem_cons, List.not_mem_nil, or_false, or_true, false_or, true_or, List.mem_append, List.append_assoc, List.append_eq, cr, a0_rule, lc, e, Bool.not_not]
theorem s_showsE (h : Rule ws b) (hk : 2 < k) : (lev fs Bx k).call "shows_exchanged" [.fz (il ws), .fz (.int b)] = .ok (.fz (.bool (alN (fun i => prI ((steps ws).getD i 0) b) (steps ws).length))) [.fz (il ws), .fz (.int b)] := by
  rw [lev_call (F := f_shows_exchanged) rfl (by omega), run_fn rfl]
  have cr := s_rule (B := Bx) (k := k - 1) h (by omega)
  have hb := h.1
  have hb2 := h.2.1
  have hz := h.2.2.2.1
  have hz1 := h.2.2.1
  have hw := h.2.2.2.2
  have lc : (ev2 (lev fs Bx (k - 1)) (.lc (.one 3) [3] (.rng2 (.int 1) (.bi .len (.cons (.nm 2) .nil))) (.some (.cmp .NotEq (.call "common" (.cons (.bi .abs (.cons (.bin .Sub (.idx (.nm 2) (.nm 3)) (.idx (.nm 2) (.bin .Sub (.nm 3) (.int 1)))) .nil)) (.cons (.nm 1) .nil)) []) (.int 1))) (.nm 3))).1 [some (.fz (il ws)), some (.fz (.int b)), some (.fz (il ws)), none] = .ok (.tmp (.ol (((List.range ((ws.length : Int) - 1).toNat).filter fun i => !(prI ((steps ws).getD i 0) b).isNone).map fun (i : Nat) => .int (1 + (i : Int))))) [some (.fz (il ws)), some (.fz (.int b)), some (.fz (il ws)), none] := by
    refine lc_r2 (x := .tmp (.fz (.int 1))) (y := .tmp (.fz (.int ws.length))) (ρ1 := [some (.fz (il ws)), some (.fz (.int b)), some (.fz (il ws)), none]) (fun i => !(prI ((steps ws).getD i 0) b).isNone) (fun (i : Nat) => .int (1 + (i : Int))) rfl (by simp -implicitDefEqProofs only [e_nm, e_int, e_str, e_bl, e_non, e_glb, e_bin, e_neg, e_cmp, t_cmp, chn_if, e_chn, t_chn, e_and, e_or, t_and, t_or, e_not, t_not, e_ite, e_lst, e_tup, e_idx, e_slc, e_call, e_bi, e_rl1, e_rl2, e_isi, e_me, e_mu, t_nm, t_bl, t_idx, t_call, t_bi, t_isi, t_lc, t_bin, ds_nil, ds_cons, os_nil, os_cons, oi_none, oi_some, c_none, c_some, i_op, as_nm, as_mv, x_nil, x_cons, x_set, x_setF, x_setT, x_par, x_sub, x_expr, x_ret, x_if, x_raise, x_pass, x_brk, x_cont, x_tryC, bind_ok, bind_exc, map_ok, map_exc, of_some, bind_ite, map_ite, endR_ite, dflT, asT, asD, frz, ofB, cmpB, takeSlot, moveSlot, slotT, Opd.see, sees, T.view, truthD, cmpD, eqD, scalD, binD, negD, isKd, callF, takeA, putA, startR, endR_rt, endR_nx, endR_exc, backs, evB, evT, evD, evO, List.map_cons, List.map_nil, List.length_cons, List.length_nil, List.cons_append, List.nil_append, List.append_nil, List.set_cons_zero, List.set_cons_succ, List.getElem?_cons_zero, List.getElem?_cons_succ, List.replicate_zero, List.replicate_succ, Option.join_some, Option.join_none, Option.bind_some, Option.bind_none, Option.map_some, Option.map_none, Nat.reduceAdd, Nat.reduceSub, Nat.sub_self, List.any_cons, List.any_nil, Bool.or_false, Bool.false_or, Bool.or_true, Bool.true_or, Bool.and_true, Bool.true_and, Bool.and_false, Bool.false_and, Bool.not_true, Bool.not_false, Bool.false_eq_true, reduceIte, reduceCtorEq, decide_eq_true_eq, Bool.not_eq_true', decide_eq_false_iff_not, sz_eq, Nat.reduceLeDiff, isOl, subFin, muFin, muD, setFin, setMany, parFin, idxD, slcD, bi_len, bi_lenT, bi_abs, bi_int, bi_list, bi_listT, bi_max2, bi_min2, Ss.sets, S.sets, Tg.is, List.mem_cons, List.not_mem_nil, or_false, or_true, false_or, true_or, List.mem_append, List.append_assoc, List.append_eq, List.length_map]) rfl rfl (by show 3 < 4; decide) (by omega) (by omega) (fun i hi => ?_) (fun i hi _ => ?_)
    · have ix := atI_i (ns := ws) (i := i) (by omega)
      have ix1 := atI_i (ns := ws) (i := i + 1) (by omega)
      have e0 : (1 : Int) + (i : Int) = ((i + 1 : Nat) : Int) := by omega
      have e1 : (((i + 1 : Nat) : Int)) - 1 = (i : Int) := by omega
      have st := steps_at (ws := ws) (i := i) (by omega)
      have bn := ab_bnd (hw _ (getD_mem (i := i + 1) (by omega))) (hw _ (getD_mem (i := i) (by omega)))
      have g := gcd_call (k := k - 1) (b := b) (w := ab (ws.getD (i + 1) 0 - ws.getD i 0)) (by omega) bn.1 (by omega) (by omega)
      rw [pr_none, st, e0]
      unfold ab at g ⊢
      simp -implicitDefEqProofs only [e_nm, e_int, e_str, e_bl, e_non, e_glb, e_bin, e_neg, e_cmp, t_cmp, chn_if, e_chn, t_chn, e_and, e_or, t_and, t_or, e_not, t_not, e_ite, e_lst, e_tup, e_idx, e_slc, e_call, e_bi, e_rl1, e_rl2, e_isi, e_me, e_mu, t_nm, t_bl, t_idx, t_call, t_bi, t_isi, t_lc, t_bin, ds_nil, ds_cons, os_nil, os_cons, oi_none, oi_some, c_none, c_some, i_op, as_nm, as_mv, x_nil, x_cons, x_set, x_setF, x_setT, x_par, x_sub, x_expr, x_ret, x_if, x_raise, x_pass, x_brk, x_cont, x_tryC, bind_ok, bind_exc, map_ok, map_exc, of_some, bind_ite, map_ite, endR_ite, dflT, asT, asD, frz, ofB, cmpB, takeSlot, moveSlot, slotT, Opd.see, sees, T.view, truthD, cmpD, eqD, scalD, binD, negD, isKd, callF, takeA, putA, startR, endR_rt, endR_nx, endR_exc, backs, evB, evT, evD, evO, List.map_cons, List.map_nil, List.length_cons, List.length_nil, List.cons_append, List.nil_append, List.append_nil, List.set_cons_zero, List.set_cons_succ, List.getElem?_cons_zero, List.getElem?_cons_succ, List.replicate_zero, List.replicate_succ, Option.join_some, Option.join_none, Option.bind_some, Option.bind_none, Option.map_some, Option.map_none, Nat.reduceAdd, Nat.reduceSub, Nat.sub_self, List.any_cons, List.any_nil, Bool.or_false, Bool.false_or, Bool.or_true, Bool.true_or, Bool.and_true, Bool.true_and, Bool.and_false, Bool.false_and, Bool.not_true, Bool.not_false, Bool.false_eq_true, reduceIte, reduceCtorEq, decide_eq_true_eq, Bool.not_eq_true', decide_eq_false_iff_not, sz_eq, Nat.reduceLeDiff, isOl, subFin, muFin, muD, setFin, setMany, parFin, idxD, slcD, bi_len, bi_lenT, bi_abs, bi_int, bi_list, bi_listT, bi_max2, bi_min2, Ss.sets, S.sets, Tg.is, List.mem_cons, List.not_mem_nil, or_false, or_true, false_or, true_or, List.mem_append, List.append_assoc, List.append_eq, ix, ix1, e1, g, eqv_int]
    · simp -implicitDefEqProofs only [e_nm, e_int, e_str, e_bl, e_non, e_glb, e_bin, e_neg, e_cmp, t_cmp, chn_if, e_chn, t_chn, e_and, e_or, t_and, t_or, e_not, t_not, e_ite, e_lst, e_tup, e_idx, e_slc, e_call, e_bi, e_rl1, e_rl2, e_isi, e_me, e_mu, t_nm, t_bl, t_idx, t_call, t_bi, t_isi, t_lc, t_bin, ds_nil, ds_cons, os_nil, os_cons, oi_none, oi_some, c_none, c_some, i_op, as_nm, as_mv, x_nil, x_cons, x_set, x_setF, x_setT, x_par, x_sub, x_expr, x_ret, x_if, x_raise, x_pass, x_brk, x_cont, x_tryC, bind_ok, bind_exc, map_ok, map_exc, of_some, bind_ite, map_ite, endR_ite, dflT, asT, asD, frz, ofB, cmpB, takeSlot, moveSlot, slotT, Opd.see, sees, T.view, truthD, cmpD, eqD, scalD, binD, negD, isKd, callF, takeA, putA, startR, endR_rt, endR_nx, endR_exc, backs, evB, evT, evD, evO, List.map_cons, List.map_nil, List.length_cons, List.length_nil, List.cons_append, List.nil_append, List.append_nil, List.set_cons_zero, List.set_cons_succ, List.getElem?_cons_zero, List.getElem?_cons_succ, List.replicate_zero, List.replicate_succ, Option.join_some, Option.join_none, Option.bind_some, Option.bind_none, Option.map_some, Option.map_none, Nat.reduceAdd, Nat.reduceSub, Nat.sub_self, List.any_cons, List.any_nil, Bool.or_false, Bool.false_or, Bool.or_true, Bool.true_or, Bool.and_true, Bool.true_and, Bool.and_false, Bool.false_and, Bool.not_true, Bool.not_false, Bool.false_eq_true, reduceIte, reduceCtorEq, decide_eq_true_eq, Bool.not_eq_true', decide_eq_false_iff_not, sz_eq, Nat.reduceLeDiff, isOl, subFin, muFin, muD, setFin, setMany, parFin, idxD, slcD, bi_len, bi_lenT, bi_abs, bi_int, bi_list, bi_listT, bi_max2, bi_min2, Ss.sets, S.sets, Tg.is, List.mem_cons, List.not_mem_nil, or_false, or_true, false_or, true_or, List.mem_append, List.append_assoc, List.append_eq]
  have e : (((List.range ((ws.length : Int) - 1).toNat).filter fun i => !(prI ((steps ws).getD i 0) b).isNone).map fun (i : Nat) => PyData.int (1 + (i : Int))).isEmpty = alN (fun i => prI ((steps ws).getD i 0) b) (steps ws).length := by
    unfold alN
    rw [steps_len, show ((ws.length : Int) - 1).toNat = ws.length - 1 by omega, List.isEmpty_map]
    rw [Bool.eq_iff_iff, List.isEmpty_iff, List.filter_eq_nil_iff, List.all_eq_true]
    simp
  simp -implicitDefEqProofs only [f_shows_exchanged, e_nm, e_int, e_str, e_bl, e_non, e_glb, e_bin, e_neg, e_cmp, t_cmp, chn_if, e_chn, t_chn, e_and, e_or, t_and, t_or, e_not, t_not, e_ite, e_lst, e_tup, e_idx, e_slc, e_call, e_bi, e_rl1, e_rl2, e_isi, e_me, e_mu, t_nm, t_bl, t_idx, t_call, t_bi, t_isi, t_lc, t_bin, ds_nil, ds_cons, os_nil, os_cons, oi_none, oi_some, c_none, c_some, i_op, as_nm, as_mv, x_nil, x_cons, x_set, x_setF, x_setT, x_par, x_sub, x_expr, x_ret, x_if, x_raise, x_pass, x_brk, x_cont, x_tryC, bind_ok, bind_exc, map_ok, map_exc, of_some, bind_ite, map_ite, endR_ite, dflT, asT, asD, frz, ofB, cmpB, takeSlot, moveSlot, slotT, Opd.see, sees, T.view, truthD, cmpD, eqD, scalD, binD, negD, isKd, callF, takeA, putA, startR, endR_rt, endR_nx, endR_exc, backs, evB, evT, evD, evO, List.map_cons, List.map_nil, List.length_cons, List.length_nil, List.cons_append, List.nil_append, List.append_nil, List.set_cons_zero, List.set_cons_succ, List.getElem?_cons_zero, List.getElem?_cons_succ, List.replicate_zero, List.replicate_succ, Option.join_some, Option.join_none, Option.bind_some, Option.bind_none, Option.map_some, Option.map_none, Nat.reduceAdd, Nat.reduceSub, Nat.sub_self, List.any_cons, List.any_nil, Bool.or_false, Bool.false_or, Bool.or_true, Bool.true_or, Bool.and_true, Bool.true_and, Bool.and_false, Bool.false_and, Bool.not_true, Bool.not_false, Bool.false_eq_true, reduceIte, reduceCtorEq, decide_eq_true_eq, Bool.not_eq_true', decide_eq_false_iff_not, sz_eq, Nat.reduceLeDiff, isOl, subFin, muFin, muD, setFin, setMany, parFin, idxD, slcD, bi_len, bi_lenT, bi_abs, bi_int, bi_list, bi_listT, bi_max2, bi_min2, Ss.sets, S.sets, Tg.is, List.mem_cons, List.not_mem_nil, or_false, or_true, false_or, true_or, List.mem_append, List.append_assoc, List.append_eq, cr, a0_rule, lc, e, Bool.not_not]
theorem s_hidden (h : Rule ws b) (hk : 2 < k) : (lev fs Bx k).call "hidden_wrong" [.fz (il ws), .fz (.int b)] = .ok (.fz (hwD (fun i => prI (ws.getD i 0) b) ws.length)) [.fz (il ws), .fz (.int b)] := by
  rw [lev_call (F := f_hidden_wrong) rfl (by omega), run_fn rfl]
  have cr := s_rule (B := Bx) (k := k - 1) h (by omega)
  have hb := h.1
  have hb2 := h.2.1
  have hz := h.2.2.2.1
  have hw := h.2.2.2.2
  have lp : First (fun ρ => ∃ o3 o4, ρ = [some (.fz (il ws)), some (.fz (.int b)), some (.fz (il ws)), o3, o4]) (fun _ => True) ((List.range ws.length).findSome? fun i => (prI (ws.getD i 0) b).map fun y => T.fz (.tuple [.int i, .int y])) (exS (lev fs Bx (k - 1)) (.for_ (.one 3) (.rng1 (.bi .len (.cons (.nm 2) .nil))) (.cons (.setF 4 (.call "common" (.cons (.idx (.nm 2) (.nm 3)) (.cons (.nm 1) .nil)) [])) (.cons (.ifS (.cmp .NotEq (.nm 4) (.int 1)) (.cons (.ret (.tup (.cons (.nm 3) (.cons (.bin .FloorDiv (.nm 1) (.nm 4)) .nil)))) .nil) .nil) .nil))) [some (.fz (il ws)), some (.fz (.int b)), some (.fz (il ws)), none, none]) := by
    refine first_r1 (x := .tmp (.fz (.int ws.length))) (ρ1 := [some (.fz (il ws)), some (.fz (.int b)), some (.fz (il ws)), none, none]) _ (by simp -implicitDefEqProofs only [e_nm, e_int, e_str, e_bl, e_non, e_glb, e_bin, e_neg, e_cmp, t_cmp, chn_if, e_chn, t_chn, e_and, e_or, t_and, t_or, e_not, t_not, e_ite, e_lst, e_tup, e_idx, e_slc, e_call, e_bi, e_rl1, e_rl2, e_isi, e_me, e_mu, t_nm, t_bl, t_idx, t_call, t_bi, t_isi, t_lc, t_bin, ds_nil, ds_cons, os_nil, os_cons, oi_none, oi_some, c_none, c_some, i_op, as_nm, as_mv, x_nil, x_cons, x_set, x_setF, x_setT, x_par, x_sub, x_expr, x_ret, x_if, x_raise, x_pass, x_brk, x_cont, x_tryC, bind_ok, bind_exc, map_ok, map_exc, of_some, bind_ite, map_ite, endR_ite, dflT, asT, asD, frz, ofB, cmpB, takeSlot, moveSlot, slotT, Opd.see, sees, T.view, truthD, cmpD, eqD, scalD, binD, negD, isKd, callF, takeA, putA, startR, endR_rt, endR_nx, endR_exc, backs, evB, evT, evD, evO, List.map_cons, List.map_nil, List.length_cons, List.length_nil, List.cons_append, List.nil_append, List.append_nil, List.set_cons_zero, List.set_cons_succ, List.getElem?_cons_zero, List.getElem?_cons_succ, List.replicate_zero, List.replicate_succ, Option.join_some, Option.join_none, Option.bind_some, Option.bind_none, Option.map_some, Option.map_none, Nat.reduceAdd, Nat.reduceSub, Nat.sub_self, List.any_cons, List.any_nil, Bool.or_false, Bool.false_or, Bool.or_true, Bool.true_or, Bool.and_true, Bool.true_and, Bool.and_false, Bool.false_and, Bool.not_true, Bool.not_false, Bool.false_eq_true, reduceIte, reduceCtorEq, decide_eq_true_eq, Bool.not_eq_true', decide_eq_false_iff_not, sz_eq, Nat.reduceLeDiff, isOl, subFin, muFin, muD, setFin, setMany, parFin, idxD, slcD, bi_len, bi_lenT, bi_abs, bi_int, bi_list, bi_listT, bi_max2, bi_min2, Ss.sets, S.sets, Tg.is, List.mem_cons, List.not_mem_nil, or_false, or_true, false_or, true_or, List.mem_append, List.append_assoc, List.append_eq, List.length_map]) rfl (by omega) ⟨none, none, rfl⟩ ?_
    rintro i _ hi ⟨o3, o4, rfl⟩
    have ix := atI_i (ns := ws) (i := i) hi
    have g := gcd_call (k := k - 1) (b := b) (w := ws.getD i 0) (by omega) (hw _ (getD_mem hi)).1 (by omega) (by omega)
    have gp : 0 < Nat.gcd (ws.getD i 0).toNat b.toNat := Nat.gcd_pos_of_pos_right _ (by omega)
    have gl : Nat.gcd (ws.getD i 0).toNat b.toNat ≤ b.toNat := Nat.gcd_le_right _ (by omega)
    obtain ⟨gg, hgg⟩ : ∃ gg, Nat.gcd (ws.getD i 0).toNat b.toNat = gg := ⟨_, rfl⟩
    rw [hgg] at g gp gl
    rw [prI_of hgg]
    have f1 : (((gg : Int) ≠ 0) ∧ (gg : Int).natAbs < 1073741824) := by omega
    by_cases e : gg = 1
    · rw [if_pos e]
      have e' : ((gg : Int) = 1) := by omega
      exact .inl ⟨rfl, [some (.fz (il ws)), some (.fz (.int b)), some (.fz (il ws)), some (.fz (.int i)), some (.fz (.int gg))], by simp -implicitDefEqProofs only [e_nm, e_int, e_str, e_bl, e_non, e_glb, e_bin, e_neg, e_cmp, t_cmp, chn_if, e_chn, t_chn, e_and, e_or, t_and, t_or, e_not, t_not, e_ite, e_lst, e_tup, e_idx, e_slc, e_call, e_bi, e_rl1, e_rl2, e_isi, e_me, e_mu, t_nm, t_bl, t_idx, t_call, t_bi, t_isi, t_lc, t_bin, ds_nil, ds_cons, os_nil, os_cons, oi_none, oi_some, c_none, c_some, i_op, as_nm, as_mv, x_nil, x_cons, x_set, x_setF, x_setT, x_par, x_sub, x_expr, x_ret, x_if, x_raise, x_pass, x_brk, x_cont, x_tryC, bind_ok, bind_exc, map_ok, map_exc, of_some, bind_ite, map_ite, endR_ite, dflT, asT, asD, frz, ofB, cmpB, takeSlot, moveSlot, slotT, Opd.see, sees, T.view, truthD, cmpD, eqD, scalD, binD, negD, isKd, callF, takeA, putA, startR, endR_rt, endR_nx, endR_exc, backs, evB, evT, evD, evO, List.map_cons, List.map_nil, List.length_cons, List.length_nil, List.cons_append, List.nil_append, List.append_nil, List.set_cons_zero, List.set_cons_succ, List.getElem?_cons_zero, List.getElem?_cons_succ, List.replicate_zero, List.replicate_succ, Option.join_some, Option.join_none, Option.bind_some, Option.bind_none, Option.map_some, Option.map_none, Nat.reduceAdd, Nat.reduceSub, Nat.sub_self, List.any_cons, List.any_nil, Bool.or_false, Bool.false_or, Bool.or_true, Bool.true_or, Bool.and_true, Bool.true_and, Bool.and_false, Bool.false_and, Bool.not_true, Bool.not_false, Bool.false_eq_true, reduceIte, reduceCtorEq, decide_eq_true_eq, Bool.not_eq_true', decide_eq_false_iff_not, sz_eq, Nat.reduceLeDiff, isOl, subFin, muFin, muD, setFin, setMany, parFin, idxD, slcD, bi_len, bi_lenT, bi_abs, bi_int, bi_list, bi_listT, bi_max2, bi_min2, Ss.sets, S.sets, Tg.is, List.mem_cons, List.not_mem_nil, or_false, or_true, false_or, true_or, List.mem_append, List.append_assoc, List.append_eq, ix, g, eqv_int, e', decide_true], _, _, rfl⟩
    · rw [if_neg e]
      have e' : ¬ ((gg : Int) = 1) := by omega
      exact .inr ⟨_, rfl, [some (.fz (il ws)), some (.fz (.int b)), some (.fz (il ws)), some (.fz (.int i)), some (.fz (.int gg))], by simp -implicitDefEqProofs only [e_nm, e_int, e_str, e_bl, e_non, e_glb, e_bin, e_neg, e_cmp, t_cmp, chn_if, e_chn, t_chn, e_and, e_or, t_and, t_or, e_not, t_not, e_ite, e_lst, e_tup, e_idx, e_slc, e_call, e_bi, e_rl1, e_rl2, e_isi, e_me, e_mu, t_nm, t_bl, t_idx, t_call, t_bi, t_isi, t_lc, t_bin, ds_nil, ds_cons, os_nil, os_cons, oi_none, oi_some, c_none, c_some, i_op, as_nm, as_mv, x_nil, x_cons, x_set, x_setF, x_setT, x_par, x_sub, x_expr, x_ret, x_if, x_raise, x_pass, x_brk, x_cont, x_tryC, bind_ok, bind_exc, map_ok, map_exc, of_some, bind_ite, map_ite, endR_ite, dflT, asT, asD, frz, ofB, cmpB, takeSlot, moveSlot, slotT, Opd.see, sees, T.view, truthD, cmpD, eqD, scalD, binD, negD, isKd, callF, takeA, putA, startR, endR_rt, endR_nx, endR_exc, backs, evB, evT, evD, evO, List.map_cons, List.map_nil, List.length_cons, List.length_nil, List.cons_append, List.nil_append, List.append_nil, List.set_cons_zero, List.set_cons_succ, List.getElem?_cons_zero, List.getElem?_cons_succ, List.replicate_zero, List.replicate_succ, Option.join_some, Option.join_none, Option.bind_some, Option.bind_none, Option.map_some, Option.map_none, Nat.reduceAdd, Nat.reduceSub, Nat.sub_self, List.any_cons, List.any_nil, Bool.or_false, Bool.false_or, Bool.or_true, Bool.true_or, Bool.and_true, Bool.true_and, Bool.and_false, Bool.false_and, Bool.not_true, Bool.not_false, Bool.false_eq_true, reduceIte, reduceCtorEq, decide_eq_true_eq, Bool.not_eq_true', decide_eq_false_iff_not, sz_eq, Nat.reduceLeDiff, isOl, subFin, muFin, muD, setFin, setMany, parFin, idxD, slcD, bi_len, bi_lenT, bi_abs, bi_int, bi_list, bi_listT, bi_max2, bi_min2, Ss.sets, S.sets, Tg.is, List.mem_cons, List.not_mem_nil, or_false, or_true, false_or, true_or, List.mem_append, List.append_assoc, List.append_eq, ix, g, eqv_int, e', decide_false, f1, ne_eq, not_false_eq_true, and_self], trivial⟩
  rcases first_hw lp with ⟨e, _, lp, o3, o4, rfl⟩ | ⟨ρ', lp, hJ⟩
  · rw [e]
    simp -implicitDefEqProofs only [f_hidden_wrong, e_nm, e_int, e_str, e_bl, e_non, e_glb, e_bin, e_neg, e_cmp, t_cmp, chn_if, e_chn, t_chn, e_and, e_or, t_and, t_or, e_not, t_not, e_ite, e_lst, e_tup, e_idx, e_slc, e_call, e_bi, e_rl1, e_rl2, e_isi, e_me, e_mu, t_nm, t_bl, t_idx, t_call, t_bi, t_isi, t_lc, t_bin, ds_nil, ds_cons, os_nil, os_cons, oi_none, oi_some, c_none, c_some, i_op, as_nm, as_mv, x_nil, x_cons, x_set, x_setF, x_setT, x_par, x_sub, x_expr, x_ret, x_if, x_raise, x_pass, x_brk, x_cont, x_tryC, bind_ok, bind_exc, map_ok, map_exc, of_some, bind_ite, map_ite, endR_ite, dflT, asT, asD, frz, ofB, cmpB, takeSlot, moveSlot, slotT, Opd.see, sees, T.view, truthD, cmpD, eqD, scalD, binD, negD, isKd, callF, takeA, putA, startR, endR_rt, endR_nx, endR_exc, backs, evB, evT, evD, evO, List.map_cons, List.map_nil, List.length_cons, List.length_nil, List.cons_append, List.nil_append, List.append_nil, List.set_cons_zero, List.set_cons_succ, List.getElem?_cons_zero, List.getElem?_cons_succ, List.replicate_zero, List.replicate_succ, Option.join_some, Option.join_none, Option.bind_some, Option.bind_none, Option.map_some, Option.map_none, Nat.reduceAdd, Nat.reduceSub, Nat.sub_self, List.any_cons, List.any_nil, Bool.or_false, Bool.false_or, Bool.or_true, Bool.true_or, Bool.and_true, Bool.true_and, Bool.and_false, Bool.false_and, Bool.not_true, Bool.not_false, Bool.false_eq_true, reduceIte, reduceCtorEq, decide_eq_true_eq, Bool.not_eq_true', decide_eq_false_iff_not, sz_eq, Nat.reduceLeDiff, isOl, subFin, muFin, muD, setFin, setMany, parFin, idxD, slcD, bi_len, bi_lenT, bi_abs, bi_int, bi_list, bi_listT, bi_max2, bi_min2, Ss.sets, S.sets, Tg.is, List.mem_cons, List.not_mem_nil, or_false, or_true, false_or, true_or, List.mem_append, List.append_assoc, List.append_eq, cr, a0_rule, lp]
  · simp -implicitDefEqProofs only [f_hidden_wrong, e_nm, e_int, e_str, e_bl, e_non, e_glb, e_bin, e_neg, e_cmp, t_cmp, chn_if, e_chn, t_chn, e_and, e_or, t_and, t_or, e_not, t_not, e_ite, e_lst, e_tup, e_idx, e_slc, e_call, e_bi, e_rl1, e_rl2, e_isi, e_me, e_mu, t_nm, t_bl, t_idx, t_call, t_bi, t_isi, t_lc, t_bin, ds_nil, ds_cons, os_nil, os_cons, oi_none, oi_some, c_none, c_some, i_op, as_nm, as_mv, x_nil, x_cons, x_set, x_setF, x_setT, x_par, x_sub, x_expr, x_ret, x_if, x_raise, x_pass, x_brk, x_cont, x_tryC, bind_ok, bind_exc, map_ok, map_exc, of_some, bind_ite, map_ite, endR_ite, dflT, asT, asD, frz, ofB, cmpB, takeSlot, moveSlot, slotT, Opd.see, sees, T.view, truthD, cmpD, eqD, scalD, binD, negD, isKd, callF, takeA, putA, startR, endR_rt, endR_nx, endR_exc, backs, evB, evT, evD, evO, List.map_cons, List.map_nil, List.length_cons, List.length_nil, List.cons_append, List.nil_append, List.append_nil, List.set_cons_zero, List.set_cons_succ, List.getElem?_cons_zero, List.getElem?_cons_succ, List.replicate_zero, List.replicate_succ, Option.join_some, Option.join_none, Option.bind_some, Option.bind_none, Option.map_some, Option.map_none, Nat.reduceAdd, Nat.reduceSub, Nat.sub_self, List.any_cons, List.any_nil, Bool.or_false, Bool.false_or, Bool.or_true, Bool.true_or, Bool.and_true, Bool.true_and, Bool.and_false, Bool.false_and, Bool.not_true, Bool.not_false, Bool.false_eq_true, reduceIte, reduceCtorEq, decide_eq_true_eq, Bool.not_eq_true', decide_eq_false_iff_not, sz_eq, Nat.reduceLeDiff, isOl, subFin, muFin, muD, setFin, setMany, parFin, idxD, slcD, bi_len, bi_lenT, bi_abs, bi_int, bi_list, bi_listT, bi_max2, bi_min2, Ss.sets, S.sets, Tg.is, List.mem_cons, List.not_mem_nil, or_false, or_true, false_or, true_or, List.mem_append, List.append_assoc, List.append_eq, cr, a0_rule, lp]
theorem s_hiddenE (h : Rule ws b) (hk : 2 < k) : (lev fs Bx k).call "hidden_exchange" [.fz (il ws), .fz (.int b)] = .ok (.fz (hwD (fun i => prI ((steps ws).getD i 0) b) (steps ws).length)) [.fz (il ws), .fz (.int b)] := by
  rw [lev_call (F := f_hidden_exchange) rfl (by omega), run_fn rfl]
  have cr := s_rule (B := Bx) (k := k - 1) h (by omega)
  have hb := h.1
  have hb2 := h.2.1
  have hz1 := h.2.2.1
  have hz := h.2.2.2.1
  have hw := h.2.2.2.2
  have lp : First (fun ρ => ∃ o3 o4, ρ = [some (.fz (il ws)), some (.fz (.int b)), some (.fz (il ws)), o3, o4]) (fun _ => True) ((List.range ((ws.length : Int) - 1).toNat).findSome? fun i => (prI ((steps ws).getD i 0) b).map fun y => T.fz (.tuple [.int i, .int y])) (exS (lev fs Bx (k - 1)) (.for_ (.one 3) (.rng2 (.int 1) (.bi .len (.cons (.nm 2) .nil))) (.cons (.setF 4 (.call "common" (.cons (.bi .abs (.cons (.bin .Sub (.idx (.nm 2) (.nm 3)) (.idx (.nm 2) (.bin .Sub (.nm 3) (.int 1)))) .nil)) (.cons (.nm 1) .nil)) [])) (.cons (.ifS (.cmp .NotEq (.nm 4) (.int 1)) (.cons (.ret (.tup (.cons (.bin .Sub (.nm 3) (.int 1)) (.cons (.bin .FloorDiv (.nm 1) (.nm 4)) .nil)))) .nil) .nil) .nil))) [some (.fz (il ws)), some (.fz (.int b)), some (.fz (il ws)), none, none]) := by
    refine first_r2 (x := .tmp (.fz (.int 1))) (y := .tmp (.fz (.int ws.length))) (ρ1 := [some (.fz (il ws)), some (.fz (.int b)), some (.fz (il ws)), none, none]) (ρ2 := [some (.fz (il ws)), some (.fz (.int b)), some (.fz (il ws)), none, none]) _ rfl (by simp -implicitDefEqProofs only [e_nm, e_int, e_str, e_bl, e_non, e_glb, e_bin, e_neg, e_cmp, t_cmp, chn_if, e_chn, t_chn, e_and, e_or, t_and, t_or, e_not, t_not, e_ite, e_lst, e_tup, e_idx, e_slc, e_call, e_bi, e_rl1, e_rl2, e_isi, e_me, e_mu, t_nm, t_bl, t_idx, t_call, t_bi, t_isi, t_lc, t_bin, ds_nil, ds_cons, os_nil, os_cons, oi_none, oi_some, c_none, c_some, i_op, as_nm, as_mv, x_nil, x_cons, x_set, x_setF, x_setT, x_par, x_sub, x_expr, x_ret, x_if, x_raise, x_pass, x_brk, x_cont, x_tryC, bind_ok, bind_exc, map_ok, map_exc, of_some, bind_ite, map_ite, endR_ite, dflT, asT, asD, frz, ofB, cmpB, takeSlot, moveSlot, slotT, Opd.see, sees, T.view, truthD, cmpD, eqD, scalD, binD, negD, isKd, callF, takeA, putA, startR, endR_rt, endR_nx, endR_exc, backs, evB, evT, evD, evO, List.map_cons, List.map_nil, List.length_cons, List.length_nil, List.cons_append, List.nil_append, List.append_nil, List.set_cons_zero, List.set_cons_succ, List.getElem?_cons_zero, List.getElem?_cons_succ, List.replicate_zero, List.replicate_succ, Option.join_some, Option.join_none, Option.bind_some, Option.bind_none, Option.map_some, Option.map_none, Nat.reduceAdd, Nat.reduceSub, Nat.sub_self, List.any_cons, List.any_nil, Bool.or_false, Bool.false_or, Bool.or_true, Bool.true_or, Bool.and_true, Bool.true_and, Bool.and_false, Bool.false_and, Bool.not_true, Bool.not_false, Bool.false_eq_true, reduceIte, reduceCtorEq, decide_eq_true_eq, Bool.not_eq_true', decide_eq_false_iff_not, sz_eq, Nat.reduceLeDiff, isOl, subFin, muFin, muD, setFin, setMany, parFin, idxD, slcD, bi_len, bi_lenT, bi_abs, bi_int, bi_list, bi_listT, bi_max2, bi_min2, Ss.sets, S.sets, Tg.is, List.mem_cons, List.not_mem_nil, or_false, or_true, false_or, true_or, List.mem_append, List.append_assoc, List.append_eq, List.length_map]) rfl rfl (by omega) (by omega) ⟨none, none, rfl⟩ ?_
    rintro i _ hi ⟨o3, o4, rfl⟩
    have ix := atI_i (ns := ws) (i := i) (by omega)
    have ix1 := atI_i (ns := ws) (i := i + 1) (by omega)
    have e0 : (1 : Int) + (i : Int) = ((i + 1 : Nat) : Int) := by omega
    have e1 : (((i + 1 : Nat) : Int)) - 1 = (i : Int) := by omega
    have st := steps_at (ws := ws) (i := i) (by omega)
    have bn := ab_bnd (hw _ (getD_mem (i := i + 1) (by omega))) (hw _ (getD_mem (i := i) (by omega)))
    have g := gcd_call (k := k - 1) (b := b) (w := ab (ws.getD (i + 1) 0 - ws.getD i 0)) (by omega) bn.1 (by omega) (by omega)
    have gp : 0 < Nat.gcd (ab (ws.getD (i + 1) 0 - ws.getD i 0)).toNat b.toNat := Nat.gcd_pos_of_pos_right _ (by omega)
    have gl : Nat.gcd (ab (ws.getD (i + 1) 0 - ws.getD i 0)).toNat b.toNat ≤ b.toNat := Nat.gcd_le_right _ (by omega)
    obtain ⟨gg, hgg⟩ : ∃ gg, Nat.gcd (ab (ws.getD (i + 1) 0 - ws.getD i 0)).toNat b.toNat = gg := ⟨_, rfl⟩
    rw [hgg] at g gp gl
    rw [st, prI_of hgg, e0]
    unfold ab at g
    have f1 : (((gg : Int) ≠ 0) ∧ (gg : Int).natAbs < 1073741824) := by omega
    by_cases e : gg = 1
    · rw [if_pos e]
      have e' : ((gg : Int) = 1) := by omega
      exact .inl ⟨rfl, [some (.fz (il ws)), some (.fz (.int b)), some (.fz (il ws)), some (.fz (.int (i + 1 : Nat))), some (.fz (.int gg))], by simp -implicitDefEqProofs only [e_nm, e_int, e_str, e_bl, e_non, e_glb, e_bin, e_neg, e_cmp, t_cmp, chn_if, e_chn, t_chn, e_and, e_or, t_and, t_or, e_not, t_not, e_ite, e_lst, e_tup, e_idx, e_slc, e_call, e_bi, e_rl1, e_rl2, e_isi, e_me, e_mu, t_nm, t_bl, t_idx, t_call, t_bi, t_isi, t_lc, t_bin, ds_nil, ds_cons, os_nil, os_cons, oi_none, oi_some, c_none, c_some, i_op, as_nm, as_mv, x_nil, x_cons, x_set, x_setF, x_setT, x_par, x_sub, x_expr, x_ret, x_if, x_raise, x_pass, x_brk, x_cont, x_tryC, bind_ok, bind_exc, map_ok, map_exc, of_some, bind_ite, map_ite, endR_ite, dflT, asT, asD, frz, ofB, cmpB, takeSlot, moveSlot, slotT, Opd.see, sees, T.view, truthD, cmpD, eqD, scalD, binD, negD, isKd, callF, takeA, putA, startR, endR_rt, endR_nx, endR_exc, backs, evB, evT, evD, evO, List.map_cons, List.map_nil, List.length_cons, List.length_nil, List.cons_append, List.nil_append, List.append_nil, List.set_cons_zero, List.set_cons_succ, List.getElem?_cons_zero, List.getElem?_cons_succ, List.replicate_zero, List.replicate_succ, Option.join_some, Option.join_none, Option.bind_some, Option.bind_none, Option.map_some, Option.map_none, Nat.reduceAdd, Nat.reduceSub, Nat.sub_self, List.any_cons, List.any_nil, Bool.or_false, Bool.false_or, Bool.or_true, Bool.true_or, Bool.and_true, Bool.true_and, Bool.and_false, Bool.false_and, Bool.not_true, Bool.not_false, Bool.false_eq_true, reduceIte, reduceCtorEq, decide_eq_true_eq, Bool.not_eq_true', decide_eq_false_iff_not, sz_eq, Nat.reduceLeDiff, isOl, subFin, muFin, muD, setFin, setMany, parFin, idxD, slcD, bi_len, bi_lenT, bi_abs, bi_int, bi_list, bi_listT, bi_max2, bi_min2, Ss.sets, S.sets, Tg.is, List.mem_cons, List.not_mem_nil, or_false, or_true, false_or, true_or, List.mem_append, List.append_assoc, List.append_eq, ix, ix1, e1, g, eqv_int, e', decide_true], _, _, rfl⟩
    · rw [if_neg e]
      have e' : ¬ ((gg : Int) = 1) := by omega
      exact .inr ⟨_, rfl, [some (.fz (il ws)), some (.fz (.int b)), some (.fz (il ws)), some (.fz (.int (i + 1 : Nat))), some (.fz (.int gg))], by simp -implicitDefEqProofs only [e_nm, e_int, e_str, e_bl, e_non, e_glb, e_bin, e_neg, e_cmp, t_cmp, chn_if, e_chn, t_chn, e_and, e_or, t_and, t_or, e_not, t_not, e_ite, e_lst, e_tup, e_idx, e_slc, e_call, e_bi, e_rl1, e_rl2, e_isi, e_me, e_mu, t_nm, t_bl, t_idx, t_call, t_bi, t_isi, t_lc, t_bin, ds_nil, ds_cons, os_nil, os_cons, oi_none, oi_some, c_none, c_some, i_op, as_nm, as_mv, x_nil, x_cons, x_set, x_setF, x_setT, x_par, x_sub, x_expr, x_ret, x_if, x_raise, x_pass, x_brk, x_cont, x_tryC, bind_ok, bind_exc, map_ok, map_exc, of_some, bind_ite, map_ite, endR_ite, dflT, asT, asD, frz, ofB, cmpB, takeSlot, moveSlot, slotT, Opd.see, sees, T.view, truthD, cmpD, eqD, scalD, binD, negD, isKd, callF, takeA, putA, startR, endR_rt, endR_nx, endR_exc, backs, evB, evT, evD, evO, List.map_cons, List.map_nil, List.length_cons, List.length_nil, List.cons_append, List.nil_append, List.append_nil, List.set_cons_zero, List.set_cons_succ, List.getElem?_cons_zero, List.getElem?_cons_succ, List.replicate_zero, List.replicate_succ, Option.join_some, Option.join_none, Option.bind_some, Option.bind_none, Option.map_some, Option.map_none, Nat.reduceAdd, Nat.reduceSub, Nat.sub_self, List.any_cons, List.any_nil, Bool.or_false, Bool.false_or, Bool.or_true, Bool.true_or, Bool.and_true, Bool.true_and, Bool.and_false, Bool.false_and, Bool.not_true, Bool.not_false, Bool.false_eq_true, reduceIte, reduceCtorEq, decide_eq_true_eq, Bool.not_eq_true', decide_eq_false_iff_not, sz_eq, Nat.reduceLeDiff, isOl, subFin, muFin, muD, setFin, setMany, parFin, idxD, slcD, bi_len, bi_lenT, bi_abs, bi_int, bi_list, bi_listT, bi_max2, bi_min2, Ss.sets, S.sets, Tg.is, List.mem_cons, List.not_mem_nil, or_false, or_true, false_or, true_or, List.mem_append, List.append_assoc, List.append_eq, ix, ix1, e1, g, eqv_int, e', decide_false, f1, ne_eq, not_false_eq_true, and_self], trivial⟩
  rw [steps_len, ← show ((ws.length : Int) - 1).toNat = ws.length - 1 by omega]
  rcases first_hw lp with ⟨e, _, lp, o3, o4, rfl⟩ | ⟨ρ', lp, hJ⟩
  · rw [e]
    simp -implicitDefEqProofs only [f_hidden_exchange, e_nm, e_int, e_str, e_bl, e_non, e_glb, e_bin, e_neg, e_cmp, t_cmp, chn_if, e_chn, t_chn, e_and, e_or, t_and, t_or, e_not, t_not, e_ite, e_lst, e_tup, e_idx, e_slc, e_call, e_bi, e_rl1, e_rl2, e_isi, e_me, e_mu, t_nm, t_bl, t_idx, t_call, t_bi, t_isi, t_lc, t_bin, ds_nil, ds_cons, os_nil, os_cons, oi_none, oi_some, c_none, c_some, i_op, as_nm, as_mv, x_nil, x_cons, x_set, x_setF, x_setT, x_par, x_sub, x_expr, x_ret, x_if, x_raise, x_pass, x_brk, x_cont, x_tryC, bind_ok, bind_exc, map_ok, map_exc, of_some, bind_ite, map_ite, endR_ite, dflT, asT, asD, frz, ofB, cmpB, takeSlot, moveSlot, slotT, Opd.see, sees, T.view, truthD, cmpD, eqD, scalD, binD, negD, isKd, callF, takeA, putA, startR, endR_rt, endR_nx, endR_exc, backs, evB, evT, evD, evO, List.map_cons, List.map_nil, List.length_cons, List.length_nil, List.cons_append, List.nil_append, List.append_nil, List.set_cons_zero, List.set_cons_succ, List.getElem?_cons_zero, List.getElem?_cons_succ, List.replicate_zero, List.replicate_succ, Option.join_some, Option.join_none, Option.bind_some, Option.bind_none, Option.map_some, Option.map_none, Nat.reduceAdd, Nat.reduceSub, Nat.sub_self, List.any_cons, List.any_nil, Bool.or_false, Bool.false_or, Bool.or_true, Bool.true_or, Bool.and_true, Bool.true_and, Bool.and_false, Bool.false_and, Bool.not_true, Bool.not_false, Bool.false_eq_true, reduceIte, reduceCtorEq, decide_eq_true_eq, Bool.not_eq_true', decide_eq_false_iff_not, sz_eq, Nat.reduceLeDiff, isOl, subFin, muFin, muD, setFin, setMany, parFin, idxD, slcD, bi_len, bi_lenT, bi_abs, bi_int, bi_list, bi_listT, bi_max2, bi_min2, Ss.sets, S.sets, Tg.is, List.mem_cons, List.not_mem_nil, or_false, or_true, false_or, true_or, List.mem_append, List.append_assoc, List.append_eq, cr, a0_rule, lp]
  · simp -implicitDefEqProofs only [f_hidden_exchange, e_nm, e_int, e_str, e_bl, e_non, e_glb, e_bin, e_neg, e_cmp, t_cmp, chn_if, e_chn, t_chn, e_and, e_or, t_and, t_or, e_not, t_not, e_ite, e_lst, e_tup, e_idx, e_slc, e_call, e_bi, e_rl1, e_rl2, e_isi, e_me, e_mu, t_nm, t_bl, t_idx, t_call, t_bi, t_isi, t_lc, t_bin, ds_nil, ds_cons, os_nil, os_cons, oi_none, oi_some, c_none, c_some, i_op, as_nm, as_mv, x_nil, x_cons, x_set, x_setF, x_setT, x_par, x_sub, x_expr, x_ret, x_if, x_raise, x_pass, x_brk, x_cont, x_tryC, bind_ok, bind_exc, map_ok, map_exc, of_some, bind_ite, map_ite, endR_ite, dflT, asT, asD, frz, ofB, cmpB, takeSlot, moveSlot, slotT, Opd.see, sees, T.view, truthD, cmpD, eqD, scalD, binD, negD, isKd, callF, takeA, putA, startR, endR_rt, endR_nx, endR_exc, backs, evB, evT, evD, evO, List.map_cons, List.map_nil, List.length_cons, List.length_nil, List.cons_append, List.nil_append, List.append_nil, List.set_cons_zero, List.set_cons_succ, List.getElem?_cons_zero, List.getElem?_cons_succ, List.replicate_zero, List.replicate_succ, Option.join_some, Option.join_none, Option.bind_some, Option.bind_none, Option.map_some, Option.map_none, Nat.reduceAdd, Nat.reduceSub, Nat.sub_self, List.any_cons, List.any_nil, Bool.or_false, Bool.false_or, Bool.or_true, Bool.true_or, Bool.and_true, Bool.true_and, Bool.and_false, Bool.false_and, Bool.not_true, Bool.not_false, Bool.false_eq_true, reduceIte, reduceCtorEq, decide_eq_true_eq, Bool.not_eq_true', decide_eq_false_iff_not, sz_eq, Nat.reduceLeDiff, isOl, subFin, muFin, muD, setFin, setMany, parFin, idxD, slcD, bi_len, bi_lenT, bi_abs, bi_int, bi_list, bi_listT, bi_max2, bi_min2, Ss.sets, S.sets, Tg.is, List.mem_cons, List.not_mem_nil, or_false, or_true, false_or, true_or, List.mem_append, List.append_assoc, List.append_eq, cr, a0_rule, lp]
theorem s_first (hv : t.view = some (il ws)) (hb : 2 ≤ b) (hb2 : b ≤ 31) (hw : ∀ w ∈ ws, 0 ≤ w ∧ w < b) (hz : ws.length ≤ 1000) (hk : 0 < k) : (lev fs Bx k).call "_law_first" [t, .fz (.int b)] = .ok (.fz (hwD (fun i => prI (ws.getD i 0) b) ws.length)) [t, .fz (.int b)] := by
  rw [lev_call (F := f__law_first) rfl (by omega), run_fn rfl]
  have lp : ∀ t : T, t.view = some (il ws) → First (fun ρ => ∃ o2 o3, ρ = [some t, some (.fz (.int b)), o2, o3, none]) (fun ρ => ∃ o2 o3, ρ = [some t, some (.fz (.int b)), o2, o3, none]) ((List.range ws.length).findSome? fun i => (prI (ws.getD i 0) b).map fun y => T.fz (.tuple [.int i, .int y])) (exS (lev fs Bx (k - 1)) (.for_ (.one 2) (.rng1 (.bi .len (.cons (.nm 0) .nil))) (.cons (.setF 3 (.lc (.one 4) [4] (.rng2 (.int 1) (.nm 1)) (.some (.cmp .Eq (.bin .Mod (.bi .int (.cons (.bin .Mult (.nm 4) (.idx (.nm 0) (.nm 2))) .nil)) (.nm 1)) (.int 0))) (.nm 4))) (.cons (.ifS (.cmp .Gt (.bi .len (.cons (.nm 3) .nil)) (.int 0)) (.cons (.ret (.tup (.cons (.nm 2) (.cons (.idx (.nm 3) (.int 0)) .nil)))) .nil) .nil) .nil))) [some t, some (.fz (.int b)), none, none, none]) := fun t hv => by
    refine first_r1 (x := .tmp (.fz (.int ws.length))) (ρ1 := [some t, some (.fz (.int b)), none, none, none]) _ (by cases t <;> cases hv <;> simp -implicitDefEqProofs only [e_nm, e_int, e_str, e_bl, e_non, e_glb, e_bin, e_neg, e_cmp, t_cmp, chn_if, e_chn, t_chn, e_and, e_or, t_and, t_or, e_not, t_not, e_ite, e_lst, e_tup, e_idx, e_slc, e_call, e_bi, e_rl1, e_rl2, e_isi, e_me, e_mu, t_nm, t_bl, t_idx, t_call, t_bi, t_isi, t_lc, t_bin, ds_nil, ds_cons, os_nil, os_cons, oi_none, oi_some, c_none, c_some, i_op, as_nm, as_mv, x_nil, x_cons, x_set, x_setF, x_setT, x_par, x_sub, x_expr, x_ret, x_if, x_raise, x_pass, x_brk, x_cont, x_tryC, bind_ok, bind_exc, map_ok, map_exc, of_some, bind_ite, map_ite, endR_ite, dflT, asT, asD, frz, ofB, cmpB, takeSlot, moveSlot, slotT, Opd.see, sees, T.view, truthD, cmpD, eqD, scalD, binD, negD, isKd, callF, takeA, putA, startR, endR_rt, endR_nx, endR_exc, backs, evB, evT, evD, evO, List.map_cons, List.map_nil, List.length_cons, List.length_nil, List.cons_append, List.nil_append, List.append_nil, List.set_cons_zero, List.set_cons_succ, List.getElem?_cons_zero, List.getElem?_cons_succ, List.replicate_zero, List.replicate_succ, Option.join_some, Option.join_none, Option.bind_some, Option.bind_none, Option.map_some, Option.map_none, Nat.reduceAdd, Nat.reduceSub, Nat.sub_self, List.any_cons, List.any_nil, Bool.or_false, Bool.false_or, Bool.or_true, Bool.true_or, Bool.and_true, Bool.true_and, Bool.and_false, Bool.false_and, Bool.not_true, Bool.not_false, Bool.false_eq_true, reduceIte, reduceCtorEq, decide_eq_true_eq, Bool.not_eq_true', decide_eq_false_iff_not, sz_eq, Nat.reduceLeDiff, isOl, subFin, muFin, muD, setFin, setMany, parFin, idxD, slcD, bi_len, bi_lenT, bi_abs, bi_int, bi_list, bi_listT, bi_max2, bi_min2, Ss.sets, S.sets, Tg.is, List.mem_cons, List.not_mem_nil, or_false, or_true, false_or, true_or, List.mem_append, List.append_assoc, List.append_eq, List.length_map]) rfl (by omega) ⟨none, none, rfl⟩ ?_
    rintro i _ hi ⟨o2, o3, rfl⟩
    have ix := atI_i (ns := ws) (i := i) hi
    have hi3 := hw _ (getD_mem hi)
    have lc : (ev2 (lev fs Bx (k - 1)) (.lc (.one 4) [4] (.rng2 (.int 1) (.nm 1)) (.some (.cmp .Eq (.bin .Mod (.bi .int (.cons (.bin .Mult (.nm 4) (.idx (.nm 0) (.nm 2))) .nil)) (.nm 1)) (.int 0))) (.nm 4))).1 [some t, some (.fz (.int b)), some (.fz (.int i)), o3, none] = .ok (.tmp (.ol ((rowsL (ws.getD i 0) b).map fun (i : Nat) => .int (1 + (i : Int))))) [some t, some (.fz (.int b)), some (.fz (.int i)), o3, none] := by
      refine lc_r2 (x := .tmp (.fz (.int 1))) (y := .sl 1) (ρ1 := [some t, some (.fz (.int b)), some (.fz (.int i)), o3, none]) (fun (j : Nat) => decide (((1 + (j : Int)) * ws.getD i 0).fmod b = 0)) (fun (i : Nat) => .int (1 + (i : Int))) rfl rfl rfl rfl (by show 4 < 5; decide) (by omega) (by omega) (fun j hj => ?_) (fun j hj _ => ?_)
      · have hm : mulOk (1 + (j : Int)) (ws.getD i 0) = true := mul_r (by omega)
        have nb : b ≠ 0 := by omega
        cases t <;> cases hv <;> simp -implicitDefEqProofs only [e_nm, e_int, e_str, e_bl, e_non, e_glb, e_bin, e_neg, e_cmp, t_cmp, chn_if, e_chn, t_chn, e_and, e_or, t_and, t_or, e_not, t_not, e_ite, e_lst, e_tup, e_idx, e_slc, e_call, e_bi, e_rl1, e_rl2, e_isi, e_me, e_mu, t_nm, t_bl, t_idx, t_call, t_bi, t_isi, t_lc, t_bin, ds_nil, ds_cons, os_nil, os_cons, oi_none, oi_some, c_none, c_some, i_op, as_nm, as_mv, x_nil, x_cons, x_set, x_setF, x_setT, x_par, x_sub, x_expr, x_ret, x_if, x_raise, x_pass, x_brk, x_cont, x_tryC, bind_ok, bind_exc, map_ok, map_exc, of_some, bind_ite, map_ite, endR_ite, dflT, asT, asD, frz, ofB, cmpB, takeSlot, moveSlot, slotT, Opd.see, sees, T.view, truthD, cmpD, eqD, scalD, binD, negD, isKd, callF, takeA, putA, startR, endR_rt, endR_nx, endR_exc, backs, evB, evT, evD, evO, List.map_cons, List.map_nil, List.length_cons, List.length_nil, List.cons_append, List.nil_append, List.append_nil, List.set_cons_zero, List.set_cons_succ, List.getElem?_cons_zero, List.getElem?_cons_succ, List.replicate_zero, List.replicate_succ, Option.join_some, Option.join_none, Option.bind_some, Option.bind_none, Option.map_some, Option.map_none, Nat.reduceAdd, Nat.reduceSub, Nat.sub_self, List.any_cons, List.any_nil, Bool.or_false, Bool.false_or, Bool.or_true, Bool.true_or, Bool.and_true, Bool.true_and, Bool.and_false, Bool.false_and, Bool.not_true, Bool.not_false, Bool.false_eq_true, reduceIte, reduceCtorEq, decide_eq_true_eq, Bool.not_eq_true', decide_eq_false_iff_not, sz_eq, Nat.reduceLeDiff, isOl, subFin, muFin, muD, setFin, setMany, parFin, idxD, slcD, bi_len, bi_lenT, bi_abs, bi_int, bi_list, bi_listT, bi_max2, bi_min2, Ss.sets, S.sets, Tg.is, List.mem_cons, List.not_mem_nil, or_false, or_true, false_or, true_or, List.mem_append, List.append_assoc, List.append_eq, ix, hm, nb, eqv_int, ne_eq, not_false_eq_true]
      · simp -implicitDefEqProofs only [e_nm, e_int, e_str, e_bl, e_non, e_glb, e_bin, e_neg, e_cmp, t_cmp, chn_if, e_chn, t_chn, e_and, e_or, t_and, t_or, e_not, t_not, e_ite, e_lst, e_tup, e_idx, e_slc, e_call, e_bi, e_rl1, e_rl2, e_isi, e_me, e_mu, t_nm, t_bl, t_idx, t_call, t_bi, t_isi, t_lc, t_bin, ds_nil, ds_cons, os_nil, os_cons, oi_none, oi_some, c_none, c_some, i_op, as_nm, as_mv, x_nil, x_cons, x_set, x_setF, x_setT, x_par, x_sub, x_expr, x_ret, x_if, x_raise, x_pass, x_brk, x_cont, x_tryC, bind_ok, bind_exc, map_ok, map_exc, of_some, bind_ite, map_ite, endR_ite, dflT, asT, asD, frz, ofB, cmpB, takeSlot, moveSlot, slotT, Opd.see, sees, T.view, truthD, cmpD, eqD, scalD, binD, negD, isKd, callF, takeA, putA, startR, endR_rt, endR_nx, endR_exc, backs, evB, evT, evD, evO, List.map_cons, List.map_nil, List.length_cons, List.length_nil, List.cons_append, List.nil_append, List.append_nil, List.set_cons_zero, List.set_cons_succ, List.getElem?_cons_zero, List.getElem?_cons_succ, List.replicate_zero, List.replicate_succ, Option.join_some, Option.join_none, Option.bind_some, Option.bind_none, Option.map_some, Option.map_none, Nat.reduceAdd, Nat.reduceSub, Nat.sub_self, List.any_cons, List.any_nil, Bool.or_false, Bool.false_or, Bool.or_true, Bool.true_or, Bool.and_true, Bool.true_and, Bool.and_false, Bool.false_and, Bool.not_true, Bool.not_false, Bool.false_eq_true, reduceIte, reduceCtorEq, decide_eq_true_eq, Bool.not_eq_true', decide_eq_false_iff_not, sz_eq, Nat.reduceLeDiff, isOl, subFin, muFin, muD, setFin, setMany, parFin, idxD, slcD, bi_len, bi_lenT, bi_abs, bi_int, bi_list, bi_listT, bi_max2, bi_min2, Ss.sets, S.sets, Tg.is, List.mem_cons, List.not_mem_nil, or_false, or_true, false_or, true_or, List.mem_append, List.append_assoc, List.append_eq]
    have hq := hid_eq hb hb2 hi3
    rw [← hq]
    cases hr : rowsL (ws.getD i 0) b with
    | nil =>
      rw [hr] at lc
      exact .inl ⟨rfl, [some t, some (.fz (.int b)), some (.fz (.int i)), some (.fz (.list [])), none], by simp -implicitDefEqProofs only [e_nm, e_int, e_str, e_bl, e_non, e_glb, e_bin, e_neg, e_cmp, t_cmp, chn_if, e_chn, t_chn, e_and, e_or, t_and, t_or, e_not, t_not, e_ite, e_lst, e_tup, e_idx, e_slc, e_call, e_bi, e_rl1, e_rl2, e_isi, e_me, e_mu, t_nm, t_bl, t_idx, t_call, t_bi, t_isi, t_lc, t_bin, ds_nil, ds_cons, os_nil, os_cons, oi_none, oi_some, c_none, c_some, i_op, as_nm, as_mv, x_nil, x_cons, x_set, x_setF, x_setT, x_par, x_sub, x_expr, x_ret, x_if, x_raise, x_pass, x_brk, x_cont, x_tryC, bind_ok, bind_exc, map_ok, map_exc, of_some, bind_ite, map_ite, endR_ite, dflT, asT, asD, frz, ofB, cmpB, takeSlot, moveSlot, slotT, Opd.see, sees, T.view, truthD, cmpD, eqD, scalD, binD, negD, isKd, callF, takeA, putA, startR, endR_rt, endR_nx, endR_exc, backs, evB, evT, evD, evO, List.map_cons, List.map_nil, List.length_cons, List.length_nil, List.cons_append, List.nil_append, List.append_nil, List.set_cons_zero, List.set_cons_succ, List.getElem?_cons_zero, List.getElem?_cons_succ, List.replicate_zero, List.replicate_succ, Option.join_some, Option.join_none, Option.bind_some, Option.bind_none, Option.map_some, Option.map_none, Nat.reduceAdd, Nat.reduceSub, Nat.sub_self, List.any_cons, List.any_nil, Bool.or_false, Bool.false_or, Bool.or_true, Bool.true_or, Bool.and_true, Bool.true_and, Bool.and_false, Bool.false_and, Bool.not_true, Bool.not_false, Bool.false_eq_true, reduceIte, reduceCtorEq, decide_eq_true_eq, Bool.not_eq_true', decide_eq_false_iff_not, sz_eq, Nat.reduceLeDiff, isOl, subFin, muFin, muD, setFin, setMany, parFin, idxD, slcD, bi_len, bi_lenT, bi_abs, bi_int, bi_list, bi_listT, bi_max2, bi_min2, Ss.sets, S.sets, Tg.is, List.mem_cons, List.not_mem_nil, or_false, or_true, false_or, true_or, List.mem_append, List.append_assoc, List.append_eq, lc, Int.natCast_zero, Int.lt_irrefl, decide_false], _, _, rfl⟩
    | cons j js =>
      rw [hr] at lc
      have a0 : ∀ (y : D) (ys : List D), atI (y :: ys) (0 : Int) = some y := fun _ _ => by
        have q := @atI_nat
        simpa using q (xs := _ :: _) (i := 0) rfl
      have c0 : decide ((0 : Int) < ((List.map (fun (x : Nat) => PyData.int (1 + (x : Int))) js).length + 1 : Nat)) = true := decide_eq_true (by omega)
      exact .inr ⟨_, rfl, [some t, some (.fz (.int b)), some (.fz (.int i)), some (.fz (.list ((j :: js).map fun (i : Nat) => .int (1 + (i : Int))))), none], by simp -implicitDefEqProofs only [e_nm, e_int, e_str, e_bl, e_non, e_glb, e_bin, e_neg, e_cmp, t_cmp, chn_if, e_chn, t_chn, e_and, e_or, t_and, t_or, e_not, t_not, e_ite, e_lst, e_tup, e_idx, e_slc, e_call, e_bi, e_rl1, e_rl2, e_isi, e_me, e_mu, t_nm, t_bl, t_idx, t_call, t_bi, t_isi, t_lc, t_bin, ds_nil, ds_cons, os_nil, os_cons, oi_none, oi_some, c_none, c_some, i_op, as_nm, as_mv, x_nil, x_cons, x_set, x_setF, x_setT, x_par, x_sub, x_expr, x_ret, x_if, x_raise, x_pass, x_brk, x_cont, x_tryC, bind_ok, bind_exc, map_ok, map_exc, of_some, bind_ite, map_ite, endR_ite, dflT, asT, asD, frz, ofB, cmpB, takeSlot, moveSlot, slotT, Opd.see, sees, T.view, truthD, cmpD, eqD, scalD, binD, negD, isKd, callF, takeA, putA, startR, endR_rt, endR_nx, endR_exc, backs, evB, evT, evD, evO, List.map_cons, List.map_nil, List.length_cons, List.length_nil, List.cons_append, List.nil_append, List.append_nil, List.set_cons_zero, List.set_cons_succ, List.getElem?_cons_zero, List.getElem?_cons_succ, List.replicate_zero, List.replicate_succ, Option.join_some, Option.join_none, Option.bind_some, Option.bind_none, Option.map_some, Option.map_none, Nat.reduceAdd, Nat.reduceSub, Nat.sub_self, List.any_cons, List.any_nil, Bool.or_false, Bool.false_or, Bool.or_true, Bool.true_or, Bool.and_true, Bool.true_and, Bool.and_false, Bool.false_and, Bool.not_true, Bool.not_false, Bool.false_eq_true, reduceIte, reduceCtorEq, decide_eq_true_eq, Bool.not_eq_true', decide_eq_false_iff_not, sz_eq, Nat.reduceLeDiff, isOl, subFin, muFin, muD, setFin, setMany, parFin, idxD, slcD, bi_len, bi_lenT, bi_abs, bi_int, bi_list, bi_listT, bi_max2, bi_min2, Ss.sets, S.sets, Tg.is, List.mem_cons, List.not_mem_nil, or_false, or_true, false_or, true_or, List.mem_append, List.append_assoc, List.append_eq, lc, c0, a0], _, _, rfl⟩
  rcases first_hw (lp t hv) with ⟨e, _, lp, o3, o4, rfl⟩ | ⟨ρ', lp, hJ⟩
  · rw [e]
    cases t <;> cases hv <;> simp -implicitDefEqProofs only [f__law_first, e_nm, e_int, e_str, e_bl, e_non, e_glb, e_bin, e_neg, e_cmp, t_cmp, chn_if, e_chn, t_chn, e_and, e_or, t_and, t_or, e_not, t_not, e_ite, e_lst, e_tup, e_idx, e_slc, e_call, e_bi, e_rl1, e_rl2, e_isi, e_me, e_mu, t_nm, t_bl, t_idx, t_call, t_bi, t_isi, t_lc, t_bin, ds_nil, ds_cons, os_nil, os_cons, oi_none, oi_some, c_none, c_some, i_op, as_nm, as_mv, x_nil, x_cons, x_set, x_setF, x_setT, x_par, x_sub, x_expr, x_ret, x_if, x_raise, x_pass, x_brk, x_cont, x_tryC, bind_ok, bind_exc, map_ok, map_exc, of_some, bind_ite, map_ite, endR_ite, dflT, asT, asD, frz, ofB, cmpB, takeSlot, moveSlot, slotT, Opd.see, sees, T.view, truthD, cmpD, eqD, scalD, binD, negD, isKd, callF, takeA, putA, startR, endR_rt, endR_nx, endR_exc, backs, evB, evT, evD, evO, List.map_cons, List.map_nil, List.length_cons, List.length_nil, List.cons_append, List.nil_append, List.append_nil, List.set_cons_zero, List.set_cons_succ, List.getElem?_cons_zero, List.getElem?_cons_succ, List.replicate_zero, List.replicate_succ, Option.join_some, Option.join_none, Option.bind_some, Option.bind_none, Option.map_some, Option.map_none, Nat.reduceAdd, Nat.reduceSub, Nat.sub_self, List.any_cons, List.any_nil, Bool.or_false, Bool.false_or, Bool.or_true, Bool.true_or, Bool.and_true, Bool.true_and, Bool.and_false, Bool.false_and, Bool.not_true, Bool.not_false, Bool.false_eq_true, reduceIte, reduceCtorEq, decide_eq_true_eq, Bool.not_eq_true', decide_eq_false_iff_not, sz_eq, Nat.reduceLeDiff, isOl, subFin, muFin, muD, setFin, setMany, parFin, idxD, slcD, bi_len, bi_lenT, bi_abs, bi_int, bi_list, bi_listT, bi_max2, bi_min2, Ss.sets, S.sets, Tg.is, List.mem_cons, List.not_mem_nil, or_false, or_true, false_or, true_or, List.mem_append, List.append_assoc, List.append_eq, lp]
  · obtain ⟨o2, o3, rfl⟩ := hJ
    cases t <;> cases hv <;> simp -implicitDefEqProofs only [f__law_first, e_nm, e_int, e_str, e_bl, e_non, e_glb, e_bin, e_neg, e_cmp, t_cmp, chn_if, e_chn, t_chn, e_and, e_or, t_and, t_or, e_not, t_not, e_ite, e_lst, e_tup, e_idx, e_slc, e_call, e_bi, e_rl1, e_rl2, e_isi, e_me, e_mu, t_nm, t_bl, t_idx, t_call, t_bi, t_isi, t_lc, t_bin, ds_nil, ds_cons, os_nil, os_cons, oi_none, oi_some, c_none, c_some, i_op, as_nm, as_mv, x_nil, x_cons, x_set, x_setF, x_setT, x_par, x_sub, x_expr, x_ret, x_if, x_raise, x_pass, x_brk, x_cont, x_tryC, bind_ok, bind_exc, map_ok, map_exc, of_some, bind_ite, map_ite, endR_ite, dflT, asT, asD, frz, ofB, cmpB, takeSlot, moveSlot, slotT, Opd.see, sees, T.view, truthD, cmpD, eqD, scalD, binD, negD, isKd, callF, takeA, putA, startR, endR_rt, endR_nx, endR_exc, backs, evB, evT, evD, evO, List.map_cons, List.map_nil, List.length_cons, List.length_nil, List.cons_append, List.nil_append, List.append_nil, List.set_cons_zero, List.set_cons_succ, List.getElem?_cons_zero, List.getElem?_cons_succ, List.replicate_zero, List.replicate_succ, Option.join_some, Option.join_none, Option.bind_some, Option.bind_none, Option.map_some, Option.map_none, Nat.reduceAdd, Nat.reduceSub, Nat.sub_self, List.any_cons, List.any_nil, Bool.or_false, Bool.false_or, Bool.or_true, Bool.true_or, Bool.and_true, Bool.true_and, Bool.and_false, Bool.false_and, Bool.not_true, Bool.not_false, Bool.false_eq_true, reduceIte, reduceCtorEq, decide_eq_true_eq, Bool.not_eq_true', decide_eq_false_iff_not, sz_eq, Nat.reduceLeDiff, isOl, subFin, muFin, muD, setFin, setMany, parFin, idxD, slcD, bi_len, bi_lenT, bi_abs, bi_int, bi_list, bi_listT, bi_max2, bi_min2, Ss.sets, S.sets, Tg.is, List.mem_cons, List.not_mem_nil, or_false, or_true, false_or, true_or, List.mem_append, List.append_assoc, List.append_eq, lp]
end
end L2.Eng.K58

namespace L2.Eng.K58
open PySem
section
variable {k : Nat} {t : T} {ws : List Int} {b : Int}
/-! ### the judges -/
def jw (ws : List Int) (b a y : Int) : Bool := decide (0 ≤ a) && decide (a < ws.length) && (decide (1 ≤ y) && decide (y < b)) && decide ((y * ws.getD a.toNat 0).fmod b = 0)
theorem s_judge (h : Rule ws b) (a y : Int) (hk : 2 < k) : (lev fs Bx k).call "judge_wrong" [.fz (il ws), .fz (.int b), .fz (.int a), .fz (.int y)] = .ok (.fz (.bool (jw ws b a y))) [.fz (il ws), .fz (.int b), .fz (.int a), .fz (.int y)] := by
  rw [lev_call (F := f_judge_wrong) rfl (by omega), run_fn rfl]
  have cr := s_rule (B := Bx) (k := k - 1) h (by omega)
  have n1 := s_is_number (B := Bx) (k := k - 1) a 0 ((ws.length : Int) - 1) (by omega)
  have n2 := s_is_number (B := Bx) (k := k - 1) y 1 (b - 1) (by omega)
  have hb := h.1
  unfold jw
  by_cases h1 : 0 ≤ a ∧ a < ws.length
  · rw [decide_eq_true h1.1, decide_eq_true h1.2]
    rw [decide_eq_true h1.1, decide_eq_true (show a ≤ (ws.length : Int) - 1 by omega)] at n1
    by_cases h2 : 1 ≤ y ∧ y < b
    · rw [decide_eq_true h2.1, decide_eq_true h2.2]
      rw [decide_eq_true h2.1, decide_eq_true (show y ≤ b - 1 by omega)] at n2
      obtain ⟨i, rfl⟩ : ∃ i : Nat, a = i := ⟨a.toNat, by omega⟩
      have ix := atI_i (ns := ws) (i := i) (by omega)
      have hm : mulOk y (ws.getD i 0) = true := mul_l (by have := h.2.1; omega)
      have nb : b ≠ 0 := by omega
      rw [Int.toNat_natCast]
      simp -implicitDefEqProofs only [f_judge_wrong, e_nm, e_int, e_str, e_bl, e_non, e_glb, e_bin, e_neg, e_cmp, t_cmp, chn_if, e_chn, t_chn, e_and, e_or, t_and, t_or, e_not, t_not, e_ite, e_lst, e_tup, e_idx, e_slc, e_call, e_bi, e_rl1, e_rl2, e_isi, e_me, e_mu, t_nm, t_bl, t_idx, t_call, t_bi, t_isi, t_lc, t_bin, ds_nil, ds_cons, os_nil, os_cons, oi_none, oi_some, c_none, c_some, i_op, as_nm, as_mv, x_nil, x_cons, x_set, x_setF, x_setT, x_par, x_sub, x_expr, x_ret, x_if, x_raise, x_pass, x_brk, x_cont, x_tryC, bind_ok, bind_exc, map_ok, map_exc, of_some, bind_ite, map_ite, endR_ite, dflT, asT, asD, frz, ofB, cmpB, takeSlot, moveSlot, slotT, Opd.see, sees, T.view, truthD, cmpD, eqD, scalD, binD, negD, isKd, callF, takeA, putA, startR, endR_rt, endR_nx, endR_exc, backs, evB, evT, evD, evO, List.map_cons, List.map_nil, List.length_cons, List.length_nil, List.cons_append, List.nil_append, List.append_nil, List.set_cons_zero, List.set_cons_succ, List.getElem?_cons_zero, List.getElem?_cons_succ, List.replicate_zero, List.replicate_succ, Option.join_some, Option.join_none, Option.bind_some, Option.bind_none, Option.map_some, Option.map_none, Nat.reduceAdd, Nat.reduceSub, Nat.sub_self, List.any_cons, List.any_nil, Bool.or_false, Bool.false_or, Bool.or_true, Bool.true_or, Bool.and_true, Bool.true_and, Bool.and_false, Bool.false_and, Bool.not_true, Bool.not_false, Bool.false_eq_true, reduceIte, reduceCtorEq, decide_eq_true_eq, Bool.not_eq_true', decide_eq_false_iff_not, sz_eq, Nat.reduceLeDiff, isOl, subFin, muFin, muD, setFin, setMany, parFin, idxD, slcD, bi_len, bi_lenT, bi_abs, bi_int, bi_list, bi_listT, bi_max2, bi_min2, Ss.sets, S.sets, Tg.is, List.mem_cons, List.not_mem_nil, or_false, or_true, false_or, true_or, List.mem_append, List.append_assoc, List.append_eq, cr, a0_rule, n1, n2, ix, hm, nb, eqv_int, ne_eq, not_false_eq_true, List.length_map]
    · have e : (decide (1 ≤ y) && decide (y < b)) = false := by
        rw [Bool.and_eq_false_iff, decide_eq_false_iff_not, decide_eq_false_iff_not]
        omega
      have e' : (decide (1 ≤ y) && decide (y ≤ b - 1)) = false := by
        rw [Bool.and_eq_false_iff, decide_eq_false_iff_not, decide_eq_false_iff_not]
        omega
      rw [e]
      rw [e'] at n2
      simp -implicitDefEqProofs only [f_judge_wrong, e_nm, e_int, e_str, e_bl, e_non, e_glb, e_bin, e_neg, e_cmp, t_cmp, chn_if, e_chn, t_chn, e_and, e_or, t_and, t_or, e_not, t_not, e_ite, e_lst, e_tup, e_idx, e_slc, e_call, e_bi, e_rl1, e_rl2, e_isi, e_me, e_mu, t_nm, t_bl, t_idx, t_call, t_bi, t_isi, t_lc, t_bin, ds_nil, ds_cons, os_nil, os_cons, oi_none, oi_some, c_none, c_some, i_op, as_nm, as_mv, x_nil, x_cons, x_set, x_setF, x_setT, x_par, x_sub, x_expr, x_ret, x_if, x_raise, x_pass, x_brk, x_cont, x_tryC, bind_ok, bind_exc, map_ok, map_exc, of_some, bind_ite, map_ite, endR_ite, dflT, asT, asD, frz, ofB, cmpB, takeSlot, moveSlot, slotT, Opd.see, sees, T.view, truthD, cmpD, eqD, scalD, binD, negD, isKd, callF, takeA, putA, startR, endR_rt, endR_nx, endR_exc, backs, evB, evT, evD, evO, List.map_cons, List.map_nil, List.length_cons, List.length_nil, List.cons_append, List.nil_append, List.append_nil, List.set_cons_zero, List.set_cons_succ, List.getElem?_cons_zero, List.getElem?_cons_succ, List.replicate_zero, List.replicate_succ, Option.join_some, Option.join_none, Option.bind_some, Option.bind_none, Option.map_some, Option.map_none, Nat.reduceAdd, Nat.reduceSub, Nat.sub_self, List.any_cons, List.any_nil, Bool.or_false, Bool.false_or, Bool.or_true, Bool.true_or, Bool.and_true, Bool.true_and, Bool.and_false, Bool.false_and, Bool.not_true, Bool.not_false, Bool.false_eq_true, reduceIte, reduceCtorEq, decide_eq_true_eq, Bool.not_eq_true', decide_eq_false_iff_not, sz_eq, Nat.reduceLeDiff, isOl, subFin, muFin, muD, setFin, setMany, parFin, idxD, slcD, bi_len, bi_lenT, bi_abs, bi_int, bi_list, bi_listT, bi_max2, bi_min2, Ss.sets, S.sets, Tg.is, List.mem_cons, List.not_mem_nil, or_false, or_true, false_or, true_or, List.mem_append, List.append_assoc, List.append_eq, cr, a0_rule, n1, n2, List.length_map]
  · have e : (decide (0 ≤ a) && decide (a < (ws.length : Int))) = false := by
      rw [Bool.and_eq_false_iff, decide_eq_false_iff_not, decide_eq_false_iff_not]
      omega
    have e' : (decide (0 ≤ a) && decide (a ≤ (ws.length : Int) - 1)) = false := by
      rw [Bool.and_eq_false_iff, decide_eq_false_iff_not, decide_eq_false_iff_not]
      omega
    rw [e]
    rw [e'] at n1
    simp -implicitDefEqProofs only [f_judge_wrong, e_nm, e_int, e_str, e_bl, e_non, e_glb, e_bin, e_neg, e_cmp, t_cmp, chn_if, e_chn, t_chn, e_and, e_or, t_and, t_or, e_not, t_not, e_ite, e_lst, e_tup, e_idx, e_slc, e_call, e_bi, e_rl1, e_rl2, e_isi, e_me, e_mu, t_nm, t_bl, t_idx, t_call, t_bi, t_isi, t_lc, t_bin, ds_nil, ds_cons, os_nil, os_cons, oi_none, oi_some, c_none, c_some, i_op, as_nm, as_mv, x_nil, x_cons, x_set, x_setF, x_setT, x_par, x_sub, x_expr, x_ret, x_if, x_raise, x_pass, x_brk, x_cont, x_tryC, bind_ok, bind_exc, map_ok, map_exc, of_some, bind_ite, map_ite, endR_ite, dflT, asT, asD, frz, ofB, cmpB, takeSlot, moveSlot, slotT, Opd.see, sees, T.view, truthD, cmpD, eqD, scalD, binD, negD, isKd, callF, takeA, putA, startR, endR_rt, endR_nx, endR_exc, backs, evB, evT, evD, evO, List.map_cons, List.map_nil, List.length_cons, List.length_nil, List.cons_append, List.nil_append, List.append_nil, List.set_cons_zero, List.set_cons_succ, List.getElem?_cons_zero, List.getElem?_cons_succ, List.replicate_zero, List.replicate_succ, Option.join_some, Option.join_none, Option.bind_some, Option.bind_none, Option.map_some, Option.map_none, Nat.reduceAdd, Nat.reduceSub, Nat.sub_self, List.any_cons, List.any_nil, Bool.or_false, Bool.false_or, Bool.or_true, Bool.true_or, Bool.and_true, Bool.true_and, Bool.and_false, Bool.false_and, Bool.not_true, Bool.not_false, Bool.false_eq_true, reduceIte, reduceCtorEq, decide_eq_true_eq, Bool.not_eq_true', decide_eq_false_iff_not, sz_eq, Nat.reduceLeDiff, isOl, subFin, muFin, muD, setFin, setMany, parFin, idxD, slcD, bi_len, bi_lenT, bi_abs, bi_int, bi_list, bi_listT, bi_max2, bi_min2, Ss.sets, S.sets, Tg.is, List.mem_cons, List.not_mem_nil, or_false, or_true, false_or, true_or, List.mem_append, List.append_assoc, List.append_eq, cr, a0_rule, n1, List.length_map]
theorem s_judgeE (h : Rule ws b) (a y : Int) (hk : 2 < k) : (lev fs Bx k).call "judge_exchange" [.fz (il ws), .fz (.int b), .fz (.int a), .fz (.int y)] = .ok (.fz (.bool (jw (steps ws) b a y))) [.fz (il ws), .fz (.int b), .fz (.int a), .fz (.int y)] := by
  rw [lev_call (F := f_judge_exchange) rfl (by omega), run_fn rfl]
  have cr := s_rule (B := Bx) (k := k - 1) h (by omega)
  have n1 := s_is_number (B := Bx) (k := k - 1) a 0 ((ws.length : Int) - 2) (by omega)
  have n2 := s_is_number (B := Bx) (k := k - 1) y 1 (b - 1) (by omega)
  have hb := h.1
  have sl : ((steps ws).length : Int) = (ws.length : Int) - 1 := by
    rw [steps_len]
    have := h.2.2.1
    omega
  unfold jw
  rw [sl]
  by_cases h1 : 0 ≤ a ∧ a < (ws.length : Int) - 1
  · rw [decide_eq_true h1.1, decide_eq_true h1.2]
    rw [decide_eq_true h1.1, decide_eq_true (show a ≤ (ws.length : Int) - 2 by omega)] at n1
    by_cases h2 : 1 ≤ y ∧ y < b
    · rw [decide_eq_true h2.1, decide_eq_true h2.2]
      rw [decide_eq_true h2.1, decide_eq_true (show y ≤ b - 1 by omega)] at n2
      obtain ⟨i, rfl⟩ : ∃ i : Nat, a = i := ⟨a.toNat, by omega⟩
      have ix := atI_i (ns := ws) (i := i) (by omega)
      have ix1 := atI_i (ns := ws) (i := i + 1) (by omega)
      rw [Int.natCast_add, Int.natCast_one] at ix1
      have st := steps_at (ws := ws) (i := i) (by omega)
      have ec : ab (ws.getD (i + 1) 0 - ws.getD i 0) = (if ws.getD i 0 - ws.getD (i + 1) 0 < 0 then -(ws.getD i 0 - ws.getD (i + 1) 0) else ws.getD i 0 - ws.getD (i + 1) 0) := by
        unfold ab
        split <;> split <;> omega
      have hm : ∀ z, mulOk y z = true := fun z => mul_l (by have := h.2.1; omega)
      have nb : b ≠ 0 := by omega
      rw [Int.toNat_natCast, st, ec]
      simp -implicitDefEqProofs only [f_judge_exchange, e_nm, e_int, e_str, e_bl, e_non, e_glb, e_bin, e_neg, e_cmp, t_cmp, chn_if, e_chn, t_chn, e_and, e_or, t_and, t_or, e_not, t_not, e_ite, e_lst, e_tup, e_idx, e_slc, e_call, e_bi, e_rl1, e_rl2, e_isi, e_me, e_mu, t_nm, t_bl, t_idx, t_call, t_bi, t_isi, t_lc, t_bin, ds_nil, ds_cons, os_nil, os_cons, oi_none, oi_some, c_none, c_some, i_op, as_nm, as_mv, x_nil, x_cons, x_set, x_setF, x_setT, x_par, x_sub, x_expr, x_ret, x_if, x_raise, x_pass, x_brk, x_cont, x_tryC, bind_ok, bind_exc, map_ok, map_exc, of_some, bind_ite, map_ite, endR_ite, dflT, asT, asD, frz, ofB, cmpB, takeSlot, moveSlot, slotT, Opd.see, sees, T.view, truthD, cmpD, eqD, scalD, binD, negD, isKd, callF, takeA, putA, startR, endR_rt, endR_nx, endR_exc, backs, evB, evT, evD, evO, List.map_cons, List.map_nil, List.length_cons, List.length_nil, List.cons_append, List.nil_append, List.append_nil, List.set_cons_zero, List.set_cons_succ, List.getElem?_cons_zero, List.getElem?_cons_succ, List.replicate_zero, List.replicate_succ, Option.join_some, Option.join_none, Option.bind_some, Option.bind_none, Option.map_some, Option.map_none, Nat.reduceAdd, Nat.reduceSub, Nat.sub_self, List.any_cons, List.any_nil, Bool.or_false, Bool.false_or, Bool.or_true, Bool.true_or, Bool.and_true, Bool.true_and, Bool.and_false, Bool.false_and, Bool.not_true, Bool.not_false, Bool.false_eq_true, reduceIte, reduceCtorEq, decide_eq_true_eq, Bool.not_eq_true', decide_eq_false_iff_not, sz_eq, Nat.reduceLeDiff, isOl, subFin, muFin, muD, setFin, setMany, parFin, idxD, slcD, bi_len, bi_lenT, bi_abs, bi_int, bi_list, bi_listT, bi_max2, bi_min2, Ss.sets, S.sets, Tg.is, List.mem_cons, List.not_mem_nil, or_false, or_true, false_or, true_or, List.mem_append, List.append_assoc, List.append_eq, cr, a0_rule, n1, n2, ix, ix1, hm, nb, eqv_int, ne_eq, not_false_eq_true, List.length_map]
    · have e : (decide (1 ≤ y) && decide (y < b)) = false := by
        rw [Bool.and_eq_false_iff, decide_eq_false_iff_not, decide_eq_false_iff_not]
        omega
      have e' : (decide (1 ≤ y) && decide (y ≤ b - 1)) = false := by
        rw [Bool.and_eq_false_iff, decide_eq_false_iff_not, decide_eq_false_iff_not]
        omega
      rw [e]
      rw [e'] at n2
      simp -implicitDefEqProofs only [f_judge_exchange, e_nm, e_int, e_str, e_bl, e_non, e_glb, e_bin, e_neg, e_cmp, t_cmp, chn_if, e_chn, t_chn, e_and, e_or, t_and, t_or, e_not, t_not, e_ite, e_lst, e_tup, e_idx, e_slc, e_call, e_bi, e_rl1, e_rl2, e_isi, e_me, e_mu, t_nm, t_bl, t_idx, t_call, t_bi, t_isi, t_lc, t_bin, ds_nil, ds_cons, os_nil, os_cons, oi_none, oi_some, c_none, c_some, i_op, as_nm, as_mv, x_nil, x_cons, x_set, x_setF, x_setT, x_par, x_sub, x_expr, x_ret, x_if, x_raise, x_pass, x_brk, x_cont, x_tryC, bind_ok, bind_exc, map_ok, map_exc, of_some, bind_ite, map_ite, endR_ite, dflT, asT, asD, frz, ofB, cmpB, takeSlot, moveSlot, slotT, Opd.see, sees, T.view, truthD, cmpD, eqD, scalD, binD, negD, isKd, callF, takeA, putA, startR, endR_rt, endR_nx, endR_exc, backs, evB, evT, evD, evO, List.map_cons, List.map_nil, List.length_cons, List.length_nil, List.cons_append, List.nil_append, List.append_nil, List.set_cons_zero, List.set_cons_succ, List.getElem?_cons_zero, List.getElem?_cons_succ, List.replicate_zero, List.replicate_succ, Option.join_some, Option.join_none, Option.bind_some, Option.bind_none, Option.map_some, Option.map_none, Nat.reduceAdd, Nat.reduceSub, Nat.sub_self, List.any_cons, List.any_nil, Bool.or_false, Bool.false_or, Bool.or_true, Bool.true_or, Bool.and_true, Bool.true_and, Bool.and_false, Bool.false_and, Bool.not_true, Bool.not_false, Bool.false_eq_true, reduceIte, reduceCtorEq, decide_eq_true_eq, Bool.not_eq_true', decide_eq_false_iff_not, sz_eq, Nat.reduceLeDiff, isOl, subFin, muFin, muD, setFin, setMany, parFin, idxD, slcD, bi_len, bi_lenT, bi_abs, bi_int, bi_list, bi_listT, bi_max2, bi_min2, Ss.sets, S.sets, Tg.is, List.mem_cons, List.not_mem_nil, or_false, or_true, false_or, true_or, List.mem_append, List.append_assoc, List.append_eq, cr, a0_rule, n1, n2, List.length_map]
  · have e : (decide (0 ≤ a) && decide (a < (ws.length : Int) - 1)) = false := by
      rw [Bool.and_eq_false_iff, decide_eq_false_iff_not, decide_eq_false_iff_not]
      omega
    have e' : (decide (0 ≤ a) && decide (a ≤ (ws.length : Int) - 2)) = false := by
      rw [Bool.and_eq_false_iff, decide_eq_false_iff_not, decide_eq_false_iff_not]
      omega
    rw [e]
    rw [e'] at n1
    simp -implicitDefEqProofs only [f_judge_exchange, e_nm, e_int, e_str, e_bl, e_non, e_glb, e_bin, e_neg, e_cmp, t_cmp, chn_if, e_chn, t_chn, e_and, e_or, t_and, t_or, e_not, t_not, e_ite, e_lst, e_tup, e_idx, e_slc, e_call, e_bi, e_rl1, e_rl2, e_isi, e_me, e_mu, t_nm, t_bl, t_idx, t_call, t_bi, t_isi, t_lc, t_bin, ds_nil, ds_cons, os_nil, os_cons, oi_none, oi_some, c_none, c_some, i_op, as_nm, as_mv, x_nil, x_cons, x_set, x_setF, x_setT, x_par, x_sub, x_expr, x_ret, x_if, x_raise, x_pass, x_brk, x_cont, x_tryC, bind_ok, bind_exc, map_ok, map_exc, of_some, bind_ite, map_ite, endR_ite, dflT, asT, asD, frz, ofB, cmpB, takeSlot, moveSlot, slotT, Opd.see, sees, T.view, truthD, cmpD, eqD, scalD, binD, negD, isKd, callF, takeA, putA, startR, endR_rt, endR_nx, endR_exc, backs, evB, evT, evD, evO, List.map_cons, List.map_nil, List.length_cons, List.length_nil, List.cons_append, List.nil_append, List.append_nil, List.set_cons_zero, List.set_cons_succ, List.getElem?_cons_zero, List.getElem?_cons_succ, List.replicate_zero, List.replicate_succ, Option.join_some, Option.join_none, Option.bind_some, Option.bind_none, Option.map_some, Option.map_none, Nat.reduceAdd, Nat.reduceSub, Nat.sub_self, List.any_cons, List.any_nil, Bool.or_false, Bool.false_or, Bool.or_true, Bool.true_or, Bool.and_true, Bool.true_and, Bool.and_false, Bool.false_and, Bool.not_true, Bool.not_false, Bool.false_eq_true, reduceIte, reduceCtorEq, decide_eq_true_eq, Bool.not_eq_true', decide_eq_false_iff_not, sz_eq, Nat.reduceLeDiff, isOl, subFin, muFin, muD, setFin, setMany, parFin, idxD, slcD, bi_len, bi_lenT, bi_abs, bi_int, bi_list, bi_listT, bi_max2, bi_min2, Ss.sets, S.sets, Tg.is, List.mem_cons, List.not_mem_nil, or_false, or_true, false_or, true_or, List.mem_append, List.append_assoc, List.append_eq, cr, a0_rule, n1, List.length_map]
end
section
variable {k b m : Nat} {ws : List Int}
/-! ### all mistakes tried -/
def okW (ws : List Int) (b : Int) (row : List Int) (a : Nat) (x : Nat) : Bool := !(!decide ((x : Int) = row.getD a 0) && decide ((dot (rep row a x) ws).fmod b = (dot row ws).fmod b))
def lwB (ws : List Int) (b : Nat) : Bool := (tl b ws.length).all fun row => (List.range ws.length).all fun a => (List.range b).all fun x => okW ws b row a x
def okE (ws : List Int) (b : Int) (row : List Int) (a : Nat) : Bool := !(!decide (row.getD a 0 = row.getD (a + 1) 0) && decide ((dot (swp row a) ws).fmod b = (dot row ws).fmod b))
def leB (ws : List Int) (b : Nat) : Bool := (tl b ws.length).all fun row => (List.range (ws.length - 1)).all fun a => okE ws b row a
theorem s_lwrong (h : Rule ws b) (hb : b ≤ 9) (hm : ws.length ≤ 3) (hk : 1 < k) : (lev fs Bx k).call "_law_wrong" [.fz (il ws), .fz (.int b)] = .ok (.fz (.bool (lwB ws b))) [.fz (il ws), .fz (.int b)] := by
  rw [lev_call (F := f__law_wrong) rfl (by omega), run_fn rfl]
  have tls := s_tallies (B := Bx) (k := k - 1) (b := b) (m := ws.length) hb hm (by omega)
  have tz := tl_le hb hm
  have lp : Scan (fun ρ => ∃ o2 o3 o4 o5, ρ = [some (.fz (il ws)), some (.fz (.int b)), o2, o3, o4, o5]) (.fz (.bool false)) (lwB ws b) (exS (lev fs Bx (k - 1)) (.for_ (.one 2) (.opd (.call "_law_tallies" (.cons (.bi .len (.cons (.nm 0) .nil)) (.cons (.nm 1) .nil)) [])) (.cons (.setF 3 (.call "_law_rest" (.cons (.nm 2) (.cons (.nm 0) (.cons (.nm 1) .nil))) [])) (.cons (.for_ (.one 4) (.rng1 (.bi .len (.cons (.nm 2) .nil))) (.cons (.for_ (.one 5) (.rng1 (.nm 1)) (.cons (.ifS (.and_ (.cmp .NotEq (.nm 5) (.idx (.nm 2) (.nm 4))) (.cmp .Eq (.call "_law_rest" (.cons (.bin .Add (.bin .Add (.slc (.nm 2) .none (.some (.nm 4))) (.lst (.cons (.nm 5) .nil))) (.slc (.nm 2) (.some (.bin .Add (.nm 4) (.int 1))) .none)) (.cons (.nm 0) (.cons (.nm 1) .nil))) []) (.nm 3))) (.cons (.ret (.bl false)) .nil) .nil) .nil)) .nil)) .nil))) [some (.fz (il ws)), some (.fz (.int b)), none, none, none, none]) := by
    refine scan_lm (x := .tmp (.fz (.list (ils (tl b ws.length))))) (k := false) (rs := tl b ws.length) (g := fun r => il r) (ρ1 := [some (.fz (il ws)), some (.fz (.int b)), none, none, none, none]) _ (by simp -implicitDefEqProofs only [e_nm, e_int, e_str, e_bl, e_non, e_glb, e_bin, e_neg, e_cmp, t_cmp, chn_if, e_chn, t_chn, e_and, e_or, t_and, t_or, e_not, t_not, e_ite, e_lst, e_tup, e_idx, e_slc, e_call, e_bi, e_rl1, e_rl2, e_isi, e_me, e_mu, t_nm, t_bl, t_idx, t_call, t_bi, t_isi, t_lc, t_bin, ds_nil, ds_cons, os_nil, os_cons, oi_none, oi_some, c_none, c_some, i_op, as_nm, as_mv, x_nil, x_cons, x_set, x_setF, x_setT, x_par, x_sub, x_expr, x_ret, x_if, x_raise, x_pass, x_brk, x_cont, x_tryC, bind_ok, bind_exc, map_ok, map_exc, of_some, bind_ite, map_ite, endR_ite, dflT, asT, asD, frz, ofB, cmpB, takeSlot, moveSlot, slotT, Opd.see, sees, T.view, truthD, cmpD, eqD, scalD, binD, negD, isKd, callF, takeA, putA, startR, endR_rt, endR_nx, endR_exc, backs, evB, evT, evD, evO, List.map_cons, List.map_nil, List.length_cons, List.length_nil, List.cons_append, List.nil_append, List.append_nil, List.set_cons_zero, List.set_cons_succ, List.getElem?_cons_zero, List.getElem?_cons_succ, List.replicate_zero, List.replicate_succ, Option.join_some, Option.join_none, Option.bind_some, Option.bind_none, Option.map_some, Option.map_none, Nat.reduceAdd, Nat.reduceSub, Nat.sub_self, List.any_cons, List.any_nil, Bool.or_false, Bool.false_or, Bool.or_true, Bool.true_or, Bool.and_true, Bool.true_and, Bool.and_false, Bool.false_and, Bool.not_true, Bool.not_false, Bool.false_eq_true, reduceIte, reduceCtorEq, decide_eq_true_eq, Bool.not_eq_true', decide_eq_false_iff_not, sz_eq, Nat.reduceLeDiff, isOl, subFin, muFin, muD, setFin, setMany, parFin, idxD, slcD, bi_len, bi_lenT, bi_abs, bi_int, bi_list, bi_listT, bi_max2, bi_min2, Ss.sets, S.sets, Tg.is, List.mem_cons, List.not_mem_nil, or_false, or_true, false_or, true_or, List.mem_append, List.append_assoc, List.append_eq, tls, List.length_map]) rfl rfl rfl ⟨none, none, none, none, rfl⟩ (fun _ _ => rfl) ?_
    rintro row _ hr ⟨o2, o3, o4, o5, rfl⟩
    have tr := tl_row hr
    have tal : Tally row ws b := ⟨h, tr.1, tr.2⟩
    have lr := s_lrestT (B := Bx) (k := k - 1) (t := .fz (il row)) rfl tal (by omega)
    have s1 : exS (lev fs Bx (k - 1)) (.setF 3 (.call "_law_rest" (.cons (.nm 2) (.cons (.nm 0) (.cons (.nm 1) .nil))) [])) [some (.fz (il ws)), some (.fz (.int b)), some (.fz (il row)), o3, o4, o5] = .ok .nx [some (.fz (il ws)), some (.fz (.int b)), some (.fz (il row)), some (.fz (.int ((dot row ws).fmod b))), o4, o5] := by
      simp -implicitDefEqProofs only [e_nm, e_int, e_str, e_bl, e_non, e_glb, e_bin, e_neg, e_cmp, t_cmp, chn_if, e_chn, t_chn, e_and, e_or, t_and, t_or, e_not, t_not, e_ite, e_lst, e_tup, e_idx, e_slc, e_call, e_bi, e_rl1, e_rl2, e_isi, e_me, e_mu, t_nm, t_bl, t_idx, t_call, t_bi, t_isi, t_lc, t_bin, ds_nil, ds_cons, os_nil, os_cons, oi_none, oi_some, c_none, c_some, i_op, as_nm, as_mv, x_nil, x_cons, x_set, x_setF, x_setT, x_par, x_sub, x_expr, x_ret, x_if, x_raise, x_pass, x_brk, x_cont, x_tryC, bind_ok, bind_exc, map_ok, map_exc, of_some, bind_ite, map_ite, endR_ite, dflT, asT, asD, frz, ofB, cmpB, takeSlot, moveSlot, slotT, Opd.see, sees, T.view, truthD, cmpD, eqD, scalD, binD, negD, isKd, callF, takeA, putA, startR, endR_rt, endR_nx, endR_exc, backs, evB, evT, evD, evO, List.map_cons, List.map_nil, List.length_cons, List.length_nil, List.cons_append, List.nil_append, List.append_nil, List.set_cons_zero, List.set_cons_succ, List.getElem?_cons_zero, List.getElem?_cons_succ, List.replicate_zero, List.replicate_succ, Option.join_some, Option.join_none, Option.bind_some, Option.bind_none, Option.map_some, Option.map_none, Nat.reduceAdd, Nat.reduceSub, Nat.sub_self, List.any_cons, List.any_nil, Bool.or_false, Bool.false_or, Bool.or_true, Bool.true_or, Bool.and_true, Bool.true_and, Bool.and_false, Bool.false_and, Bool.not_true, Bool.not_false, Bool.false_eq_true, reduceIte, reduceCtorEq, decide_eq_true_eq, Bool.not_eq_true', decide_eq_false_iff_not, sz_eq, Nat.reduceLeDiff, isOl, subFin, muFin, muD, setFin, setMany, parFin, idxD, slcD, bi_len, bi_lenT, bi_abs, bi_int, bi_list, bi_listT, bi_max2, bi_min2, Ss.sets, S.sets, Tg.is, List.mem_cons, List.not_mem_nil, or_false, or_true, false_or, true_or, List.mem_append, List.append_assoc, List.append_eq, lr]
    refine scan_nx s1 (scan_last ?_)
    have hI : ∀ v r, Scan (fun ρ => ∃ o4 o5, ρ = [some (.fz (il ws)), some (.fz (.int b)), some (.fz (il row)), some (.fz (.int ((dot row ws).fmod b))), o4, o5]) (.fz (.bool false)) v r → Scan (fun ρ => ∃ o2 o3 o4 o5, ρ = [some (.fz (il ws)), some (.fz (.int b)), o2, o3, o4, o5]) (.fz (.bool false)) v r := fun v r q => by
      rcases q with ⟨e, ρ, er, o4, o5, rfl⟩ | q
      · exact .inl ⟨e, _, er, _, _, _, _, rfl⟩
      · exact .inr q
    refine hI _ _ ?_
    refine scan_r1 (x := .tmp (.fz (.int row.length))) (n := ws.length) (ρ1 := [some (.fz (il ws)), some (.fz (.int b)), some (.fz (il row)), some (.fz (.int ((dot row ws).fmod b))), o4, o5]) _ (by simp -implicitDefEqProofs only [e_nm, e_int, e_str, e_bl, e_non, e_glb, e_bin, e_neg, e_cmp, t_cmp, chn_if, e_chn, t_chn, e_and, e_or, t_and, t_or, e_not, t_not, e_ite, e_lst, e_tup, e_idx, e_slc, e_call, e_bi, e_rl1, e_rl2, e_isi, e_me, e_mu, t_nm, t_bl, t_idx, t_call, t_bi, t_isi, t_lc, t_bin, ds_nil, ds_cons, os_nil, os_cons, oi_none, oi_some, c_none, c_some, i_op, as_nm, as_mv, x_nil, x_cons, x_set, x_setF, x_setT, x_par, x_sub, x_expr, x_ret, x_if, x_raise, x_pass, x_brk, x_cont, x_tryC, bind_ok, bind_exc, map_ok, map_exc, of_some, bind_ite, map_ite, endR_ite, dflT, asT, asD, frz, ofB, cmpB, takeSlot, moveSlot, slotT, Opd.see, sees, T.view, truthD, cmpD, eqD, scalD, binD, negD, isKd, callF, takeA, putA, startR, endR_rt, endR_nx, endR_exc, backs, evB, evT, evD, evO, List.map_cons, List.map_nil, List.length_cons, List.length_nil, List.cons_append, List.nil_append, List.append_nil, List.set_cons_zero, List.set_cons_succ, List.getElem?_cons_zero, List.getElem?_cons_succ, List.replicate_zero, List.replicate_succ, Option.join_some, Option.join_none, Option.bind_some, Option.bind_none, Option.map_some, Option.map_none, Nat.reduceAdd, Nat.reduceSub, Nat.sub_self, List.any_cons, List.any_nil, Bool.or_false, Bool.false_or, Bool.or_true, Bool.true_or, Bool.and_true, Bool.true_and, Bool.and_false, Bool.false_and, Bool.not_true, Bool.not_false, Bool.false_eq_true, reduceIte, reduceCtorEq, decide_eq_true_eq, Bool.not_eq_true', decide_eq_false_iff_not, sz_eq, Nat.reduceLeDiff, isOl, subFin, muFin, muD, setFin, setMany, parFin, idxD, slcD, bi_len, bi_lenT, bi_abs, bi_int, bi_list, bi_listT, bi_max2, bi_min2, Ss.sets, S.sets, Tg.is, List.mem_cons, List.not_mem_nil, or_false, or_true, false_or, true_or, List.mem_append, List.append_assoc, List.append_eq, List.length_map]) (by rw [tr.1]; rfl) (by omega) ⟨_, _, rfl⟩ ?_
    rintro a _ ha ⟨o4', o5', rfl⟩
    refine scan_last ?_
    have hI2 : ∀ v r, Scan (fun ρ => ∃ o5, ρ = [some (.fz (il ws)), some (.fz (.int b)), some (.fz (il row)), some (.fz (.int ((dot row ws).fmod b))), some (.fz (.int a)), o5]) (.fz (.bool false)) v r → Scan (fun ρ => ∃ o4 o5, ρ = [some (.fz (il ws)), some (.fz (.int b)), some (.fz (il row)), some (.fz (.int ((dot row ws).fmod b))), o4, o5]) (.fz (.bool false)) v r := fun v r q => by
      rcases q with ⟨e, ρ, er, o5, rfl⟩ | q
      · exact .inl ⟨e, _, er, _, _, rfl⟩
      · exact .inr q
    refine hI2 _ _ ?_
    refine scan_r1 (x := .sl 1) (n := b) (ρ1 := [some (.fz (il ws)), some (.fz (.int b)), some (.fz (il row)), some (.fz (.int ((dot row ws).fmod b))), some (.fz (.int a)), o5']) _ rfl rfl (by omega) ⟨_, rfl⟩ ?_
    rintro x _ hx ⟨o5', rfl⟩
    have ha' : a < row.length := by rw [tr.1]; exact ha
    have re := repE (Φ := lev fs Bx (k - 1)) (i := 2) (j := 4) (f := 5) (ρ := [some (.fz (il ws)), some (.fz (.int b)), some (.fz (il row)), some (.fz (.int ((dot row ws).fmod b))), some (.fz (.int a)), some (.fz (.int x))]) (fg := row) (a := a) (x := x) rfl rfl rfl ha' (by omega)
    have rr := s_lrestT (B := Bx) (k := k - 1) (t := .ol ((rep row a (x : Int)).map PyData.int)) rfl (tally_rep tal ha' (by omega)) (by omega)
    have ix := atI_i (ns := row) (i := a) ha'
    have c1 : (ev2 (lev fs Bx (k - 1)) (.cmp .NotEq (.nm 5) (.idx (.nm 2) (.nm 4)))).2 [some (.fz (il ws)), some (.fz (.int b)), some (.fz (il row)), some (.fz (.int ((dot row ws).fmod b))), some (.fz (.int a)), some (.fz (.int x))] = .ok (!decide ((x : Int) = row.getD a 0)) [some (.fz (il ws)), some (.fz (.int b)), some (.fz (il row)), some (.fz (.int ((dot row ws).fmod b))), some (.fz (.int a)), some (.fz (.int x))] := by
      simp -implicitDefEqProofs only [e_nm, e_int, e_str, e_bl, e_non, e_glb, e_bin, e_neg, e_cmp, t_cmp, chn_if, e_chn, t_chn, e_and, e_or, t_and, t_or, e_not, t_not, e_ite, e_lst, e_tup, e_idx, e_slc, e_call, e_bi, e_rl1, e_rl2, e_isi, e_me, e_mu, t_nm, t_bl, t_idx, t_call, t_bi, t_isi, t_lc, t_bin, ds_nil, ds_cons, os_nil, os_cons, oi_none, oi_some, c_none, c_some, i_op, as_nm, as_mv, x_nil, x_cons, x_set, x_setF, x_setT, x_par, x_sub, x_expr, x_ret, x_if, x_raise, x_pass, x_brk, x_cont, x_tryC, bind_ok, bind_exc, map_ok, map_exc, of_some, bind_ite, map_ite, endR_ite, dflT, asT, asD, frz, ofB, cmpB, takeSlot, moveSlot, slotT, Opd.see, sees, T.view, truthD, cmpD, eqD, scalD, binD, negD, isKd, callF, takeA, putA, startR, endR_rt, endR_nx, endR_exc, backs, evB, evT, evD, evO, List.map_cons, List.map_nil, List.length_cons, List.length_nil, List.cons_append, List.nil_append, List.append_nil, List.set_cons_zero, List.set_cons_succ, List.getElem?_cons_zero, List.getElem?_cons_succ, List.replicate_zero, List.replicate_succ, Option.join_some, Option.join_none, Option.bind_some, Option.bind_none, Option.map_some, Option.map_none, Nat.reduceAdd, Nat.reduceSub, Nat.sub_self, List.any_cons, List.any_nil, Bool.or_false, Bool.false_or, Bool.or_true, Bool.true_or, Bool.and_true, Bool.true_and, Bool.and_false, Bool.false_and, Bool.not_true, Bool.not_false, Bool.false_eq_true, reduceIte, reduceCtorEq, decide_eq_true_eq, Bool.not_eq_true', decide_eq_false_iff_not, sz_eq, Nat.reduceLeDiff, isOl, subFin, muFin, muD, setFin, setMany, parFin, idxD, slcD, bi_len, bi_lenT, bi_abs, bi_int, bi_list, bi_listT, bi_max2, bi_min2, Ss.sets, S.sets, Tg.is, List.mem_cons, List.not_mem_nil, or_false, or_true, false_or, true_or, List.mem_append, List.append_assoc, List.append_eq, ix, eqv_int]
    have c2 : (ev2 (lev fs Bx (k - 1)) (.cmp .Eq (.call "_law_rest" (.cons (.bin .Add (.bin .Add (.slc (.nm 2) .none (.some (.nm 4))) (.lst (.cons (.nm 5) .nil))) (.slc (.nm 2) (.some (.bin .Add (.nm 4) (.int 1))) .none)) (.cons (.nm 0) (.cons (.nm 1) .nil))) []) (.nm 3))).2 [some (.fz (il ws)), some (.fz (.int b)), some (.fz (il row)), some (.fz (.int ((dot row ws).fmod b))), some (.fz (.int a)), some (.fz (.int x))] = .ok (decide ((dot (rep row a x) ws).fmod b = (dot row ws).fmod b)) [some (.fz (il ws)), some (.fz (.int b)), some (.fz (il row)), some (.fz (.int ((dot row ws).fmod b))), some (.fz (.int a)), some (.fz (.int x))] := by
      rw [t_cmp, cmpB, e_call, os_cons, re, bind_ok]
      simp -implicitDefEqProofs only [e_nm, e_int, e_str, e_bl, e_non, e_glb, e_bin, e_neg, e_cmp, t_cmp, chn_if, e_chn, t_chn, e_and, e_or, t_and, t_or, e_not, t_not, e_ite, e_lst, e_tup, e_idx, e_slc, e_call, e_bi, e_rl1, e_rl2, e_isi, e_me, e_mu, t_nm, t_bl, t_idx, t_call, t_bi, t_isi, t_lc, t_bin, ds_nil, ds_cons, os_nil, os_cons, oi_none, oi_some, c_none, c_some, i_op, as_nm, as_mv, x_nil, x_cons, x_set, x_setF, x_setT, x_par, x_sub, x_expr, x_ret, x_if, x_raise, x_pass, x_brk, x_cont, x_tryC, bind_ok, bind_exc, map_ok, map_exc, of_some, bind_ite, map_ite, endR_ite, dflT, asT, asD, frz, ofB, cmpB, takeSlot, moveSlot, slotT, Opd.see, sees, T.view, truthD, cmpD, eqD, scalD, binD, negD, isKd, callF, takeA, putA, startR, endR_rt, endR_nx, endR_exc, backs, evB, evT, evD, evO, List.map_cons, List.map_nil, List.length_cons, List.length_nil, List.cons_append, List.nil_append, List.append_nil, List.set_cons_zero, List.set_cons_succ, List.getElem?_cons_zero, List.getElem?_cons_succ, List.replicate_zero, List.replicate_succ, Option.join_some, Option.join_none, Option.bind_some, Option.bind_none, Option.map_some, Option.map_none, Nat.reduceAdd, Nat.reduceSub, Nat.sub_self, List.any_cons, List.any_nil, Bool.or_false, Bool.false_or, Bool.or_true, Bool.true_or, Bool.and_true, Bool.true_and, Bool.and_false, Bool.false_and, Bool.not_true, Bool.not_false, Bool.false_eq_true, reduceIte, reduceCtorEq, decide_eq_true_eq, Bool.not_eq_true', decide_eq_false_iff_not, sz_eq, Nat.reduceLeDiff, isOl, subFin, muFin, muD, setFin, setMany, parFin, idxD, slcD, bi_len, bi_lenT, bi_abs, bi_int, bi_list, bi_listT, bi_max2, bi_min2, Ss.sets, S.sets, Tg.is, List.mem_cons, List.not_mem_nil, or_false, or_true, false_or, true_or, List.mem_append, List.append_assoc, List.append_eq, rr, eqv_int]
    have cond : (ev2 (lev fs Bx (k - 1)) (.and_ (.cmp .NotEq (.nm 5) (.idx (.nm 2) (.nm 4))) (.cmp .Eq (.call "_law_rest" (.cons (.bin .Add (.bin .Add (.slc (.nm 2) .none (.some (.nm 4))) (.lst (.cons (.nm 5) .nil))) (.slc (.nm 2) (.some (.bin .Add (.nm 4) (.int 1))) .none)) (.cons (.nm 0) (.cons (.nm 1) .nil))) []) (.nm 3)))).2 [some (.fz (il ws)), some (.fz (.int b)), some (.fz (il row)), some (.fz (.int ((dot row ws).fmod b))), some (.fz (.int a)), some (.fz (.int x))] = .ok (!okW ws b row a x) [some (.fz (il ws)), some (.fz (.int b)), some (.fz (il row)), some (.fz (.int ((dot row ws).fmod b))), some (.fz (.int a)), some (.fz (.int x))] := by
      unfold okW
      rw [t_and, c1, bind_ok, Bool.not_not]
      cases (!decide ((x : Int) = row.getD a 0)) with
      | true => rw [if_pos rfl, c2, Bool.true_and]
      | false => rw [if_neg Bool.false_ne_true, Bool.false_and]
    show Scan _ _ _ (exSs (lev fs Bx (k - 1)) (.cons (.ifS (.and_ (.cmp .NotEq (.nm 5) (.idx (.nm 2) (.nm 4))) (.cmp .Eq (.call "_law_rest" (.cons (.bin .Add (.bin .Add (.slc (.nm 2) .none (.some (.nm 4))) (.lst (.cons (.nm 5) .nil))) (.slc (.nm 2) (.some (.bin .Add (.nm 4) (.int 1))) .none)) (.cons (.nm 0) (.cons (.nm 1) .nil))) []) (.nm 3))) (.cons (.ret (.bl false)) .nil) .nil) .nil) [some (.fz (il ws)), some (.fz (.int b)), some (.fz (il row)), some (.fz (.int ((dot row ws).fmod b))), some (.fz (.int a)), some (.fz (.int x))])
    rw [x_cons, x_if, cond, bind_ok]
    cases okW ws b row a x with
    | true => exact .inl ⟨rfl, _, rfl, _, rfl⟩
    | false => exact .inr ⟨rfl, _, rfl⟩
  rcases lp with ⟨e, _, lp, o2, o3, o4, o5, rfl⟩ | ⟨e, ρ, lp⟩
  · rw [e]
    simp -implicitDefEqProofs only [f__law_wrong, e_nm, e_int, e_str, e_bl, e_non, e_glb, e_bin, e_neg, e_cmp, t_cmp, chn_if, e_chn, t_chn, e_and, e_or, t_and, t_or, e_not, t_not, e_ite, e_lst, e_tup, e_idx, e_slc, e_call, e_bi, e_rl1, e_rl2, e_isi, e_me, e_mu, t_nm, t_bl, t_idx, t_call, t_bi, t_isi, t_lc, t_bin, ds_nil, ds_cons, os_nil, os_cons, oi_none, oi_some, c_none, c_some, i_op, as_nm, as_mv, x_nil, x_cons, x_set, x_setF, x_setT, x_par, x_sub, x_expr, x_ret, x_if, x_raise, x_pass, x_brk, x_cont, x_tryC, bind_ok, bind_exc, map_ok, map_exc, of_some, bind_ite, map_ite, endR_ite, dflT, asT, asD, frz, ofB, cmpB, takeSlot, moveSlot, slotT, Opd.see, sees, T.view, truthD, cmpD, eqD, scalD, binD, negD, isKd, callF, takeA, putA, startR, endR_rt, endR_nx, endR_exc, backs, evB, evT, evD, evO, List.map_cons, List.map_nil, List.length_cons, List.length_nil, List.cons_append, List.nil_append, List.append_nil, List.set_cons_zero, List.set_cons_succ, List.getElem?_cons_zero, List.getElem?_cons_succ, List.replicate_zero, List.replicate_succ, Option.join_some, Option.join_none, Option.bind_some, Option.bind_none, Option.map_some, Option.map_none, Nat.reduceAdd, Nat.reduceSub, Nat.sub_self, List.any_cons, List.any_nil, Bool.or_false, Bool.false_or, Bool.or_true, Bool.true_or, Bool.and_true, Bool.true_and, Bool.and_false, Bool.false_and, Bool.not_true, Bool.not_false, Bool.false_eq_true, reduceIte, reduceCtorEq, decide_eq_true_eq, Bool.not_eq_true', decide_eq_false_iff_not, sz_eq, Nat.reduceLeDiff, isOl, subFin, muFin, muD, setFin, setMany, parFin, idxD, slcD, bi_len, bi_lenT, bi_abs, bi_int, bi_list, bi_listT, bi_max2, bi_min2, Ss.sets, S.sets, Tg.is, List.mem_cons, List.not_mem_nil, or_false, or_true, false_or, true_or, List.mem_append, List.append_assoc, List.append_eq, lp]
  · rw [e]
    simp -implicitDefEqProofs only [f__law_wrong, e_nm, e_int, e_str, e_bl, e_non, e_glb, e_bin, e_neg, e_cmp, t_cmp, chn_if, e_chn, t_chn, e_and, e_or, t_and, t_or, e_not, t_not, e_ite, e_lst, e_tup, e_idx, e_slc, e_call, e_bi, e_rl1, e_rl2, e_isi, e_me, e_mu, t_nm, t_bl, t_idx, t_call, t_bi, t_isi, t_lc, t_bin, ds_nil, ds_cons, os_nil, os_cons, oi_none, oi_some, c_none, c_some, i_op, as_nm, as_mv, x_nil, x_cons, x_set, x_setF, x_setT, x_par, x_sub, x_expr, x_ret, x_if, x_raise, x_pass, x_brk, x_cont, x_tryC, bind_ok, bind_exc, map_ok, map_exc, of_some, bind_ite, map_ite, endR_ite, dflT, asT, asD, frz, ofB, cmpB, takeSlot, moveSlot, slotT, Opd.see, sees, T.view, truthD, cmpD, eqD, scalD, binD, negD, isKd, callF, takeA, putA, startR, endR_rt, endR_nx, endR_exc, backs, evB, evT, evD, evO, List.map_cons, List.map_nil, List.length_cons, List.length_nil, List.cons_append, List.nil_append, List.append_nil, List.set_cons_zero, List.set_cons_succ, List.getElem?_cons_zero, List.getElem?_cons_succ, List.replicate_zero, List.replicate_succ, Option.join_some, Option.join_none, Option.bind_some, Option.bind_none, Option.map_some, Option.map_none, Nat.reduceAdd, Nat.reduceSub, Nat.sub_self, List.any_cons, List.any_nil, Bool.or_false, Bool.false_or, Bool.or_true, Bool.true_or, Bool.and_true, Bool.true_and, Bool.and_false, Bool.false_and, Bool.not_true, Bool.not_false, Bool.false_eq_true, reduceIte, reduceCtorEq, decide_eq_true_eq, Bool.not_eq_true', decide_eq_false_iff_not, sz_eq, Nat.reduceLeDiff, isOl, subFin, muFin, muD, setFin, setMany, parFin, idxD, slcD, bi_len, bi_lenT, bi_abs, bi_int, bi_list, bi_listT, bi_max2, bi_min2, Ss.sets, S.sets, Tg.is, List.mem_cons, List.not_mem_nil, or_false, or_true, false_or, true_or, List.mem_append, List.append_assoc, List.append_eq, lp]
theorem s_lexch (h : Rule ws b) (hb : b ≤ 9) (hm : ws.length ≤ 3) (hk : 1 < k) : (lev fs Bx k).call "_law_exchanged" [.fz (il ws), .fz (.int b)] = .ok (.fz (.bool (leB ws b))) [.fz (il ws), .fz (.int b)] := by
  rw [lev_call (F := f__law_exchanged) rfl (by omega), run_fn rfl]
  have tls := s_tallies (B := Bx) (k := k - 1) (b := b) (m := ws.length) hb hm (by omega)
  have tz := tl_le hb hm
  have h1 := h.2.2.1
  have lp : Scan (fun ρ => ∃ o2 o3, ρ = [some (.fz (il ws)), some (.fz (.int b)), o2, o3]) (.fz (.bool false)) (leB ws b) (exS (lev fs Bx (k - 1)) (.for_ (.one 2) (.opd (.call "_law_tallies" (.cons (.bi .len (.cons (.nm 0) .nil)) (.cons (.nm 1) .nil)) [])) (.cons (.for_ (.one 3) (.rng1 (.bin .Sub (.bi .len (.cons (.nm 2) .nil)) (.int 1))) (.cons (.ifS (.and_ (.cmp .NotEq (.idx (.nm 2) (.nm 3)) (.idx (.nm 2) (.bin .Add (.nm 3) (.int 1)))) (.cmp .Eq (.call "_law_rest" (.cons (.call "_law_swapped" (.cons (.nm 2) (.cons (.nm 3) .nil)) []) (.cons (.nm 0) (.cons (.nm 1) .nil))) []) (.call "_law_rest" (.cons (.nm 2) (.cons (.nm 0) (.cons (.nm 1) .nil))) []))) (.cons (.ret (.bl false)) .nil) .nil) .nil)) .nil)) [some (.fz (il ws)), some (.fz (.int b)), none, none]) := by
    refine scan_lm (x := .tmp (.fz (.list (ils (tl b ws.length))))) (k := false) (rs := tl b ws.length) (g := fun r => il r) (ρ1 := [some (.fz (il ws)), some (.fz (.int b)), none, none]) _ (by simp -implicitDefEqProofs only [e_nm, e_int, e_str, e_bl, e_non, e_glb, e_bin, e_neg, e_cmp, t_cmp, chn_if, e_chn, t_chn, e_and, e_or, t_and, t_or, e_not, t_not, e_ite, e_lst, e_tup, e_idx, e_slc, e_call, e_bi, e_rl1, e_rl2, e_isi, e_me, e_mu, t_nm, t_bl, t_idx, t_call, t_bi, t_isi, t_lc, t_bin, ds_nil, ds_cons, os_nil, os_cons, oi_none, oi_some, c_none, c_some, i_op, as_nm, as_mv, x_nil, x_cons, x_set, x_setF, x_setT, x_par, x_sub, x_expr, x_ret, x_if, x_raise, x_pass, x_brk, x_cont, x_tryC, bind_ok, bind_exc, map_ok, map_exc, of_some, bind_ite, map_ite, endR_ite, dflT, asT, asD, frz, ofB, cmpB, takeSlot, moveSlot, slotT, Opd.see, sees, T.view, truthD, cmpD, eqD, scalD, binD, negD, isKd, callF, takeA, putA, startR, endR_rt, endR_nx, endR_exc, backs, evB, evT, evD, evO, List.map_cons, List.map_nil, List.length_cons, List.length_nil, List.cons_append, List.nil_append, List.append_nil, List.set_cons_zero, List.set_cons_succ, List.getElem?_cons_zero, List.getElem?_cons_succ, List.replicate_zero, List.replicate_succ, Option.join_some, Option.join_none, Option.bind_some, Option.bind_none, Option.map_some, Option.map_none, Nat.reduceAdd, Nat.reduceSub, Nat.sub_self, List.any_cons, List.any_nil, Bool.or_false, Bool.false_or, Bool.or_true, Bool.true_or, Bool.and_true, Bool.true_and, Bool.and_false, Bool.false_and, Bool.not_true, Bool.not_false, Bool.false_eq_true, reduceIte, reduceCtorEq, decide_eq_true_eq, Bool.not_eq_true', decide_eq_false_iff_not, sz_eq, Nat.reduceLeDiff, isOl, subFin, muFin, muD, setFin, setMany, parFin, idxD, slcD, bi_len, bi_lenT, bi_abs, bi_int, bi_list, bi_listT, bi_max2, bi_min2, Ss.sets, S.sets, Tg.is, List.mem_cons, List.not_mem_nil, or_false, or_true, false_or, true_or, List.mem_append, List.append_assoc, List.append_eq, tls, List.length_map]) rfl rfl rfl ⟨none, none, rfl⟩ (fun _ _ => rfl) ?_
    rintro row _ hr ⟨o2, o3, rfl⟩
    have tr := tl_row hr
    have tal : Tally row ws b := ⟨h, tr.1, tr.2⟩
    have lr := s_lrestT (B := Bx) (k := k - 1) (t := .fz (il row)) rfl tal (by omega)
    refine scan_last ?_
    have hI : ∀ v r, Scan (fun ρ => ∃ o3, ρ = [some (.fz (il ws)), some (.fz (.int b)), some (.fz (il row)), o3]) (.fz (.bool false)) v r → Scan (fun ρ => ∃ o2 o3, ρ = [some (.fz (il ws)), some (.fz (.int b)), o2, o3]) (.fz (.bool false)) v r := fun v r q => by
      rcases q with ⟨e, ρ, er, o3, rfl⟩ | q
      · exact .inl ⟨e, _, er, _, _, rfl⟩
      · exact .inr q
    refine hI _ _ ?_
    refine scan_r1 (x := .tmp (.fz (.int ((row.length : Int) - 1)))) (n := ws.length - 1) (ρ1 := [some (.fz (il ws)), some (.fz (.int b)), some (.fz (il row)), o3]) _ (by simp -implicitDefEqProofs only [e_nm, e_int, e_str, e_bl, e_non, e_glb, e_bin, e_neg, e_cmp, t_cmp, chn_if, e_chn, t_chn, e_and, e_or, t_and, t_or, e_not, t_not, e_ite, e_lst, e_tup, e_idx, e_slc, e_call, e_bi, e_rl1, e_rl2, e_isi, e_me, e_mu, t_nm, t_bl, t_idx, t_call, t_bi, t_isi, t_lc, t_bin, ds_nil, ds_cons, os_nil, os_cons, oi_none, oi_some, c_none, c_some, i_op, as_nm, as_mv, x_nil, x_cons, x_set, x_setF, x_setT, x_par, x_sub, x_expr, x_ret, x_if, x_raise, x_pass, x_brk, x_cont, x_tryC, bind_ok, bind_exc, map_ok, map_exc, of_some, bind_ite, map_ite, endR_ite, dflT, asT, asD, frz, ofB, cmpB, takeSlot, moveSlot, slotT, Opd.see, sees, T.view, truthD, cmpD, eqD, scalD, binD, negD, isKd, callF, takeA, putA, startR, endR_rt, endR_nx, endR_exc, backs, evB, evT, evD, evO, List.map_cons, List.map_nil, List.length_cons, List.length_nil, List.cons_append, List.nil_append, List.append_nil, List.set_cons_zero, List.set_cons_succ, List.getElem?_cons_zero, List.getElem?_cons_succ, List.replicate_zero, List.replicate_succ, Option.join_some, Option.join_none, Option.bind_some, Option.bind_none, Option.map_some, Option.map_none, Nat.reduceAdd, Nat.reduceSub, Nat.sub_self, List.any_cons, List.any_nil, Bool.or_false, Bool.false_or, Bool.or_true, Bool.true_or, Bool.and_true, Bool.true_and, Bool.and_false, Bool.false_and, Bool.not_true, Bool.not_false, Bool.false_eq_true, reduceIte, reduceCtorEq, decide_eq_true_eq, Bool.not_eq_true', decide_eq_false_iff_not, sz_eq, Nat.reduceLeDiff, isOl, subFin, muFin, muD, setFin, setMany, parFin, idxD, slcD, bi_len, bi_lenT, bi_abs, bi_int, bi_list, bi_listT, bi_max2, bi_min2, Ss.sets, S.sets, Tg.is, List.mem_cons, List.not_mem_nil, or_false, or_true, false_or, true_or, List.mem_append, List.append_assoc, List.append_eq, List.length_map]) (by rw [tr.1]; show some (PyData.int _) = _; rw [show (ws.length : Int) - 1 = ((ws.length - 1 : Nat) : Int) by omega]) (by omega) ⟨_, rfl⟩ ?_
    rintro a _ ha ⟨o3', rfl⟩
    have ha' : a + 1 < row.length := by rw [tr.1]; omega
    have ix := atI_i (ns := row) (i := a) (by omega)
    have ix1 := atI_i (ns := row) (i := a + 1) ha'
    rw [Int.natCast_add, Int.natCast_one] at ix1
    have sw := s_swapped (B := Bx) (k := k - 1) (fg := row) (i := a) ha' (by omega) (by omega)
    have rr := s_lrestT (B := Bx) (k := k - 1) (t := .ol ((swp row a).map PyData.int)) rfl (tally_swp tal ha') (by omega)
    have c1 : (ev2 (lev fs Bx (k - 1)) (.cmp .NotEq (.idx (.nm 2) (.nm 3)) (.idx (.nm 2) (.bin .Add (.nm 3) (.int 1))))).2 [some (.fz (il ws)), some (.fz (.int b)), some (.fz (il row)), some (.fz (.int a))] = .ok (!decide (row.getD a 0 = row.getD (a + 1) 0)) [some (.fz (il ws)), some (.fz (.int b)), some (.fz (il row)), some (.fz (.int a))] := by
      simp -implicitDefEqProofs only [e_nm, e_int, e_str, e_bl, e_non, e_glb, e_bin, e_neg, e_cmp, t_cmp, chn_if, e_chn, t_chn, e_and, e_or, t_and, t_or, e_not, t_not, e_ite, e_lst, e_tup, e_idx, e_slc, e_call, e_bi, e_rl1, e_rl2, e_isi, e_me, e_mu, t_nm, t_bl, t_idx, t_call, t_bi, t_isi, t_lc, t_bin, ds_nil, ds_cons, os_nil, os_cons, oi_none, oi_some, c_none, c_some, i_op, as_nm, as_mv, x_nil, x_cons, x_set, x_setF, x_setT, x_par, x_sub, x_expr, x_ret, x_if, x_raise, x_pass, x_brk, x_cont, x_tryC, bind_ok, bind_exc, map_ok, map_exc, of_some, bind_ite, map_ite, endR_ite, dflT, asT, asD, frz, ofB, cmpB, takeSlot, moveSlot, slotT, Opd.see, sees, T.view, truthD, cmpD, eqD, scalD, binD, negD, isKd, callF, takeA, putA, startR, endR_rt, endR_nx, endR_exc, backs, evB, evT, evD, evO, List.map_cons, List.map_nil, List.length_cons, List.length_nil, List.cons_append, List.nil_append, List.append_nil, List.set_cons_zero, List.set_cons_succ, List.getElem?_cons_zero, List.getElem?_cons_succ, List.replicate_zero, List.replicate_succ, Option.join_some, Option.join_none, Option.bind_some, Option.bind_none, Option.map_some, Option.map_none, Nat.reduceAdd, Nat.reduceSub, Nat.sub_self, List.any_cons, List.any_nil, Bool.or_false, Bool.false_or, Bool.or_true, Bool.true_or, Bool.and_true, Bool.true_and, Bool.and_false, Bool.false_and, Bool.not_true, Bool.not_false, Bool.false_eq_true, reduceIte, reduceCtorEq, decide_eq_true_eq, Bool.not_eq_true', decide_eq_false_iff_not, sz_eq, Nat.reduceLeDiff, isOl, subFin, muFin, muD, setFin, setMany, parFin, idxD, slcD, bi_len, bi_lenT, bi_abs, bi_int, bi_list, bi_listT, bi_max2, bi_min2, Ss.sets, S.sets, Tg.is, List.mem_cons, List.not_mem_nil, or_false, or_true, false_or, true_or, List.mem_append, List.append_assoc, List.append_eq, ix, ix1, eqv_int]
    have c2 : (ev2 (lev fs Bx (k - 1)) (.cmp .Eq (.call "_law_rest" (.cons (.call "_law_swapped" (.cons (.nm 2) (.cons (.nm 3) .nil)) []) (.cons (.nm 0) (.cons (.nm 1) .nil))) []) (.call "_law_rest" (.cons (.nm 2) (.cons (.nm 0) (.cons (.nm 1) .nil))) []))).2 [some (.fz (il ws)), some (.fz (.int b)), some (.fz (il row)), some (.fz (.int a))] = .ok (decide ((dot (swp row a) ws).fmod b = (dot row ws).fmod b)) [some (.fz (il ws)), some (.fz (.int b)), some (.fz (il row)), some (.fz (.int a))] := by
      simp -implicitDefEqProofs only [e_nm, e_int, e_str, e_bl, e_non, e_glb, e_bin, e_neg, e_cmp, t_cmp, chn_if, e_chn, t_chn, e_and, e_or, t_and, t_or, e_not, t_not, e_ite, e_lst, e_tup, e_idx, e_slc, e_call, e_bi, e_rl1, e_rl2, e_isi, e_me, e_mu, t_nm, t_bl, t_idx, t_call, t_bi, t_isi, t_lc, t_bin, ds_nil, ds_cons, os_nil, os_cons, oi_none, oi_some, c_none, c_some, i_op, as_nm, as_mv, x_nil, x_cons, x_set, x_setF, x_setT, x_par, x_sub, x_expr, x_ret, x_if, x_raise, x_pass, x_brk, x_cont, x_tryC, bind_ok, bind_exc, map_ok, map_exc, of_some, bind_ite, map_ite, endR_ite, dflT, asT, asD, frz, ofB, cmpB, takeSlot, moveSlot, slotT, Opd.see, sees, T.view, truthD, cmpD, eqD, scalD, binD, negD, isKd, callF, takeA, putA, startR, endR_rt, endR_nx, endR_exc, backs, evB, evT, evD, evO, List.map_cons, List.map_nil, List.length_cons, List.length_nil, List.cons_append, List.nil_append, List.append_nil, List.set_cons_zero, List.set_cons_succ, List.getElem?_cons_zero, List.getElem?_cons_succ, List.replicate_zero, List.replicate_succ, Option.join_some, Option.join_none, Option.bind_some, Option.bind_none, Option.map_some, Option.map_none, Nat.reduceAdd, Nat.reduceSub, Nat.sub_self, List.any_cons, List.any_nil, Bool.or_false, Bool.false_or, Bool.or_true, Bool.true_or, Bool.and_true, Bool.true_and, Bool.and_false, Bool.false_and, Bool.not_true, Bool.not_false, Bool.false_eq_true, reduceIte, reduceCtorEq, decide_eq_true_eq, Bool.not_eq_true', decide_eq_false_iff_not, sz_eq, Nat.reduceLeDiff, isOl, subFin, muFin, muD, setFin, setMany, parFin, idxD, slcD, bi_len, bi_lenT, bi_abs, bi_int, bi_list, bi_listT, bi_max2, bi_min2, Ss.sets, S.sets, Tg.is, List.mem_cons, List.not_mem_nil, or_false, or_true, false_or, true_or, List.mem_append, List.append_assoc, List.append_eq, sw, rr, lr, eqv_int]
    have cond : (ev2 (lev fs Bx (k - 1)) (.and_ (.cmp .NotEq (.idx (.nm 2) (.nm 3)) (.idx (.nm 2) (.bin .Add (.nm 3) (.int 1)))) (.cmp .Eq (.call "_law_rest" (.cons (.call "_law_swapped" (.cons (.nm 2) (.cons (.nm 3) .nil)) []) (.cons (.nm 0) (.cons (.nm 1) .nil))) []) (.call "_law_rest" (.cons (.nm 2) (.cons (.nm 0) (.cons (.nm 1) .nil))) [])))).2 [some (.fz (il ws)), some (.fz (.int b)), some (.fz (il row)), some (.fz (.int a))] = .ok (!okE ws b row a) [some (.fz (il ws)), some (.fz (.int b)), some (.fz (il row)), some (.fz (.int a))] := by
      unfold okE
      rw [t_and, c1, bind_ok, Bool.not_not]
      cases (!decide (row.getD a 0 = row.getD (a + 1) 0)) with
      | true => rw [if_pos rfl, c2, Bool.true_and]
      | false => rw [if_neg Bool.false_ne_true, Bool.false_and]
    show Scan _ _ _ (exSs (lev fs Bx (k - 1)) (.cons (.ifS (.and_ (.cmp .NotEq (.idx (.nm 2) (.nm 3)) (.idx (.nm 2) (.bin .Add (.nm 3) (.int 1)))) (.cmp .Eq (.call "_law_rest" (.cons (.call "_law_swapped" (.cons (.nm 2) (.cons (.nm 3) .nil)) []) (.cons (.nm 0) (.cons (.nm 1) .nil))) []) (.call "_law_rest" (.cons (.nm 2) (.cons (.nm 0) (.cons (.nm 1) .nil))) []))) (.cons (.ret (.bl false)) .nil) .nil) .nil) [some (.fz (il ws)), some (.fz (.int b)), some (.fz (il row)), some (.fz (.int a))])
    rw [x_cons, x_if, cond, bind_ok]
    cases okE ws b row a with
    | true => exact .inl ⟨rfl, _, rfl, _, rfl⟩
    | false => exact .inr ⟨rfl, _, rfl⟩
  rcases lp with ⟨e, _, lp, o2, o3, rfl⟩ | ⟨e, ρ, lp⟩
  · rw [e]
    simp -implicitDefEqProofs only [f__law_exchanged, e_nm, e_int, e_str, e_bl, e_non, e_glb, e_bin, e_neg, e_cmp, t_cmp, chn_if, e_chn, t_chn, e_and, e_or, t_and, t_or, e_not, t_not, e_ite, e_lst, e_tup, e_idx, e_slc, e_call, e_bi, e_rl1, e_rl2, e_isi, e_me, e_mu, t_nm, t_bl, t_idx, t_call, t_bi, t_isi, t_lc, t_bin, ds_nil, ds_cons, os_nil, os_cons, oi_none, oi_some, c_none, c_some, i_op, as_nm, as_mv, x_nil, x_cons, x_set, x_setF, x_setT, x_par, x_sub, x_expr, x_ret, x_if, x_raise, x_pass, x_brk, x_cont, x_tryC, bind_ok, bind_exc, map_ok, map_exc, of_some, bind_ite, map_ite, endR_ite, dflT, asT, asD, frz, ofB, cmpB, takeSlot, moveSlot, slotT, Opd.see, sees, T.view, truthD, cmpD, eqD, scalD, binD, negD, isKd, callF, takeA, putA, startR, endR_rt, endR_nx, endR_exc, backs, evB, evT, evD, evO, List.map_cons, List.map_nil, List.length_cons, List.length_nil, List.cons_append, List.nil_append, List.append_nil, List.set_cons_zero, List.set_cons_succ, List.getElem?_cons_zero, List.getElem?_cons_succ, List.replicate_zero, List.replicate_succ, Option.join_some, Option.join_none, Option.bind_some, Option.bind_none, Option.map_some, Option.map_none, Nat.reduceAdd, Nat.reduceSub, Nat.sub_self, List.any_cons, List.any_nil, Bool.or_false, Bool.false_or, Bool.or_true, Bool.true_or, Bool.and_true, Bool.true_and, Bool.and_false, Bool.false_and, Bool.not_true, Bool.not_false, Bool.false_eq_true, reduceIte, reduceCtorEq, decide_eq_true_eq, Bool.not_eq_true', decide_eq_false_iff_not, sz_eq, Nat.reduceLeDiff, isOl, subFin, muFin, muD, setFin, setMany, parFin, idxD, slcD, bi_len, bi_lenT, bi_abs, bi_int, bi_list, bi_listT, bi_max2, bi_min2, Ss.sets, S.sets, Tg.is, List.mem_cons, List.not_mem_nil, or_false, or_true, false_or, true_or, List.mem_append, List.append_assoc, List.append_eq, lp]
  · rw [e]
    simp -implicitDefEqProofs only [f__law_exchanged, e_nm, e_int, e_str, e_bl, e_non, e_glb, e_bin, e_neg, e_cmp, t_cmp, chn_if, e_chn, t_chn, e_and, e_or, t_and, t_or, e_not, t_not, e_ite, e_lst, e_tup, e_idx, e_slc, e_call, e_bi, e_rl1, e_rl2, e_isi, e_me, e_mu, t_nm, t_bl, t_idx, t_call, t_bi, t_isi, t_lc, t_bin, ds_nil, ds_cons, os_nil, os_cons, oi_none, oi_some, c_none, c_some, i_op, as_nm, as_mv, x_nil, x_cons, x_set, x_setF, x_setT, x_par, x_sub, x_expr, x_ret, x_if, x_raise, x_pass, x_brk, x_cont, x_tryC, bind_ok, bind_exc, map_ok, map_exc, of_some, bind_ite, map_ite, endR_ite, dflT, asT, asD, frz, ofB, cmpB, takeSlot, moveSlot, slotT, Opd.see, sees, T.view, truthD, cmpD, eqD, scalD, binD, negD, isKd, callF, takeA, putA, startR, endR_rt, endR_nx, endR_exc, backs, evB, evT, evD, evO, List.map_cons, List.map_nil, List.length_cons, List.length_nil, List.cons_append, List.nil_append, List.append_nil, List.set_cons_zero, List.set_cons_succ, List.getElem?_cons_zero, List.getElem?_cons_succ, List.replicate_zero, List.replicate_succ, Option.join_some, Option.join_none, Option.bind_some, Option.bind_none, Option.map_some, Option.map_none, Nat.reduceAdd, Nat.reduceSub, Nat.sub_self, List.any_cons, List.any_nil, Bool.or_false, Bool.false_or, Bool.or_true, Bool.true_or, Bool.and_true, Bool.true_and, Bool.and_false, Bool.false_and, Bool.not_true, Bool.not_false, Bool.false_eq_true, reduceIte, reduceCtorEq, decide_eq_true_eq, Bool.not_eq_true', decide_eq_false_iff_not, sz_eq, Nat.reduceLeDiff, isOl, subFin, muFin, muD, setFin, setMany, parFin, idxD, slcD, bi_len, bi_lenT, bi_abs, bi_int, bi_list, bi_listT, bi_max2, bi_min2, Ss.sets, S.sets, Tg.is, List.mem_cons, List.not_mem_nil, or_false, or_true, false_or, true_or, List.mem_append, List.append_assoc, List.append_eq, lp]
end
end L2.Eng.K58

namespace L2.Eng.K58
open PySem
def alW (ws : List Int) (b : Int) : Bool := alN (fun i => prI (ws.getD i 0) b) ws.length
def bwO (m b : Nat) : Option (List Int) := if m = 1 then some [1] else (List.range (b - 2)).findSome? fun i => if Nat.gcd (2 + i) b = 1 ∧ Nat.gcd (1 + i) b = 1 then some ((List.range m).map fun a => if a % 2 = 0 then 1 else ((2 + i : Nat) : Int)) else none
def toldD : Option (List Int) → D
  | none => .none
  | some l => il l
def goodQ (b : Int) (row : List Int) : Bool := alW row b && alW (steps row) b
theorem best_all : ∀ b ∈ [2, 3, 4, 5, 6, 7, 8, 9], ∀ m ∈ [1, 2, 3], (isNonD (toldD (bwO m b)) == decide (((tl b m).filter (goodQ b)).length = 0)) = true ∧ (isNonD (toldD (bwO m b)) || (inD (toldD (bwO m b)) (.list (ils ((tl b m).filter (goodQ b)))) == some true)) = true := by decide +kernel
end L2.Eng.K58

namespace L2.Eng.K58
open PySem
section
variable {k : Nat} {t : T} {ws : List Int} {b : Int}
/-! ### what is refused -/
theorem r_many {ds : List D} {t2 : T} (hv : t.view = some (.list ds)) (h : 30 < ds.length) (hk : 0 < k) : (lev fs Bx k).call "checked_rule" [t, t2] = .exc ⟨"TooMany", []⟩ [t, t2] := by
  rw [lev_call (F := f_checked_rule) rfl (by omega), run_fn rfl]
  have h' : (30 : Int) < ds.length := by omega
  cases t <;> cases hv <;> cases t2 <;> simp -implicitDefEqProofs only [f_checked_rule, e_nm, e_int, e_str, e_bl, e_non, e_glb, e_bin, e_neg, e_cmp, t_cmp, chn_if, e_chn, t_chn, e_and, e_or, t_and, t_or, e_not, t_not, e_ite, e_lst, e_tup, e_idx, e_slc, e_call, e_bi, e_rl1, e_rl2, e_isi, e_me, e_mu, t_nm, t_bl, t_idx, t_call, t_bi, t_isi, t_lc, t_bin, ds_nil, ds_cons, os_nil, os_cons, oi_none, oi_some, c_none, c_some, i_op, as_nm, as_mv, x_nil, x_cons, x_set, x_setF, x_setT, x_par, x_sub, x_expr, x_ret, x_if, x_raise, x_pass, x_brk, x_cont, x_tryC, bind_ok, bind_exc, map_ok, map_exc, of_some, bind_ite, map_ite, endR_ite, dflT, asT, asD, frz, ofB, cmpB, takeSlot, moveSlot, slotT, Opd.see, sees, T.view, truthD, cmpD, eqD, scalD, binD, negD, isKd, callF, takeA, putA, startR, endR_rt, endR_nx, endR_exc, backs, evB, evT, evD, evO, List.map_cons, List.map_nil, List.length_cons, List.length_nil, List.cons_append, List.nil_append, List.append_nil, List.set_cons_zero, List.set_cons_succ, List.getElem?_cons_zero, List.getElem?_cons_succ, List.replicate_zero, List.replicate_succ, Option.join_some, Option.join_none, Option.bind_some, Option.bind_none, Option.map_some, Option.map_none, Nat.reduceAdd, Nat.reduceSub, Nat.sub_self, List.any_cons, List.any_nil, Bool.or_false, Bool.false_or, Bool.or_true, Bool.true_or, Bool.and_true, Bool.true_and, Bool.and_false, Bool.false_and, Bool.not_true, Bool.not_false, Bool.false_eq_true, reduceIte, reduceCtorEq, decide_eq_true_eq, Bool.not_eq_true', decide_eq_false_iff_not, sz_eq, Nat.reduceLeDiff, isOl, subFin, muFin, muD, setFin, setMany, parFin, idxD, slcD, bi_len, bi_lenT, bi_abs, bi_int, bi_list, bi_listT, bi_max2, bi_min2, Ss.sets, S.sets, Tg.is, List.mem_cons, List.not_mem_nil, or_false, or_true, false_or, true_or, List.mem_append, List.append_assoc, List.append_eq, h', decide_true]
def num2 : D → Bool
  | .int x => decide (2 ≤ x) && decide (x ≤ 100)
  | _ => false
theorem s_num2 {d : D} (hd : Pl d) (hk : 0 < k) : (lev fs Bx k).call "is_number" [.fz d, .fz (.int 2), .fz (.int 100)] = .ok (.fz (.bool (num2 d))) [.fz d, .fz (.int 2), .fz (.int 100)] := by
  rcases hd with ⟨x, rfl⟩ | ⟨c, rfl⟩
  · exact s_is_number x 2 100 hk
  · exact s_is_numberB c 2 100 hk
theorem r_num {ds : List D} {d : D} (hv : t.view = some (.list ds)) (h : ds.length ≤ 30) (hd : Pl d) (hn : num2 d = false) (hk : 1 < k) : (lev fs Bx k).call "checked_rule" [t, .fz d] = .exc ⟨"InvalidNumber", []⟩ [t, .fz d] := by
  rw [lev_call (F := f_checked_rule) rfl (by omega), run_fn rfl]
  have h' : ¬ (30 : Int) < ds.length := by omega
  have nb := s_num2 (k := k - 1) hd (by omega)
  rw [hn] at nb
  cases t <;> cases hv <;> simp -implicitDefEqProofs only [f_checked_rule, e_nm, e_int, e_str, e_bl, e_non, e_glb, e_bin, e_neg, e_cmp, t_cmp, chn_if, e_chn, t_chn, e_and, e_or, t_and, t_or, e_not, t_not, e_ite, e_lst, e_tup, e_idx, e_slc, e_call, e_bi, e_rl1, e_rl2, e_isi, e_me, e_mu, t_nm, t_bl, t_idx, t_call, t_bi, t_isi, t_lc, t_bin, ds_nil, ds_cons, os_nil, os_cons, oi_none, oi_some, c_none, c_some, i_op, as_nm, as_mv, x_nil, x_cons, x_set, x_setF, x_setT, x_par, x_sub, x_expr, x_ret, x_if, x_raise, x_pass, x_brk, x_cont, x_tryC, bind_ok, bind_exc, map_ok, map_exc, of_some, bind_ite, map_ite, endR_ite, dflT, asT, asD, frz, ofB, cmpB, takeSlot, moveSlot, slotT, Opd.see, sees, T.view, truthD, cmpD, eqD, scalD, binD, negD, isKd, callF, takeA, putA, startR, endR_rt, endR_nx, endR_exc, backs, evB, evT, evD, evO, List.map_cons, List.map_nil, List.length_cons, List.length_nil, List.cons_append, List.nil_append, List.append_nil, List.set_cons_zero, List.set_cons_succ, List.getElem?_cons_zero, List.getElem?_cons_succ, List.replicate_zero, List.replicate_succ, Option.join_some, Option.join_none, Option.bind_some, Option.bind_none, Option.map_some, Option.map_none, Nat.reduceAdd, Nat.reduceSub, Nat.sub_self, List.any_cons, List.any_nil, Bool.or_false, Bool.false_or, Bool.or_true, Bool.true_or, Bool.and_true, Bool.true_and, Bool.and_false, Bool.false_and, Bool.not_true, Bool.not_false, Bool.false_eq_true, reduceIte, reduceCtorEq, decide_eq_true_eq, Bool.not_eq_true', decide_eq_false_iff_not, sz_eq, Nat.reduceLeDiff, isOl, subFin, muFin, muD, setFin, setMany, parFin, idxD, slcD, bi_len, bi_lenT, bi_abs, bi_int, bi_list, bi_listT, bi_max2, bi_min2, Ss.sets, S.sets, Tg.is, List.mem_cons, List.not_mem_nil, or_false, or_true, false_or, true_or, List.mem_append, List.append_assoc, List.append_eq, h', decide_false, nb]
theorem r_paper {ds : List D} (hv : t.view = some (.list ds)) (h : ds.length ≤ 30) (hb : 2 ≤ b ∧ b ≤ 100) (hp : ∀ d ∈ ds, Pl d) (hn : ds = [] ∨ ds.filter (fun d => !numD b d) ≠ []) (hk : 1 < k) : (lev fs Bx k).call "checked_rule" [t, .fz (.int b)] = .exc ⟨"InvalidPaper", []⟩ [t, .fz (.int b)] := by
  rw [lev_call (F := f_checked_rule) rfl (by omega), run_fn rfl]
  have h' : ¬ (30 : Int) < ds.length := by omega
  have nb := s_is_number (B := Bx) (k := k - 1) b 2 100 (by omega)
  rw [decide_eq_true hb.1, decide_eq_true hb.2] at nb
  have lc : ∀ t : T, t.view = some (.list ds) → (ev2 (lev fs Bx (k - 1)) (.lc (.one 2) [2] (.opd (.nm 0)) (.some (.not_ (.call "is_number" (.cons (.nm 2) (.cons (.int 0) (.cons (.bin .Sub (.nm 1) (.int 1)) .nil))) []))) (.nm 2))).1 [some t, some (.fz (.int b)), none] = .ok (.tmp (.ol ((ds.filter fun d => !numD b d).map id))) [some t, some (.fz (.int b)), none] := fun t hv => by
    refine lc_list (x := .sl 0) (d := .list ds) (k := false) (xs := ds) (fun d => !numD b d) id rfl hv rfl (fun z => by cases z) (Nat.lt_succ_self 2) (by omega) (fun d hd' => ?_) (fun d hd' hp => ?_)
    · have e := s_num (B := Bx) (k := k - 1) (b := b) (hp d hd') (by omega)
      simp -implicitDefEqProofs only [e_nm, e_int, e_str, e_bl, e_non, e_glb, e_bin, e_neg, e_cmp, t_cmp, chn_if, e_chn, t_chn, e_and, e_or, t_and, t_or, e_not, t_not, e_ite, e_lst, e_tup, e_idx, e_slc, e_call, e_bi, e_rl1, e_rl2, e_isi, e_me, e_mu, t_nm, t_bl, t_idx, t_call, t_bi, t_isi, t_lc, t_bin, ds_nil, ds_cons, os_nil, os_cons, oi_none, oi_some, c_none, c_some, i_op, as_nm, as_mv, x_nil, x_cons, x_set, x_setF, x_setT, x_par, x_sub, x_expr, x_ret, x_if, x_raise, x_pass, x_brk, x_cont, x_tryC, bind_ok, bind_exc, map_ok, map_exc, of_some, bind_ite, map_ite, endR_ite, dflT, asT, asD, frz, ofB, cmpB, takeSlot, moveSlot, slotT, Opd.see, sees, T.view, truthD, cmpD, eqD, scalD, binD, negD, isKd, callF, takeA, putA, startR, endR_rt, endR_nx, endR_exc, backs, evB, evT, evD, evO, List.map_cons, List.map_nil, List.length_cons, List.length_nil, List.cons_append, List.nil_append, List.append_nil, List.set_cons_zero, List.set_cons_succ, List.getElem?_cons_zero, List.getElem?_cons_succ, List.replicate_zero, List.replicate_succ, Option.join_some, Option.join_none, Option.bind_some, Option.bind_none, Option.map_some, Option.map_none, Nat.reduceAdd, Nat.reduceSub, Nat.sub_self, List.any_cons, List.any_nil, Bool.or_false, Bool.false_or, Bool.or_true, Bool.true_or, Bool.and_true, Bool.true_and, Bool.and_false, Bool.false_and, Bool.not_true, Bool.not_false, Bool.false_eq_true, reduceIte, reduceCtorEq, decide_eq_true_eq, Bool.not_eq_true', decide_eq_false_iff_not, sz_eq, Nat.reduceLeDiff, isOl, subFin, muFin, muD, setFin, setMany, parFin, idxD, slcD, bi_len, bi_lenT, bi_abs, bi_int, bi_list, bi_listT, bi_max2, bi_min2, Ss.sets, S.sets, Tg.is, List.mem_cons, List.not_mem_nil, or_false, or_true, false_or, true_or, List.mem_append, List.append_assoc, List.append_eq, e]
    · simp -implicitDefEqProofs only [e_nm, e_int, e_str, e_bl, e_non, e_glb, e_bin, e_neg, e_cmp, t_cmp, chn_if, e_chn, t_chn, e_and, e_or, t_and, t_or, e_not, t_not, e_ite, e_lst, e_tup, e_idx, e_slc, e_call, e_bi, e_rl1, e_rl2, e_isi, e_me, e_mu, t_nm, t_bl, t_idx, t_call, t_bi, t_isi, t_lc, t_bin, ds_nil, ds_cons, os_nil, os_cons, oi_none, oi_some, c_none, c_some, i_op, as_nm, as_mv, x_nil, x_cons, x_set, x_setF, x_setT, x_par, x_sub, x_expr, x_ret, x_if, x_raise, x_pass, x_brk, x_cont, x_tryC, bind_ok, bind_exc, map_ok, map_exc, of_some, bind_ite, map_ite, endR_ite, dflT, asT, asD, frz, ofB, cmpB, takeSlot, moveSlot, slotT, Opd.see, sees, T.view, truthD, cmpD, eqD, scalD, binD, negD, isKd, callF, takeA, putA, startR, endR_rt, endR_nx, endR_exc, backs, evB, evT, evD, evO, List.map_cons, List.map_nil, List.length_cons, List.length_nil, List.cons_append, List.nil_append, List.append_nil, List.set_cons_zero, List.set_cons_succ, List.getElem?_cons_zero, List.getElem?_cons_succ, List.replicate_zero, List.replicate_succ, Option.join_some, Option.join_none, Option.bind_some, Option.bind_none, Option.map_some, Option.map_none, Nat.reduceAdd, Nat.reduceSub, Nat.sub_self, List.any_cons, List.any_nil, Bool.or_false, Bool.false_or, Bool.or_true, Bool.true_or, Bool.and_true, Bool.true_and, Bool.and_false, Bool.false_and, Bool.not_true, Bool.not_false, Bool.false_eq_true, reduceIte, reduceCtorEq, decide_eq_true_eq, Bool.not_eq_true', decide_eq_false_iff_not, sz_eq, Nat.reduceLeDiff, isOl, subFin, muFin, muD, setFin, setMany, parFin, idxD, slcD, bi_len, bi_lenT, bi_abs, bi_int, bi_list, bi_listT, bi_max2, bi_min2, Ss.sets, S.sets, Tg.is, List.mem_cons, List.not_mem_nil, or_false, or_true, false_or, true_or, List.mem_append, List.append_assoc, List.append_eq, id]
  have lc := lc t hv
  cases ds with
  | nil => cases t <;> cases hv <;> simp -implicitDefEqProofs only [f_checked_rule, e_nm, e_int, e_str, e_bl, e_non, e_glb, e_bin, e_neg, e_cmp, t_cmp, chn_if, e_chn, t_chn, e_and, e_or, t_and, t_or, e_not, t_not, e_ite, e_lst, e_tup, e_idx, e_slc, e_call, e_bi, e_rl1, e_rl2, e_isi, e_me, e_mu, t_nm, t_bl, t_idx, t_call, t_bi, t_isi, t_lc, t_bin, ds_nil, ds_cons, os_nil, os_cons, oi_none, oi_some, c_none, c_some, i_op, as_nm, as_mv, x_nil, x_cons, x_set, x_setF, x_setT, x_par, x_sub, x_expr, x_ret, x_if, x_raise, x_pass, x_brk, x_cont, x_tryC, bind_ok, bind_exc, map_ok, map_exc, of_some, bind_ite, map_ite, endR_ite, dflT, asT, asD, frz, ofB, cmpB, takeSlot, moveSlot, slotT, Opd.see, sees, T.view, truthD, cmpD, eqD, scalD, binD, negD, isKd, callF, takeA, putA, startR, endR_rt, endR_nx, endR_exc, backs, evB, evT, evD, evO, List.map_cons, List.map_nil, List.length_cons, List.length_nil, List.cons_append, List.nil_append, List.append_nil, List.set_cons_zero, List.set_cons_succ, List.getElem?_cons_zero, List.getElem?_cons_succ, List.replicate_zero, List.replicate_succ, Option.join_some, Option.join_none, Option.bind_some, Option.bind_none, Option.map_some, Option.map_none, Nat.reduceAdd, Nat.reduceSub, Nat.sub_self, List.any_cons, List.any_nil, Bool.or_false, Bool.false_or, Bool.or_true, Bool.true_or, Bool.and_true, Bool.true_and, Bool.and_false, Bool.false_and, Bool.not_true, Bool.not_false, Bool.false_eq_true, reduceIte, reduceCtorEq, decide_eq_true_eq, Bool.not_eq_true', decide_eq_false_iff_not, sz_eq, Nat.reduceLeDiff, isOl, subFin, muFin, muD, setFin, setMany, parFin, idxD, slcD, bi_len, bi_lenT, bi_abs, bi_int, bi_list, bi_listT, bi_max2, bi_min2, Ss.sets, S.sets, Tg.is, List.mem_cons, List.not_mem_nil, or_false, or_true, false_or, true_or, List.mem_append, List.append_assoc, List.append_eq, h', decide_false, nb, List.isEmpty_nil, Int.natCast_zero, Int.reduceLT]
  | cons y ys =>
    obtain ⟨z, zs, ez⟩ := List.exists_cons_of_ne_nil (hn.resolve_left (fun q => by cases q))
    rw [ez] at lc
    cases t <;> cases hv <;> simp -implicitDefEqProofs only [List.length_cons] at h' <;> simp -implicitDefEqProofs only [f_checked_rule, e_nm, e_int, e_str, e_bl, e_non, e_glb, e_bin, e_neg, e_cmp, t_cmp, chn_if, e_chn, t_chn, e_and, e_or, t_and, t_or, e_not, t_not, e_ite, e_lst, e_tup, e_idx, e_slc, e_call, e_bi, e_rl1, e_rl2, e_isi, e_me, e_mu, t_nm, t_bl, t_idx, t_call, t_bi, t_isi, t_lc, t_bin, ds_nil, ds_cons, os_nil, os_cons, oi_none, oi_some, c_none, c_some, i_op, as_nm, as_mv, x_nil, x_cons, x_set, x_setF, x_setT, x_par, x_sub, x_expr, x_ret, x_if, x_raise, x_pass, x_brk, x_cont, x_tryC, bind_ok, bind_exc, map_ok, map_exc, of_some, bind_ite, map_ite, endR_ite, dflT, asT, asD, frz, ofB, cmpB, takeSlot, moveSlot, slotT, Opd.see, sees, T.view, truthD, cmpD, eqD, scalD, binD, negD, isKd, callF, takeA, putA, startR, endR_rt, endR_nx, endR_exc, backs, evB, evT, evD, evO, List.map_cons, List.map_nil, List.length_cons, List.length_nil, List.cons_append, List.nil_append, List.append_nil, List.set_cons_zero, List.set_cons_succ, List.getElem?_cons_zero, List.getElem?_cons_succ, List.replicate_zero, List.replicate_succ, Option.join_some, Option.join_none, Option.bind_some, Option.bind_none, Option.map_some, Option.map_none, Nat.reduceAdd, Nat.reduceSub, Nat.sub_self, List.any_cons, List.any_nil, Bool.or_false, Bool.false_or, Bool.or_true, Bool.true_or, Bool.and_true, Bool.true_and, Bool.and_false, Bool.false_and, Bool.not_true, Bool.not_false, Bool.false_eq_true, reduceIte, reduceCtorEq, decide_eq_true_eq, Bool.not_eq_true', decide_eq_false_iff_not, sz_eq, Nat.reduceLeDiff, isOl, subFin, muFin, muD, setFin, setMany, parFin, idxD, slcD, bi_len, bi_lenT, bi_abs, bi_int, bi_list, bi_listT, bi_max2, bi_min2, Ss.sets, S.sets, Tg.is, List.mem_cons, List.not_mem_nil, or_false, or_true, false_or, true_or, List.mem_append, List.append_assoc, List.append_eq, h', decide_false, nb, lc, List.isEmpty_cons]
theorem sub_p : Bx.sub "InvalidPaper" "HeraldError" = some true := by decide
theorem sub_n : Bx.sub "InvalidNumber" "HeraldError" = some true := by decide
theorem sub_m : Bx.sub "TooMany" "HeraldError" = some true := by decide
theorem hot_p : hot "_law_refusal" "InvalidPaper" = some (.str "paper") := rfl
theorem hot_n : hot "_law_refusal" "InvalidNumber" = some (.str "number") := rfl
theorem hot_m : hot "_law_refusal" "TooMany" = some (.str "many") := rfl
theorem q_paper {ds : List D} (h : ds.length ≤ 30) (hb : 2 ≤ b ∧ b ≤ 100) (hp : ∀ d ∈ ds, Pl d) (hn : ds = [] ∨ ds.filter (fun d => !numD b d) ≠ []) (hk : 2 < k) : (lev fs Bx k).call "_law_refused" [.fz (.int 0), .ol ds, .fz (.int b)] = .ok (.fz (.str "paper")) [.fz (.int 0), .ol ds, .fz (.int b)] := by
  rw [lev_call (F := f__law_refused) rfl (by omega), run_fn rfl]
  have e0 := r_paper (k := k - 1) (t := .ol ds) rfl h hb hp hn (by omega)
  have cx := fun ρ => catch_exc (Φ := lev fs Bx (k - 1)) (ρ := ρ) (h := "HeraldError") (f := "_law_refusal") (c := "InvalidPaper") (i := 3) (d := .str "paper") (by rw [lev_sub]; exact sub_p) (by rw [lev_hot (by omega)]; exact hot_p)
  simp -implicitDefEqProofs only [f__law_refused, e_nm, e_int, e_str, e_bl, e_non, e_glb, e_bin, e_neg, e_cmp, t_cmp, chn_if, e_chn, t_chn, e_and, e_or, t_and, t_or, e_not, t_not, e_ite, e_lst, e_tup, e_idx, e_slc, e_call, e_bi, e_rl1, e_rl2, e_isi, e_me, e_mu, t_nm, t_bl, t_idx, t_call, t_bi, t_isi, t_lc, t_bin, ds_nil, ds_cons, os_nil, os_cons, oi_none, oi_some, c_none, c_some, i_op, as_nm, as_mv, x_nil, x_cons, x_set, x_setF, x_setT, x_par, x_sub, x_expr, x_ret, x_if, x_raise, x_pass, x_brk, x_cont, x_tryC, bind_ok, bind_exc, map_ok, map_exc, of_some, bind_ite, map_ite, endR_ite, dflT, asT, asD, frz, ofB, cmpB, takeSlot, moveSlot, slotT, Opd.see, sees, T.view, truthD, cmpD, eqD, scalD, binD, negD, isKd, callF, takeA, putA, startR, endR_rt, endR_nx, endR_exc, backs, evB, evT, evD, evO, List.map_cons, List.map_nil, List.length_cons, List.length_nil, List.cons_append, List.nil_append, List.append_nil, List.set_cons_zero, List.set_cons_succ, List.getElem?_cons_zero, List.getElem?_cons_succ, List.replicate_zero, List.replicate_succ, Option.join_some, Option.join_none, Option.bind_some, Option.bind_none, Option.map_some, Option.map_none, Nat.reduceAdd, Nat.reduceSub, Nat.sub_self, List.any_cons, List.any_nil, Bool.or_false, Bool.false_or, Bool.or_true, Bool.true_or, Bool.and_true, Bool.true_and, Bool.and_false, Bool.false_and, Bool.not_true, Bool.not_false, Bool.false_eq_true, reduceIte, reduceCtorEq, decide_eq_true_eq, Bool.not_eq_true', decide_eq_false_iff_not, sz_eq, Nat.reduceLeDiff, isOl, subFin, muFin, muD, setFin, setMany, parFin, idxD, slcD, bi_len, bi_lenT, bi_abs, bi_int, bi_list, bi_listT, bi_max2, bi_min2, Ss.sets, S.sets, Tg.is, List.mem_cons, List.not_mem_nil, or_false, or_true, false_or, true_or, List.mem_append, List.append_assoc, List.append_eq, eqv_int, decide_true, e0, cx, Nat.reduceEqDiff]
theorem q_num {ds : List D} {d : D} (h : ds.length ≤ 30) (hd : Pl d) (hn : num2 d = false) (hk : 2 < k) : (lev fs Bx k).call "_law_refused" [.fz (.int 0), .ol ds, .fz d] = .ok (.fz (.str "number")) [.fz (.int 0), .ol ds, .fz d] := by
  rw [lev_call (F := f__law_refused) rfl (by omega), run_fn rfl]
  have e0 := r_num (k := k - 1) (t := .ol ds) rfl h hd hn (by omega)
  have cx := fun ρ => catch_exc (Φ := lev fs Bx (k - 1)) (ρ := ρ) (h := "HeraldError") (f := "_law_refusal") (c := "InvalidNumber") (i := 3) (d := .str "number") (by rw [lev_sub]; exact sub_n) (by rw [lev_hot (by omega)]; exact hot_n)
  simp -implicitDefEqProofs only [f__law_refused, e_nm, e_int, e_str, e_bl, e_non, e_glb, e_bin, e_neg, e_cmp, t_cmp, chn_if, e_chn, t_chn, e_and, e_or, t_and, t_or, e_not, t_not, e_ite, e_lst, e_tup, e_idx, e_slc, e_call, e_bi, e_rl1, e_rl2, e_isi, e_me, e_mu, t_nm, t_bl, t_idx, t_call, t_bi, t_isi, t_lc, t_bin, ds_nil, ds_cons, os_nil, os_cons, oi_none, oi_some, c_none, c_some, i_op, as_nm, as_mv, x_nil, x_cons, x_set, x_setF, x_setT, x_par, x_sub, x_expr, x_ret, x_if, x_raise, x_pass, x_brk, x_cont, x_tryC, bind_ok, bind_exc, map_ok, map_exc, of_some, bind_ite, map_ite, endR_ite, dflT, asT, asD, frz, ofB, cmpB, takeSlot, moveSlot, slotT, Opd.see, sees, T.view, truthD, cmpD, eqD, scalD, binD, negD, isKd, callF, takeA, putA, startR, endR_rt, endR_nx, endR_exc, backs, evB, evT, evD, evO, List.map_cons, List.map_nil, List.length_cons, List.length_nil, List.cons_append, List.nil_append, List.append_nil, List.set_cons_zero, List.set_cons_succ, List.getElem?_cons_zero, List.getElem?_cons_succ, List.replicate_zero, List.replicate_succ, Option.join_some, Option.join_none, Option.bind_some, Option.bind_none, Option.map_some, Option.map_none, Nat.reduceAdd, Nat.reduceSub, Nat.sub_self, List.any_cons, List.any_nil, Bool.or_false, Bool.false_or, Bool.or_true, Bool.true_or, Bool.and_true, Bool.true_and, Bool.and_false, Bool.false_and, Bool.not_true, Bool.not_false, Bool.false_eq_true, reduceIte, reduceCtorEq, decide_eq_true_eq, Bool.not_eq_true', decide_eq_false_iff_not, sz_eq, Nat.reduceLeDiff, isOl, subFin, muFin, muD, setFin, setMany, parFin, idxD, slcD, bi_len, bi_lenT, bi_abs, bi_int, bi_list, bi_listT, bi_max2, bi_min2, Ss.sets, S.sets, Tg.is, List.mem_cons, List.not_mem_nil, or_false, or_true, false_or, true_or, List.mem_append, List.append_assoc, List.append_eq, eqv_int, decide_true, e0, cx, Nat.reduceEqDiff]
theorem q_many {ds : List D} {d : D} (h : 30 < ds.length) (hk : 2 < k) : (lev fs Bx k).call "_law_refused" [.fz (.int 0), .ol ds, .fz d] = .ok (.fz (.str "many")) [.fz (.int 0), .ol ds, .fz d] := by
  rw [lev_call (F := f__law_refused) rfl (by omega), run_fn rfl]
  have e0 := r_many (k := k - 1) (t := .ol ds) (t2 := .fz d) rfl h (by omega)
  have cx := fun ρ => catch_exc (Φ := lev fs Bx (k - 1)) (ρ := ρ) (h := "HeraldError") (f := "_law_refusal") (c := "TooMany") (i := 3) (d := .str "many") (by rw [lev_sub]; exact sub_m) (by rw [lev_hot (by omega)]; exact hot_m)
  simp -implicitDefEqProofs only [f__law_refused, e_nm, e_int, e_str, e_bl, e_non, e_glb, e_bin, e_neg, e_cmp, t_cmp, chn_if, e_chn, t_chn, e_and, e_or, t_and, t_or, e_not, t_not, e_ite, e_lst, e_tup, e_idx, e_slc, e_call, e_bi, e_rl1, e_rl2, e_isi, e_me, e_mu, t_nm, t_bl, t_idx, t_call, t_bi, t_isi, t_lc, t_bin, ds_nil, ds_cons, os_nil, os_cons, oi_none, oi_some, c_none, c_some, i_op, as_nm, as_mv, x_nil, x_cons, x_set, x_setF, x_setT, x_par, x_sub, x_expr, x_ret, x_if, x_raise, x_pass, x_brk, x_cont, x_tryC, bind_ok, bind_exc, map_ok, map_exc, of_some, bind_ite, map_ite, endR_ite, dflT, asT, asD, frz, ofB, cmpB, takeSlot, moveSlot, slotT, Opd.see, sees, T.view, truthD, cmpD, eqD, scalD, binD, negD, isKd, callF, takeA, putA, startR, endR_rt, endR_nx, endR_exc, backs, evB, evT, evD, evO, List.map_cons, List.map_nil, List.length_cons, List.length_nil, List.cons_append, List.nil_append, List.append_nil, List.set_cons_zero, List.set_cons_succ, List.getElem?_cons_zero, List.getElem?_cons_succ, List.replicate_zero, List.replicate_succ, Option.join_some, Option.join_none, Option.bind_some, Option.bind_none, Option.map_some, Option.map_none, Nat.reduceAdd, Nat.reduceSub, Nat.sub_self, List.any_cons, List.any_nil, Bool.or_false, Bool.false_or, Bool.or_true, Bool.true_or, Bool.and_true, Bool.true_and, Bool.and_false, Bool.false_and, Bool.not_true, Bool.not_false, Bool.false_eq_true, reduceIte, reduceCtorEq, decide_eq_true_eq, Bool.not_eq_true', decide_eq_false_iff_not, sz_eq, Nat.reduceLeDiff, isOl, subFin, muFin, muD, setFin, setMany, parFin, idxD, slcD, bi_len, bi_lenT, bi_abs, bi_int, bi_list, bi_listT, bi_max2, bi_min2, Ss.sets, S.sets, Tg.is, List.mem_cons, List.not_mem_nil, or_false, or_true, false_or, true_or, List.mem_append, List.append_assoc, List.append_eq, eqv_int, decide_true, e0, cx, Nat.reduceEqDiff]
def num1 : D → Bool
  | .int x => decide (1 ≤ x) && decide (x ≤ 30)
  | _ => false
theorem s_num1 {d : D} (hd : Pl d) (hk : 0 < k) : (lev fs Bx k).call "is_number" [.fz d, .fz (.int 1), .fz (.int 30)] = .ok (.fz (.bool (num1 d))) [.fz d, .fz (.int 1), .fz (.int 30)] := by
  rcases hd with ⟨x, rfl⟩ | ⟨c, rfl⟩
  · exact s_is_number x 1 30 hk
  · exact s_is_numberB c 1 30 hk
theorem r_best {d1 d2 : D} (h1 : Pl d1) (h2 : Pl d2) (hn : num1 d1 = false ∨ num2 d2 = false) (hk : 1 < k) : (lev fs Bx k).call "best_weights" [.fz d1, .fz d2] = .exc ⟨"InvalidNumber", []⟩ [.fz d1, .fz d2] := by
  rw [lev_call (F := f_best_weights) rfl (by omega), run_fn rfl]
  have n1 := s_num1 (k := k - 1) h1 (by omega)
  have n2 := s_num2 (k := k - 1) h2 (by omega)
  cases hq : num1 d1 with
  | false =>
    rw [hq] at n1
    simp -implicitDefEqProofs only [f_best_weights, e_nm, e_int, e_str, e_bl, e_non, e_glb, e_bin, e_neg, e_cmp, t_cmp, chn_if, e_chn, t_chn, e_and, e_or, t_and, t_or, e_not, t_not, e_ite, e_lst, e_tup, e_idx, e_slc, e_call, e_bi, e_rl1, e_rl2, e_isi, e_me, e_mu, t_nm, t_bl, t_idx, t_call, t_bi, t_isi, t_lc, t_bin, ds_nil, ds_cons, os_nil, os_cons, oi_none, oi_some, c_none, c_some, i_op, as_nm, as_mv, x_nil, x_cons, x_set, x_setF, x_setT, x_par, x_sub, x_expr, x_ret, x_if, x_raise, x_pass, x_brk, x_cont, x_tryC, bind_ok, bind_exc, map_ok, map_exc, of_some, bind_ite, map_ite, endR_ite, dflT, asT, asD, frz, ofB, cmpB, takeSlot, moveSlot, slotT, Opd.see, sees, T.view, truthD, cmpD, eqD, scalD, binD, negD, isKd, callF, takeA, putA, startR, endR_rt, endR_nx, endR_exc, backs, evB, evT, evD, evO, List.map_cons, List.map_nil, List.length_cons, List.length_nil, List.cons_append, List.nil_append, List.append_nil, List.set_cons_zero, List.set_cons_succ, List.getElem?_cons_zero, List.getElem?_cons_succ, List.replicate_zero, List.replicate_succ, Option.join_some, Option.join_none, Option.bind_some, Option.bind_none, Option.map_some, Option.map_none, Nat.reduceAdd, Nat.reduceSub, Nat.sub_self, List.any_cons, List.any_nil, Bool.or_false, Bool.false_or, Bool.or_true, Bool.true_or, Bool.and_true, Bool.true_and, Bool.and_false, Bool.false_and, Bool.not_true, Bool.not_false, Bool.false_eq_true, reduceIte, reduceCtorEq, decide_eq_true_eq, Bool.not_eq_true', decide_eq_false_iff_not, sz_eq, Nat.reduceLeDiff, isOl, subFin, muFin, muD, setFin, setMany, parFin, idxD, slcD, bi_len, bi_lenT, bi_abs, bi_int, bi_list, bi_listT, bi_max2, bi_min2, Ss.sets, S.sets, Tg.is, List.mem_cons, List.not_mem_nil, or_false, or_true, false_or, true_or, List.mem_append, List.append_assoc, List.append_eq, n1]
  | true =>
    rw [hq] at n1 hn
    rw [hn.resolve_left (fun z => by cases z)] at n2
    simp -implicitDefEqProofs only [f_best_weights, e_nm, e_int, e_str, e_bl, e_non, e_glb, e_bin, e_neg, e_cmp, t_cmp, chn_if, e_chn, t_chn, e_and, e_or, t_and, t_or, e_not, t_not, e_ite, e_lst, e_tup, e_idx, e_slc, e_call, e_bi, e_rl1, e_rl2, e_isi, e_me, e_mu, t_nm, t_bl, t_idx, t_call, t_bi, t_isi, t_lc, t_bin, ds_nil, ds_cons, os_nil, os_cons, oi_none, oi_some, c_none, c_some, i_op, as_nm, as_mv, x_nil, x_cons, x_set, x_setF, x_setT, x_par, x_sub, x_expr, x_ret, x_if, x_raise, x_pass, x_brk, x_cont, x_tryC, bind_ok, bind_exc, map_ok, map_exc, of_some, bind_ite, map_ite, endR_ite, dflT, asT, asD, frz, ofB, cmpB, takeSlot, moveSlot, slotT, Opd.see, sees, T.view, truthD, cmpD, eqD, scalD, binD, negD, isKd, callF, takeA, putA, startR, endR_rt, endR_nx, endR_exc, backs, evB, evT, evD, evO, List.map_cons, List.map_nil, List.length_cons, List.length_nil, List.cons_append, List.nil_append, List.append_nil, List.set_cons_zero, List.set_cons_succ, List.getElem?_cons_zero, List.getElem?_cons_succ, List.replicate_zero, List.replicate_succ, Option.join_some, Option.join_none, Option.bind_some, Option.bind_none, Option.map_some, Option.map_none, Nat.reduceAdd, Nat.reduceSub, Nat.sub_self, List.any_cons, List.any_nil, Bool.or_false, Bool.false_or, Bool.or_true, Bool.true_or, Bool.and_true, Bool.true_and, Bool.and_false, Bool.false_and, Bool.not_true, Bool.not_false, Bool.false_eq_true, reduceIte, reduceCtorEq, decide_eq_true_eq, Bool.not_eq_true', decide_eq_false_iff_not, sz_eq, Nat.reduceLeDiff, isOl, subFin, muFin, muD, setFin, setMany, parFin, idxD, slcD, bi_len, bi_lenT, bi_abs, bi_int, bi_list, bi_listT, bi_max2, bi_min2, Ss.sets, S.sets, Tg.is, List.mem_cons, List.not_mem_nil, or_false, or_true, false_or, true_or, List.mem_append, List.append_assoc, List.append_eq, n1, n2]
theorem q_best {d1 d2 : D} (h1 : Pl d1) (h2 : Pl d2) (hn : num1 d1 = false ∨ num2 d2 = false) (hk : 2 < k) : (lev fs Bx k).call "_law_refused" [.fz (.int 1), .fz d1, .fz d2] = .ok (.fz (.str "number")) [.fz (.int 1), .fz d1, .fz d2] := by
  rw [lev_call (F := f__law_refused) rfl (by omega), run_fn rfl]
  have e0 := r_best (k := k - 1) h1 h2 hn (by omega)
  have cx := fun ρ => catch_exc (Φ := lev fs Bx (k - 1)) (ρ := ρ) (h := "HeraldError") (f := "_law_refusal") (c := "InvalidNumber") (i := 3) (d := .str "number") (by rw [lev_sub]; exact sub_n) (by rw [lev_hot (by omega)]; exact hot_n)
  simp -implicitDefEqProofs only [f__law_refused, e_nm, e_int, e_str, e_bl, e_non, e_glb, e_bin, e_neg, e_cmp, t_cmp, chn_if, e_chn, t_chn, e_and, e_or, t_and, t_or, e_not, t_not, e_ite, e_lst, e_tup, e_idx, e_slc, e_call, e_bi, e_rl1, e_rl2, e_isi, e_me, e_mu, t_nm, t_bl, t_idx, t_call, t_bi, t_isi, t_lc, t_bin, ds_nil, ds_cons, os_nil, os_cons, oi_none, oi_some, c_none, c_some, i_op, as_nm, as_mv, x_nil, x_cons, x_set, x_setF, x_setT, x_par, x_sub, x_expr, x_ret, x_if, x_raise, x_pass, x_brk, x_cont, x_tryC, bind_ok, bind_exc, map_ok, map_exc, of_some, bind_ite, map_ite, endR_ite, dflT, asT, asD, frz, ofB, cmpB, takeSlot, moveSlot, slotT, Opd.see, sees, T.view, truthD, cmpD, eqD, scalD, binD, negD, isKd, callF, takeA, putA, startR, endR_rt, endR_nx, endR_exc, backs, evB, evT, evD, evO, List.map_cons, List.map_nil, List.length_cons, List.length_nil, List.cons_append, List.nil_append, List.append_nil, List.set_cons_zero, List.set_cons_succ, List.getElem?_cons_zero, List.getElem?_cons_succ, List.replicate_zero, List.replicate_succ, Option.join_some, Option.join_none, Option.bind_some, Option.bind_none, Option.map_some, Option.map_none, Nat.reduceAdd, Nat.reduceSub, Nat.sub_self, List.any_cons, List.any_nil, Bool.or_false, Bool.false_or, Bool.or_true, Bool.true_or, Bool.and_true, Bool.true_and, Bool.and_false, Bool.false_and, Bool.not_true, Bool.not_false, Bool.false_eq_true, reduceIte, reduceCtorEq, decide_eq_true_eq, Bool.not_eq_true', decide_eq_false_iff_not, sz_eq, Nat.reduceLeDiff, isOl, subFin, muFin, muD, setFin, setMany, parFin, idxD, slcD, bi_len, bi_lenT, bi_abs, bi_int, bi_list, bi_listT, bi_max2, bi_min2, Ss.sets, S.sets, Tg.is, List.mem_cons, List.not_mem_nil, or_false, or_true, false_or, true_or, List.mem_append, List.append_assoc, List.append_eq, eqv_int, decide_false, Int.reduceEq, e0, cx]
/-! ### best weights -/
def bwT : Option (List Int) → T
  | none => .fz .none
  | some l => .ol (l.map PyData.int)
theorem s_best {m b : Nat} (hm : 1 ≤ m ∧ m ≤ 3) (hb : 2 ≤ b ∧ b ≤ 9) (hk : 1 < k) : (lev fs Bx k).call "best_weights" [.fz (.int m), .fz (.int b)] = .ok (bwT (bwO m b)) [.fz (.int m), .fz (.int b)] := by
  rw [lev_call (F := f_best_weights) rfl (by omega), run_fn rfl]
  have n1 := s_is_number (B := Bx) (k := k - 1) (m : Int) 1 30 (by omega)
  have n2 := s_is_number (B := Bx) (k := k - 1) (b : Int) 2 100 (by omega)
  rw [decide_eq_true (show (1 : Int) ≤ m by omega), decide_eq_true (show (m : Int) ≤ 30 by omega)] at n1
  rw [decide_eq_true (show (2 : Int) ≤ b by omega), decide_eq_true (show (b : Int) ≤ 100 by omega)] at n2
  unfold bwO
  by_cases h1 : m = 1
  · subst h1
    rw [if_pos rfl]
    rw [show (((1 : Nat) : Int)) = 1 from rfl] at n1 ⊢
    simp -implicitDefEqProofs only [f_best_weights, e_nm, e_int, e_str, e_bl, e_non, e_glb, e_bin, e_neg, e_cmp, t_cmp, chn_if, e_chn, t_chn, e_and, e_or, t_and, t_or, e_not, t_not, e_ite, e_lst, e_tup, e_idx, e_slc, e_call, e_bi, e_rl1, e_rl2, e_isi, e_me, e_mu, t_nm, t_bl, t_idx, t_call, t_bi, t_isi, t_lc, t_bin, ds_nil, ds_cons, os_nil, os_cons, oi_none, oi_some, c_none, c_some, i_op, as_nm, as_mv, x_nil, x_cons, x_set, x_setF, x_setT, x_par, x_sub, x_expr, x_ret, x_if, x_raise, x_pass, x_brk, x_cont, x_tryC, bind_ok, bind_exc, map_ok, map_exc, of_some, bind_ite, map_ite, endR_ite, dflT, asT, asD, frz, ofB, cmpB, takeSlot, moveSlot, slotT, Opd.see, sees, T.view, truthD, cmpD, eqD, scalD, binD, negD, isKd, callF, takeA, putA, startR, endR_rt, endR_nx, endR_exc, backs, evB, evT, evD, evO, List.map_cons, List.map_nil, List.length_cons, List.length_nil, List.cons_append, List.nil_append, List.append_nil, List.set_cons_zero, List.set_cons_succ, List.getElem?_cons_zero, List.getElem?_cons_succ, List.replicate_zero, List.replicate_succ, Option.join_some, Option.join_none, Option.bind_some, Option.bind_none, Option.map_some, Option.map_none, Nat.reduceAdd, Nat.reduceSub, Nat.sub_self, List.any_cons, List.any_nil, Bool.or_false, Bool.false_or, Bool.or_true, Bool.true_or, Bool.and_true, Bool.true_and, Bool.and_false, Bool.false_and, Bool.not_true, Bool.not_false, Bool.false_eq_true, reduceIte, reduceCtorEq, decide_eq_true_eq, Bool.not_eq_true', decide_eq_false_iff_not, sz_eq, Nat.reduceLeDiff, isOl, subFin, muFin, muD, setFin, setMany, parFin, idxD, slcD, bi_len, bi_lenT, bi_abs, bi_int, bi_list, bi_listT, bi_max2, bi_min2, Ss.sets, S.sets, Tg.is, List.mem_cons, List.not_mem_nil, or_false, or_true, false_or, true_or, List.mem_append, List.append_assoc, List.append_eq, n1, n2, eqv_int, decide_true, bwT]
  · rw [if_neg h1]
    have h1' : ¬ ((m : Int) = 1) := by omega
    have lp : First (fun ρ => ∃ o2, ρ = [some (.fz (.int m)), some (.fz (.int b)), o2, none]) (fun _ => True) ((List.range ((b : Int) - 2).toNat).findSome? fun i => (if Nat.gcd (2 + i) b = 1 ∧ Nat.gcd (1 + i) b = 1 then some ((List.range m).map fun a => if a % 2 = 0 then 1 else ((2 + i : Nat) : Int)) else none).map fun l => T.ol (l.map PyData.int)) (exS (lev fs Bx (k - 1)) (.for_ (.one 2) (.rng2 (.int 2) (.nm 1)) (.cons (.ifS (.and_ (.cmp .Eq (.call "common" (.cons (.nm 2) (.cons (.nm 1) .nil)) []) (.int 1)) (.cmp .Eq (.call "common" (.cons (.bin .Sub (.nm 2) (.int 1)) (.cons (.nm 1) .nil)) []) (.int 1))) (.cons (.ret (.lc (.one 3) [3] (.rng1 (.nm 0)) .none (.ite (.cmp .Eq (.bin .Mod (.nm 3) (.int 2)) (.int 0)) (.int 1) (.nm 2)))) .nil) .nil) .nil)) [some (.fz (.int m)), some (.fz (.int b)), none, none]) := by
      refine first_r2 (x := .tmp (.fz (.int 2))) (y := .sl 1) (ρ1 := [some (.fz (.int m)), some (.fz (.int b)), none, none]) (ρ2 := [some (.fz (.int m)), some (.fz (.int b)), none, none]) _ rfl rfl rfl rfl (by omega) (by omega) ⟨none, rfl⟩ ?_
      rintro i _ hi ⟨o2, rfl⟩
      have g1 := gcd_call (k := k - 1) (b := b) (w := ((2 + i : Nat) : Int)) (by omega) (by omega) (by omega) (by omega)
      have g2 := gcd_call (k := k - 1) (b := b) (w := ((1 + i : Nat) : Int)) (by omega) (by omega) (by omega) (by omega)
      rw [Int.toNat_natCast, Int.toNat_natCast] at g1 g2
      have e0 : (2 : Int) + (i : Int) = ((2 + i : Nat) : Int) := by omega
      have e1 : (((2 + i : Nat) : Int)) - 1 = ((1 + i : Nat) : Int) := by omega
      have lc : (ev2 (lev fs Bx (k - 1)) (.lc (.one 3) [3] (.rng1 (.nm 0)) .none (.ite (.cmp .Eq (.bin .Mod (.nm 3) (.int 2)) (.int 0)) (.int 1) (.nm 2)))).1 [some (.fz (.int m)), some (.fz (.int b)), some (.fz (.int (2 + i : Nat))), none] = .ok (.tmp (.ol ((List.range m).map fun a => .int (if a % 2 = 0 then 1 else ((2 + i : Nat) : Int))))) [some (.fz (.int m)), some (.fz (.int b)), some (.fz (.int (2 + i : Nat))), none] := by
        refine lc_r1m (x := .sl 0) (fun a => .int (if a % 2 = 0 then 1 else ((2 + i : Nat) : Int))) rfl rfl (by show 3 < 4; decide) (by omega) (fun a ha => ?_)
        have fm : (a : Int).fmod 2 = ((a % 2 : Nat) : Int) := by
          rw [Int.fmod_eq_emod_of_nonneg _ (by omega)]
          rfl
        by_cases h2 : a % 2 = 0
        · rw [if_pos h2]
          have h2' : ((a % 2 : Nat) : Int) = 0 := by omega
          simp -implicitDefEqProofs only [e_nm, e_int, e_str, e_bl, e_non, e_glb, e_bin, e_neg, e_cmp, t_cmp, chn_if, e_chn, t_chn, e_and, e_or, t_and, t_or, e_not, t_not, e_ite, e_lst, e_tup, e_idx, e_slc, e_call, e_bi, e_rl1, e_rl2, e_isi, e_me, e_mu, t_nm, t_bl, t_idx, t_call, t_bi, t_isi, t_lc, t_bin, ds_nil, ds_cons, os_nil, os_cons, oi_none, oi_some, c_none, c_some, i_op, as_nm, as_mv, x_nil, x_cons, x_set, x_setF, x_setT, x_par, x_sub, x_expr, x_ret, x_if, x_raise, x_pass, x_brk, x_cont, x_tryC, bind_ok, bind_exc, map_ok, map_exc, of_some, bind_ite, map_ite, endR_ite, dflT, asT, asD, frz, ofB, cmpB, takeSlot, moveSlot, slotT, Opd.see, sees, T.view, truthD, cmpD, eqD, scalD, binD, negD, isKd, callF, takeA, putA, startR, endR_rt, endR_nx, endR_exc, backs, evB, evT, evD, evO, List.map_cons, List.map_nil, List.length_cons, List.length_nil, List.cons_append, List.nil_append, List.append_nil, List.set_cons_zero, List.set_cons_succ, List.getElem?_cons_zero, List.getElem?_cons_succ, List.replicate_zero, List.replicate_succ, Option.join_some, Option.join_none, Option.bind_some, Option.bind_none, Option.map_some, Option.map_none, Nat.reduceAdd, Nat.reduceSub, Nat.sub_self, List.any_cons, List.any_nil, Bool.or_false, Bool.false_or, Bool.or_true, Bool.true_or, Bool.and_true, Bool.true_and, Bool.and_false, Bool.false_and, Bool.not_true, Bool.not_false, Bool.false_eq_true, reduceIte, reduceCtorEq, decide_eq_true_eq, Bool.not_eq_true', decide_eq_false_iff_not, sz_eq, Nat.reduceLeDiff, isOl, subFin, muFin, muD, setFin, setMany, parFin, idxD, slcD, bi_len, bi_lenT, bi_abs, bi_int, bi_list, bi_listT, bi_max2, bi_min2, Ss.sets, S.sets, Tg.is, List.mem_cons, List.not_mem_nil, or_false, or_true, false_or, true_or, List.mem_append, List.append_assoc, List.append_eq, fm, h2', eqv_int, decide_true, ne_eq, not_false_eq_true, Int.reduceEq]
        · rw [if_neg h2]
          have h2' : ¬ ((a % 2 : Nat) : Int) = 0 := by omega
          simp -implicitDefEqProofs only [e_nm, e_int, e_str, e_bl, e_non, e_glb, e_bin, e_neg, e_cmp, t_cmp, chn_if, e_chn, t_chn, e_and, e_or, t_and, t_or, e_not, t_not, e_ite, e_lst, e_tup, e_idx, e_slc, e_call, e_bi, e_rl1, e_rl2, e_isi, e_me, e_mu, t_nm, t_bl, t_idx, t_call, t_bi, t_isi, t_lc, t_bin, ds_nil, ds_cons, os_nil, os_cons, oi_none, oi_some, c_none, c_some, i_op, as_nm, as_mv, x_nil, x_cons, x_set, x_setF, x_setT, x_par, x_sub, x_expr, x_ret, x_if, x_raise, x_pass, x_brk, x_cont, x_tryC, bind_ok, bind_exc, map_ok, map_exc, of_some, bind_ite, map_ite, endR_ite, dflT, asT, asD, frz, ofB, cmpB, takeSlot, moveSlot, slotT, Opd.see, sees, T.view, truthD, cmpD, eqD, scalD, binD, negD, isKd, callF, takeA, putA, startR, endR_rt, endR_nx, endR_exc, backs, evB, evT, evD, evO, List.map_cons, List.map_nil, List.length_cons, List.length_nil, List.cons_append, List.nil_append, List.append_nil, List.set_cons_zero, List.set_cons_succ, List.getElem?_cons_zero, List.getElem?_cons_succ, List.replicate_zero, List.replicate_succ, Option.join_some, Option.join_none, Option.bind_some, Option.bind_none, Option.map_some, Option.map_none, Nat.reduceAdd, Nat.reduceSub, Nat.sub_self, List.any_cons, List.any_nil, Bool.or_false, Bool.false_or, Bool.or_true, Bool.true_or, Bool.and_true, Bool.true_and, Bool.and_false, Bool.false_and, Bool.not_true, Bool.not_false, Bool.false_eq_true, reduceIte, reduceCtorEq, decide_eq_true_eq, Bool.not_eq_true', decide_eq_false_iff_not, sz_eq, Nat.reduceLeDiff, isOl, subFin, muFin, muD, setFin, setMany, parFin, idxD, slcD, bi_len, bi_lenT, bi_abs, bi_int, bi_list, bi_listT, bi_max2, bi_min2, Ss.sets, S.sets, Tg.is, List.mem_cons, List.not_mem_nil, or_false, or_true, false_or, true_or, List.mem_append, List.append_assoc, List.append_eq, fm, h2', eqv_int, decide_false, ne_eq, not_false_eq_true, Int.reduceEq]
      rw [e0]
      by_cases c1 : Nat.gcd (2 + i) b = 1
      · have c1' : ((Nat.gcd (2 + i) b : Nat) : Int) = 1 := by omega
        by_cases c2 : Nat.gcd (1 + i) b = 1
        · have c2' : ((Nat.gcd (1 + i) b : Nat) : Int) = 1 := by omega
          rw [if_pos ⟨c1, c2⟩]
          refine .inr ⟨_, rfl, [some (.fz (.int m)), some (.fz (.int b)), some (.fz (.int (2 + i : Nat))), none], ?_, trivial⟩
          simp -implicitDefEqProofs only [e_nm, e_int, e_str, e_bl, e_non, e_glb, e_bin, e_neg, e_cmp, t_cmp, chn_if, e_chn, t_chn, e_and, e_or, t_and, t_or, e_not, t_not, e_ite, e_lst, e_tup, e_idx, e_slc, e_call, e_bi, e_rl1, e_rl2, e_isi, e_me, e_mu, t_nm, t_bl, t_idx, t_call, t_bi, t_isi, t_lc, t_bin, ds_nil, ds_cons, os_nil, os_cons, oi_none, oi_some, c_none, c_some, i_op, as_nm, as_mv, x_nil, x_cons, x_set, x_setF, x_setT, x_par, x_sub, x_expr, x_ret, x_if, x_raise, x_pass, x_brk, x_cont, x_tryC, bind_ok, bind_exc, map_ok, map_exc, of_some, bind_ite, map_ite, endR_ite, dflT, asT, asD, frz, ofB, cmpB, takeSlot, moveSlot, slotT, Opd.see, sees, T.view, truthD, cmpD, eqD, scalD, binD, negD, isKd, callF, takeA, putA, startR, endR_rt, endR_nx, endR_exc, backs, evB, evT, evD, evO, List.map_cons, List.map_nil, List.length_cons, List.length_nil, List.cons_append, List.nil_append, List.append_nil, List.set_cons_zero, List.set_cons_succ, List.getElem?_cons_zero, List.getElem?_cons_succ, List.replicate_zero, List.replicate_succ, Option.join_some, Option.join_none, Option.bind_some, Option.bind_none, Option.map_some, Option.map_none, Nat.reduceAdd, Nat.reduceSub, Nat.sub_self, List.any_cons, List.any_nil, Bool.or_false, Bool.false_or, Bool.or_true, Bool.true_or, Bool.and_true, Bool.true_and, Bool.and_false, Bool.false_and, Bool.not_true, Bool.not_false, Bool.false_eq_true, reduceIte, reduceCtorEq, decide_eq_true_eq, Bool.not_eq_true', decide_eq_false_iff_not, sz_eq, Nat.reduceLeDiff, isOl, subFin, muFin, muD, setFin, setMany, parFin, idxD, slcD, bi_len, bi_lenT, bi_abs, bi_int, bi_list, bi_listT, bi_max2, bi_min2, Ss.sets, S.sets, Tg.is, List.mem_cons, List.not_mem_nil, or_false, or_true, false_or, true_or, List.mem_append, List.append_assoc, List.append_eq, g1, g2, e1, c1', c2', eqv_int, decide_true, lc, List.map_map]
          rfl
        · have c2' : ¬ ((Nat.gcd (1 + i) b : Nat) : Int) = 1 := by omega
          rw [if_neg (fun z => c2 z.2)]
          refine .inl ⟨rfl, [some (.fz (.int m)), some (.fz (.int b)), some (.fz (.int (2 + i : Nat))), none], ?_, _, rfl⟩
          simp -implicitDefEqProofs only [e_nm, e_int, e_str, e_bl, e_non, e_glb, e_bin, e_neg, e_cmp, t_cmp, chn_if, e_chn, t_chn, e_and, e_or, t_and, t_or, e_not, t_not, e_ite, e_lst, e_tup, e_idx, e_slc, e_call, e_bi, e_rl1, e_rl2, e_isi, e_me, e_mu, t_nm, t_bl, t_idx, t_call, t_bi, t_isi, t_lc, t_bin, ds_nil, ds_cons, os_nil, os_cons, oi_none, oi_some, c_none, c_some, i_op, as_nm, as_mv, x_nil, x_cons, x_set, x_setF, x_setT, x_par, x_sub, x_expr, x_ret, x_if, x_raise, x_pass, x_brk, x_cont, x_tryC, bind_ok, bind_exc, map_ok, map_exc, of_some, bind_ite, map_ite, endR_ite, dflT, asT, asD, frz, ofB, cmpB, takeSlot, moveSlot, slotT, Opd.see, sees, T.view, truthD, cmpD, eqD, scalD, binD, negD, isKd, callF, takeA, putA, startR, endR_rt, endR_nx, endR_exc, backs, evB, evT, evD, evO, List.map_cons, List.map_nil, List.length_cons, List.length_nil, List.cons_append, List.nil_append, List.append_nil, List.set_cons_zero, List.set_cons_succ, List.getElem?_cons_zero, List.getElem?_cons_succ, List.replicate_zero, List.replicate_succ, Option.join_some, Option.join_none, Option.bind_some, Option.bind_none, Option.map_some, Option.map_none, Nat.reduceAdd, Nat.reduceSub, Nat.sub_self, List.any_cons, List.any_nil, Bool.or_false, Bool.false_or, Bool.or_true, Bool.true_or, Bool.and_true, Bool.true_and, Bool.and_false, Bool.false_and, Bool.not_true, Bool.not_false, Bool.false_eq_true, reduceIte, reduceCtorEq, decide_eq_true_eq, Bool.not_eq_true', decide_eq_false_iff_not, sz_eq, Nat.reduceLeDiff, isOl, subFin, muFin, muD, setFin, setMany, parFin, idxD, slcD, bi_len, bi_lenT, bi_abs, bi_int, bi_list, bi_listT, bi_max2, bi_min2, Ss.sets, S.sets, Tg.is, List.mem_cons, List.not_mem_nil, or_false, or_true, false_or, true_or, List.mem_append, List.append_assoc, List.append_eq, g1, g2, e1, c1', c2', eqv_int, decide_true, decide_false]
      · have c1' : ¬ ((Nat.gcd (2 + i) b : Nat) : Int) = 1 := by omega
        rw [if_neg (fun z => c1 z.1)]
        refine .inl ⟨rfl, [some (.fz (.int m)), some (.fz (.int b)), some (.fz (.int (2 + i : Nat))), none], ?_, _, rfl⟩
        simp -implicitDefEqProofs only [e_nm, e_int, e_str, e_bl, e_non, e_glb, e_bin, e_neg, e_cmp, t_cmp, chn_if, e_chn, t_chn, e_and, e_or, t_and, t_or, e_not, t_not, e_ite, e_lst, e_tup, e_idx, e_slc, e_call, e_bi, e_rl1, e_rl2, e_isi, e_me, e_mu, t_nm, t_bl, t_idx, t_call, t_bi, t_isi, t_lc, t_bin, ds_nil, ds_cons, os_nil, os_cons, oi_none, oi_some, c_none, c_some, i_op, as_nm, as_mv, x_nil, x_cons, x_set, x_setF, x_setT, x_par, x_sub, x_expr, x_ret, x_if, x_raise, x_pass, x_brk, x_cont, x_tryC, bind_ok, bind_exc, map_ok, map_exc, of_some, bind_ite, map_ite, endR_ite, dflT, asT, asD, frz, ofB, cmpB, takeSlot, moveSlot, slotT, Opd.see, sees, T.view, truthD, cmpD, eqD, scalD, binD, negD, isKd, callF, takeA, putA, startR, endR_rt, endR_nx, endR_exc, backs, evB, evT, evD, evO, List.map_cons, List.map_nil, List.length_cons, List.length_nil, List.cons_append, List.nil_append, List.append_nil, List.set_cons_zero, List.set_cons_succ, List.getElem?_cons_zero, List.getElem?_cons_succ, List.replicate_zero, List.replicate_succ, Option.join_some, Option.join_none, Option.bind_some, Option.bind_none, Option.map_some, Option.map_none, Nat.reduceAdd, Nat.reduceSub, Nat.sub_self, List.any_cons, List.any_nil, Bool.or_false, Bool.false_or, Bool.or_true, Bool.true_or, Bool.and_true, Bool.true_and, Bool.and_false, Bool.false_and, Bool.not_true, Bool.not_false, Bool.false_eq_true, reduceIte, reduceCtorEq, decide_eq_true_eq, Bool.not_eq_true', decide_eq_false_iff_not, sz_eq, Nat.reduceLeDiff, isOl, subFin, muFin, muD, setFin, setMany, parFin, idxD, slcD, bi_len, bi_lenT, bi_abs, bi_int, bi_list, bi_listT, bi_max2, bi_min2, Ss.sets, S.sets, Tg.is, List.mem_cons, List.not_mem_nil, or_false, or_true, false_or, true_or, List.mem_append, List.append_assoc, List.append_eq, g1, g2, e1, c1', eqv_int, decide_true, decide_false]
    rw [show ((b : Int) - 2).toNat = b - 2 by omega] at lp
    have q : ((List.range (b - 2)).findSome? fun i => (if Nat.gcd (2 + i) b = 1 ∧ Nat.gcd (1 + i) b = 1 then some ((List.range m).map fun a => if a % 2 = 0 then 1 else ((2 + i : Nat) : Int)) else none).map fun l => T.ol (l.map PyData.int)) = ((List.range (b - 2)).findSome? fun i => (if Nat.gcd (2 + i) b = 1 ∧ Nat.gcd (1 + i) b = 1 then some ((List.range m).map fun a => if a % 2 = 0 then 1 else ((2 + i : Nat) : Int)) else none)).map fun l => T.ol (l.map PyData.int) := by
      rw [List.map_findSome?]
      rfl
    rw [q] at lp
    generalize ((List.range (b - 2)).findSome? fun i => (if Nat.gcd (2 + i) b = 1 ∧ Nat.gcd (1 + i) b = 1 then some ((List.range m).map fun a => if a % 2 = 0 then 1 else ((2 + i : Nat) : Int)) else none)) = o at lp ⊢
    rcases lp with ⟨e, _, lp, o2, rfl⟩ | ⟨t, e, ρ', lp, _⟩
    · cases o with
      | none => simp -implicitDefEqProofs only [f_best_weights, e_nm, e_int, e_str, e_bl, e_non, e_glb, e_bin, e_neg, e_cmp, t_cmp, chn_if, e_chn, t_chn, e_and, e_or, t_and, t_or, e_not, t_not, e_ite, e_lst, e_tup, e_idx, e_slc, e_call, e_bi, e_rl1, e_rl2, e_isi, e_me, e_mu, t_nm, t_bl, t_idx, t_call, t_bi, t_isi, t_lc, t_bin, ds_nil, ds_cons, os_nil, os_cons, oi_none, oi_some, c_none, c_some, i_op, as_nm, as_mv, x_nil, x_cons, x_set, x_setF, x_setT, x_par, x_sub, x_expr, x_ret, x_if, x_raise, x_pass, x_brk, x_cont, x_tryC, bind_ok, bind_exc, map_ok, map_exc, of_some, bind_ite, map_ite, endR_ite, dflT, asT, asD, frz, ofB, cmpB, takeSlot, moveSlot, slotT, Opd.see, sees, T.view, truthD, cmpD, eqD, scalD, binD, negD, isKd, callF, takeA, putA, startR, endR_rt, endR_nx, endR_exc, backs, evB, evT, evD, evO, List.map_cons, List.map_nil, List.length_cons, List.length_nil, List.cons_append, List.nil_append, List.append_nil, List.set_cons_zero, List.set_cons_succ, List.getElem?_cons_zero, List.getElem?_cons_succ, List.replicate_zero, List.replicate_succ, Option.join_some, Option.join_none, Option.bind_some, Option.bind_none, Option.map_some, Option.map_none, Nat.reduceAdd, Nat.reduceSub, Nat.sub_self, List.any_cons, List.any_nil, Bool.or_false, Bool.false_or, Bool.or_true, Bool.true_or, Bool.and_true, Bool.true_and, Bool.and_false, Bool.false_and, Bool.not_true, Bool.not_false, Bool.false_eq_true, reduceIte, reduceCtorEq, decide_eq_true_eq, Bool.not_eq_true', decide_eq_false_iff_not, sz_eq, Nat.reduceLeDiff, isOl, subFin, muFin, muD, setFin, setMany, parFin, idxD, slcD, bi_len, bi_lenT, bi_abs, bi_int, bi_list, bi_listT, bi_max2, bi_min2, Ss.sets, S.sets, Tg.is, List.mem_cons, List.not_mem_nil, or_false, or_true, false_or, true_or, List.mem_append, List.append_assoc, List.append_eq, n1, n2, eqv_int, h1', decide_false, lp, bwT]
      | some l => cases e
    · cases o with
      | none => cases e
      | some l =>
        cases e
        simp -implicitDefEqProofs only [f_best_weights, e_nm, e_int, e_str, e_bl, e_non, e_glb, e_bin, e_neg, e_cmp, t_cmp, chn_if, e_chn, t_chn, e_and, e_or, t_and, t_or, e_not, t_not, e_ite, e_lst, e_tup, e_idx, e_slc, e_call, e_bi, e_rl1, e_rl2, e_isi, e_me, e_mu, t_nm, t_bl, t_idx, t_call, t_bi, t_isi, t_lc, t_bin, ds_nil, ds_cons, os_nil, os_cons, oi_none, oi_some, c_none, c_some, i_op, as_nm, as_mv, x_nil, x_cons, x_set, x_setF, x_setT, x_par, x_sub, x_expr, x_ret, x_if, x_raise, x_pass, x_brk, x_cont, x_tryC, bind_ok, bind_exc, map_ok, map_exc, of_some, bind_ite, map_ite, endR_ite, dflT, asT, asD, frz, ofB, cmpB, takeSlot, moveSlot, slotT, Opd.see, sees, T.view, truthD, cmpD, eqD, scalD, binD, negD, isKd, callF, takeA, putA, startR, endR_rt, endR_nx, endR_exc, backs, evB, evT, evD, evO, List.map_cons, List.map_nil, List.length_cons, List.length_nil, List.cons_append, List.nil_append, List.append_nil, List.set_cons_zero, List.set_cons_succ, List.getElem?_cons_zero, List.getElem?_cons_succ, List.replicate_zero, List.replicate_succ, Option.join_some, Option.join_none, Option.bind_some, Option.bind_none, Option.map_some, Option.map_none, Nat.reduceAdd, Nat.reduceSub, Nat.sub_self, List.any_cons, List.any_nil, Bool.or_false, Bool.false_or, Bool.or_true, Bool.true_or, Bool.and_true, Bool.true_and, Bool.and_false, Bool.false_and, Bool.not_true, Bool.not_false, Bool.false_eq_true, reduceIte, reduceCtorEq, decide_eq_true_eq, Bool.not_eq_true', decide_eq_false_iff_not, sz_eq, Nat.reduceLeDiff, isOl, subFin, muFin, muD, setFin, setMany, parFin, idxD, slcD, bi_len, bi_lenT, bi_abs, bi_int, bi_list, bi_listT, bi_max2, bi_min2, Ss.sets, S.sets, Tg.is, List.mem_cons, List.not_mem_nil, or_false, or_true, false_or, true_or, List.mem_append, List.append_assoc, List.append_eq, n1, n2, eqv_int, h1', decide_false, lp, bwT]
end
end L2.Eng.K58

namespace L2.Eng.K58
open PySem
theorem s_lrule {B : Fx} {k most wide : Nat} {p : List D} (hp : Pool p) (h1 : 0 < most ∧ most ≤ 8) (h2 : 0 < wide ∧ wide ≤ 30) (hk : 1 < k) : ∃ (ws : List Int) (b : Nat) (p' : List D), Pool p' ∧ Rule ws b ∧ ws.length ≤ most ∧ b ≤ wide + 1 ∧ (lev fs B k).call "_law_rule" [.ol p, .fz (.int most), .fz (.int wide)] = .ok (.ol [il ws, .int b]) [.ol p', .fz (.int most), .fz (.int wide)] := by
  obtain ⟨r, p1, hp1, r0, r1, d1⟩ := s_draw hp (m := (wide : Int)) (by omega) (by omega)
  obtain ⟨q, p2, hp2, q0, q1, d2⟩ := s_draw hp1 (m := (most : Int)) (by omega) (by omega)
  have d1 := d1 B (k - 1) (by omega)
  have d2 := d2 B (k - 1) (by omega)
  obtain ⟨b, hb⟩ : ∃ b : Nat, 2 + r = b := ⟨(2 + r).toNat, by omega⟩
  obtain ⟨n, hn⟩ : ∃ n : Nat, 1 + q = n := ⟨(1 + q).toNat, by omega⟩
  have hx : (ev2 (lev fs B (k - 1)) (.bin .Add (.int 1) (.call "_law_draw" (.cons (.nm 0) (.cons (.nm 1) .nil)) []))).1 [some (.ol p1), some (.fz (.int most)), some (.fz (.int wide)), some (.fz (.int b)), none] = .ok (.tmp (.fz (.int n))) [some (.ol p2), some (.fz (.int most)), some (.fz (.int wide)), some (.fz (.int b)), none] := by
    rw [← hn]
    simp -implicitDefEqProofs only [e_nm, e_int, e_str, e_bl, e_non, e_glb, e_bin, e_neg, e_cmp, t_cmp, chn_if, e_chn, t_chn, e_and, e_or, t_and, t_or, e_not, t_not, e_ite, e_lst, e_tup, e_idx, e_slc, e_call, e_bi, e_rl1, e_rl2, e_isi, e_me, e_mu, t_nm, t_bl, t_idx, t_call, t_bi, t_isi, t_lc, t_bin, ds_nil, ds_cons, os_nil, os_cons, oi_none, oi_some, c_none, c_some, i_op, as_nm, as_mv, x_nil, x_cons, x_set, x_setF, x_setT, x_par, x_sub, x_expr, x_ret, x_if, x_raise, x_pass, x_brk, x_cont, x_tryC, bind_ok, bind_exc, map_ok, map_exc, of_some, bind_ite, map_ite, endR_ite, dflT, asT, asD, frz, ofB, cmpB, takeSlot, moveSlot, slotT, Opd.see, sees, T.view, truthD, cmpD, eqD, scalD, binD, negD, isKd, callF, takeA, putA, startR, endR_rt, endR_nx, endR_exc, backs, evB, evT, evD, evO, List.map_cons, List.map_nil, List.length_cons, List.length_nil, List.cons_append, List.nil_append, List.append_nil, List.set_cons_zero, List.set_cons_succ, List.getElem?_cons_zero, List.getElem?_cons_succ, List.replicate_zero, List.replicate_succ, Option.join_some, Option.join_none, Option.bind_some, Option.bind_none, Option.map_some, Option.map_none, Nat.reduceAdd, Nat.reduceSub, Nat.sub_self, List.any_cons, List.any_nil, Bool.or_false, Bool.false_or, Bool.or_true, Bool.true_or, Bool.and_true, Bool.true_and, Bool.and_false, Bool.false_and, Bool.not_true, Bool.not_false, Bool.false_eq_true, reduceIte, reduceCtorEq, decide_eq_true_eq, Bool.not_eq_true', decide_eq_false_iff_not, sz_eq, Nat.reduceLeDiff, isOl, subFin, muFin, muD, setFin, setMany, parFin, idxD, slcD, bi_len, bi_lenT, bi_abs, bi_int, bi_list, bi_listT, bi_max2, bi_min2, Ss.sets, S.sets, Tg.is, List.mem_cons, List.not_mem_nil, or_false, or_true, false_or, true_or, List.mem_append, List.append_assoc, List.append_eq, d2]
  obtain ⟨ys, ρ', e, l, hy, p3, hp3, rfl⟩ := lc_r1x (Φ := lev fs B (k - 1)) (elt := .call "_law_draw" (.cons (.nm 0) (.cons (.nm 3) .nil)) []) (s := 4) (fun ρ => ∃ p, Pool p ∧ ρ = [some (.ol p), some (.fz (.int most)), some (.fz (.int wide)), some (.fz (.int b)), none]) (fun d => ∃ x, d = .int x ∧ (0 ≤ x ∧ x < b)) (n := n) hx rfl (by omega) ⟨p2, hp2, rfl⟩ (by
    rintro i _ hi ⟨p, hp, rfl⟩
    obtain ⟨x, p', hp', x0, x1, d⟩ := s_draw hp (m := (b : Int)) (by omega) (by omega)
    have d := d B (k - 1) (by omega)
    refine ⟨.int x, [some (.ol p'), some (.fz (.int most)), some (.fz (.int wide)), some (.fz (.int b)), some (.fz (.int i))], ?_, ⟨x, rfl, x0, x1⟩, p', hp', rfl⟩
    simp -implicitDefEqProofs only [e_nm, e_int, e_str, e_bl, e_non, e_glb, e_bin, e_neg, e_cmp, t_cmp, chn_if, e_chn, t_chn, e_and, e_or, t_and, t_or, e_not, t_not, e_ite, e_lst, e_tup, e_idx, e_slc, e_call, e_bi, e_rl1, e_rl2, e_isi, e_me, e_mu, t_nm, t_bl, t_idx, t_call, t_bi, t_isi, t_lc, t_bin, ds_nil, ds_cons, os_nil, os_cons, oi_none, oi_some, c_none, c_some, i_op, as_nm, as_mv, x_nil, x_cons, x_set, x_setF, x_setT, x_par, x_sub, x_expr, x_ret, x_if, x_raise, x_pass, x_brk, x_cont, x_tryC, bind_ok, bind_exc, map_ok, map_exc, of_some, bind_ite, map_ite, endR_ite, dflT, asT, asD, frz, ofB, cmpB, takeSlot, moveSlot, slotT, Opd.see, sees, T.view, truthD, cmpD, eqD, scalD, binD, negD, isKd, callF, takeA, putA, startR, endR_rt, endR_nx, endR_exc, backs, evB, evT, evD, evO, List.map_cons, List.map_nil, List.length_cons, List.length_nil, List.cons_append, List.nil_append, List.append_nil, List.set_cons_zero, List.set_cons_succ, List.getElem?_cons_zero, List.getElem?_cons_succ, List.replicate_zero, List.replicate_succ, Option.join_some, Option.join_none, Option.bind_some, Option.bind_none, Option.map_some, Option.map_none, Nat.reduceAdd, Nat.reduceSub, Nat.sub_self, List.any_cons, List.any_nil, Bool.or_false, Bool.false_or, Bool.or_true, Bool.true_or, Bool.and_true, Bool.true_and, Bool.and_false, Bool.false_and, Bool.not_true, Bool.not_false, Bool.false_eq_true, reduceIte, reduceCtorEq, decide_eq_true_eq, Bool.not_eq_true', decide_eq_false_iff_not, sz_eq, Nat.reduceLeDiff, isOl, subFin, muFin, muD, setFin, setMany, parFin, idxD, slcD, bi_len, bi_lenT, bi_abs, bi_int, bi_list, bi_listT, bi_max2, bi_min2, Ss.sets, S.sets, Tg.is, List.mem_cons, List.not_mem_nil, or_false, or_true, false_or, true_or, List.mem_append, List.append_assoc, List.append_eq, d])
  obtain ⟨ws, rfl, hw⟩ := ints_of hy
  rw [List.length_map] at l
  have e' : [some (T.ol p3), some (T.fz (.int most)), some (T.fz (.int wide)), some (T.fz (.int b)), none].set 4 (slotT [some (T.ol p2), some (T.fz (.int most)), some (T.fz (.int wide)), some (T.fz (.int b)), none] 4) = [some (T.ol p3), some (T.fz (.int most)), some (T.fz (.int wide)), some (T.fz (.int b)), none] := rfl
  rw [e'] at e
  refine ⟨ws, b, p3, hp3, ⟨by omega, by omega, by omega, by omega, hw⟩, by omega, by omega, ?_⟩
  rw [lev_call (F := f__law_rule) rfl (by omega), run_fn rfl]
  simp -implicitDefEqProofs only [f__law_rule, e_nm, e_int, e_str, e_bl, e_non, e_glb, e_bin, e_neg, e_cmp, t_cmp, chn_if, e_chn, t_chn, e_and, e_or, t_and, t_or, e_not, t_not, e_ite, e_lst, e_tup, e_idx, e_slc, e_call, e_bi, e_rl1, e_rl2, e_isi, e_me, e_mu, t_nm, t_bl, t_idx, t_call, t_bi, t_isi, t_lc, t_bin, ds_nil, ds_cons, os_nil, os_cons, oi_none, oi_some, c_none, c_some, i_op, as_nm, as_mv, x_nil, x_cons, x_set, x_setF, x_setT, x_par, x_sub, x_expr, x_ret, x_if, x_raise, x_pass, x_brk, x_cont, x_tryC, bind_ok, bind_exc, map_ok, map_exc, of_some, bind_ite, map_ite, endR_ite, dflT, asT, asD, frz, ofB, cmpB, takeSlot, moveSlot, slotT, Opd.see, sees, T.view, truthD, cmpD, eqD, scalD, binD, negD, isKd, callF, takeA, putA, startR, endR_rt, endR_nx, endR_exc, backs, evB, evT, evD, evO, List.map_cons, List.map_nil, List.length_cons, List.length_nil, List.cons_append, List.nil_append, List.append_nil, List.set_cons_zero, List.set_cons_succ, List.getElem?_cons_zero, List.getElem?_cons_succ, List.replicate_zero, List.replicate_succ, Option.join_some, Option.join_none, Option.bind_some, Option.bind_none, Option.map_some, Option.map_none, Nat.reduceAdd, Nat.reduceSub, Nat.sub_self, List.any_cons, List.any_nil, Bool.or_false, Bool.false_or, Bool.or_true, Bool.true_or, Bool.and_true, Bool.true_and, Bool.and_false, Bool.false_and, Bool.not_true, Bool.not_false, Bool.false_eq_true, reduceIte, reduceCtorEq, decide_eq_true_eq, Bool.not_eq_true', decide_eq_false_iff_not, sz_eq, Nat.reduceLeDiff, isOl, subFin, muFin, muD, setFin, setMany, parFin, idxD, slcD, bi_len, bi_lenT, bi_abs, bi_int, bi_list, bi_listT, bi_max2, bi_min2, Ss.sets, S.sets, Tg.is, List.mem_cons, List.not_mem_nil, or_false, or_true, false_or, true_or, List.mem_append, List.append_assoc, List.append_eq, d1, hb, e]
theorem s_pickO {p : List D} {ds : List D} (hp : Pool p) (h0 : 0 < ds.length) (h1 : ds.length < 1073741824) : ∃ (x : D) (p' : List D), Pool p' ∧ x ∈ ds ∧ ∀ B k, 1 < k → (lev fs B k).call "_law_pick" [.ol p, .ol ds] = .ok (.fz x) [.ol p', .ol ds] := by
  obtain ⟨r, p', hp', r0, r1, e⟩ := s_draw hp (m := (ds.length : Int)) (by omega) (by omega)
  have hi : r.toNat < ds.length := by omega
  have ai : atI ds r = some ds[r.toNat] := by
    have q := atI_nat (List.getElem?_eq_getElem hi)
    rwa [Int.toNat_of_nonneg r0] at q
  refine ⟨ds[r.toNat], p', hp', List.getElem_mem hi, fun B k hk => ?_⟩
  rw [lev_call (F := f__law_pick) rfl (by omega), run_fn rfl]
  have e' := e B (k - 1) (by omega)
  simp -implicitDefEqProofs only [f__law_pick, e_nm, e_int, e_str, e_bl, e_non, e_glb, e_bin, e_neg, e_cmp, t_cmp, chn_if, e_chn, t_chn, e_and, e_or, t_and, t_or, e_not, t_not, e_ite, e_lst, e_tup, e_idx, e_slc, e_call, e_bi, e_rl1, e_rl2, e_isi, e_me, e_mu, t_nm, t_bl, t_idx, t_call, t_bi, t_isi, t_lc, t_bin, ds_nil, ds_cons, os_nil, os_cons, oi_none, oi_some, c_none, c_some, i_op, as_nm, as_mv, x_nil, x_cons, x_set, x_setF, x_setT, x_par, x_sub, x_expr, x_ret, x_if, x_raise, x_pass, x_brk, x_cont, x_tryC, bind_ok, bind_exc, map_ok, map_exc, of_some, bind_ite, map_ite, endR_ite, dflT, asT, asD, frz, ofB, cmpB, takeSlot, moveSlot, slotT, Opd.see, sees, T.view, truthD, cmpD, eqD, scalD, binD, negD, isKd, callF, takeA, putA, startR, endR_rt, endR_nx, endR_exc, backs, evB, evT, evD, evO, List.map_cons, List.map_nil, List.length_cons, List.length_nil, List.cons_append, List.nil_append, List.append_nil, List.set_cons_zero, List.set_cons_succ, List.getElem?_cons_zero, List.getElem?_cons_succ, List.replicate_zero, List.replicate_succ, Option.join_some, Option.join_none, Option.bind_some, Option.bind_none, Option.map_some, Option.map_none, Nat.reduceAdd, Nat.reduceSub, Nat.sub_self, List.any_cons, List.any_nil, Bool.or_false, Bool.false_or, Bool.or_true, Bool.true_or, Bool.and_true, Bool.true_and, Bool.and_false, Bool.false_and, Bool.not_true, Bool.not_false, Bool.false_eq_true, reduceIte, reduceCtorEq, decide_eq_true_eq, Bool.not_eq_true', decide_eq_false_iff_not, sz_eq, Nat.reduceLeDiff, isOl, subFin, muFin, muD, setFin, setMany, parFin, idxD, slcD, bi_len, bi_lenT, bi_abs, bi_int, bi_list, bi_listT, bi_max2, bi_min2, Ss.sets, S.sets, Tg.is, List.mem_cons, List.not_mem_nil, or_false, or_true, false_or, true_or, List.mem_append, List.append_assoc, List.append_eq, e', ai]
abbrev LT (sc : T) (p : List D) (ws : List Int) (b : Int) (o4 o5 o6 o7 o8 o9 o10 o11 o12 o13 o14 o15 o16 o17 o18 o19 o20 : Option T) : Rho := [some sc, some (.ol p), some (.fz (il ws)), some (.fz (.int b)), o4, o5, o6, o7, o8, o9, o10, o11, o12, o13, o14, o15, o16, o17, o18, o19, o20]
def Rx (ws : List Int) (b : Nat) : Prop := Rule ws b ∧ b ≤ 31
theorem steps_rule {ws : List Int} {b : Nat} (h : Rule ws b) : ∀ w ∈ steps ws, 0 ≤ w ∧ w < (b : Int) := steps_bnd h.2.2.2.2
theorem non_first {ws : List Int} {b : Int} : isNonD (hwD (fun i => prI (ws.getD i 0) b) ws.length) = alW ws b := non_hw _ _
section
variable {Φ : Fx} {k m : Nat} {sc : T} {p : List D} {ws : List Int} {b : Nat} {o4 o5 o6 o7 o8 o9 o10 o11 o12 o13 o14 o15 o16 o17 o18 o19 o20 : Option T}
theorem stepsE {i j : Nat} {e : E} {ρ : Rho} (hi : slotT ρ i = some (.fz (il ws))) (hx : (ev2 Φ e).1 ρ = .ok (.tmp (.fz (.int ((ws.length : Int) - 1)))) ρ) (h1 : 0 < ws.length) (hz : ws.length ≤ 1000) (hj : j < ρ.length) (ne : j ≠ i) :
    (ev2 Φ (.lc (.one j) [j] (.rng1 e) .none (.bi .abs (.cons (.bin .Sub (.idx (.nm i) (.bin .Add (.nm j) (.int 1))) (.idx (.nm i) (.nm j))) .nil)))).1 ρ = .ok (.tmp (.ol ((steps ws).map PyData.int))) ρ := by
  have q := lc_r1m (Φ := Φ) (a := e) (s := j) (ρ := ρ) (ρ1 := ρ) (elt := .bi .abs (.cons (.bin .Sub (.idx (.nm i) (.bin .Add (.nm j) (.int 1))) (.idx (.nm i) (.nm j))) .nil)) (n := ws.length - 1) (fun a => .int (ab (ws.getD (a + 1) 0 - ws.getD a 0))) hx (by show some (PyData.int _) = _; rw [show (ws.length : Int) - 1 = ((ws.length - 1 : Nat) : Int) by omega]) hj (by omega) (fun a ha => by
    have ix := atI_i (ns := ws) (i := a) (by omega)
    have ix1 := atI_i (ns := ws) (i := a + 1) (by omega)
    rw [Int.natCast_add, Int.natCast_one] at ix1
    have g1 : ((ρ.set j (some (.fz (.int (a : Int)))))[i]?).join = some (.fz (il ws)) := by
      rw [← hi]
      exact slotT_other ne _
    have g2 : ((ρ.set j (some (.fz (.int (a : Int)))))[j]?).join = some (.fz (.int (a : Int))) := slotT_of (List.getElem?_set_self hj)
    unfold ab
    simp -implicitDefEqProofs only [e_nm, e_int, e_str, e_bl, e_non, e_glb, e_bin, e_neg, e_cmp, t_cmp, chn_if, e_chn, t_chn, e_and, e_or, t_and, t_or, e_not, t_not, e_ite, e_lst, e_tup, e_idx, e_slc, e_call, e_bi, e_rl1, e_rl2, e_isi, e_me, e_mu, t_nm, t_bl, t_idx, t_call, t_bi, t_isi, t_lc, t_bin, ds_nil, ds_cons, os_nil, os_cons, oi_none, oi_some, c_none, c_some, i_op, as_nm, as_mv, x_nil, x_cons, x_set, x_setF, x_setT, x_par, x_sub, x_expr, x_ret, x_if, x_raise, x_pass, x_brk, x_cont, x_tryC, bind_ok, bind_exc, map_ok, map_exc, of_some, bind_ite, map_ite, endR_ite, dflT, asT, asD, frz, ofB, cmpB, takeSlot, moveSlot, slotT, Opd.see, sees, T.view, truthD, cmpD, eqD, scalD, binD, negD, isKd, callF, takeA, putA, startR, endR_rt, endR_nx, endR_exc, backs, evB, evT, evD, evO, List.map_cons, List.map_nil, List.length_cons, List.length_nil, List.cons_append, List.nil_append, List.append_nil, List.set_cons_zero, List.set_cons_succ, List.getElem?_cons_zero, List.getElem?_cons_succ, List.replicate_zero, List.replicate_succ, Option.join_some, Option.join_none, Option.bind_some, Option.bind_none, Option.map_some, Option.map_none, Nat.reduceAdd, Nat.reduceSub, Nat.sub_self, List.any_cons, List.any_nil, Bool.or_false, Bool.false_or, Bool.or_true, Bool.true_or, Bool.and_true, Bool.true_and, Bool.and_false, Bool.false_and, Bool.not_true, Bool.not_false, Bool.false_eq_true, reduceIte, reduceCtorEq, decide_eq_true_eq, Bool.not_eq_true', decide_eq_false_iff_not, sz_eq, Nat.reduceLeDiff, isOl, subFin, muFin, muD, setFin, setMany, parFin, idxD, slcD, bi_len, bi_lenT, bi_abs, bi_int, bi_list, bi_listT, bi_max2, bi_min2, Ss.sets, S.sets, Tg.is, List.mem_cons, List.not_mem_nil, or_false, or_true, false_or, true_or, List.mem_append, List.append_assoc, List.append_eq, g1, g2, ix, ix1])
  rw [q]
  unfold steps
  rw [List.map_map]
  rfl
theorem fitE {i : Nat} {a y : Int} {ρ : Rho} (hi : slotT ρ i = some (.fz (il ws))) (ha : slotT ρ 16 = some (.fz (.int a))) (hy : slotT ρ 18 = some (.fz (.int y))) (hb : slotT ρ 3 = some (.fz (.int b))) (h2 : 2 ≤ b ∧ b ≤ 100) :
    (ev2 Φ (.and_ (.chn .LtE .Lt (.int 0) (.nm 16) (.bi .len (.cons (.nm i) .nil))) (.and_ (.chn .LtE .Lt (.int 1) (.nm 18) (.nm 3)) (.cmp .Eq (.bin .Mod (.bi .int (.cons (.bin .Mult (.nm 18) (.idx (.nm i) (.nm 16))) .nil)) (.nm 3)) (.int 0))))).1 ρ = .ok (.tmp (.fz (.bool (jw ws b a y)))) ρ := by
  have g1 : (ρ[i]?).join = some (.fz (il ws)) := hi
  have g2 : (ρ[16]?).join = some (.fz (.int a)) := ha
  have g3 : (ρ[18]?).join = some (.fz (.int y)) := hy
  have g4 : (ρ[3]?).join = some (.fz (.int b)) := hb
  unfold jw
  by_cases c1 : 0 ≤ a
  · rw [decide_eq_true c1]
    by_cases c2 : a < ws.length
    · rw [decide_eq_true c2]
      by_cases c3 : 1 ≤ y
      · rw [decide_eq_true c3]
        by_cases c4 : y < b
        · rw [decide_eq_true c4]
          obtain ⟨j, rfl⟩ : ∃ j : Nat, a = j := ⟨a.toNat, by omega⟩
          have ix := atI_i (ns := ws) (i := j) (by omega)
          have hm : mulOk y (ws.getD j 0) = true := mul_l (by omega)
          have nb : (b : Int) ≠ 0 := by omega
          rw [Int.toNat_natCast]
          simp -implicitDefEqProofs only [e_nm, e_int, e_str, e_bl, e_non, e_glb, e_bin, e_neg, e_cmp, t_cmp, chn_if, e_chn, t_chn, e_and, e_or, t_and, t_or, e_not, t_not, e_ite, e_lst, e_tup, e_idx, e_slc, e_call, e_bi, e_rl1, e_rl2, e_isi, e_me, e_mu, t_nm, t_bl, t_idx, t_call, t_bi, t_isi, t_lc, t_bin, ds_nil, ds_cons, os_nil, os_cons, oi_none, oi_some, c_none, c_some, i_op, as_nm, as_mv, x_nil, x_cons, x_set, x_setF, x_setT, x_par, x_sub, x_expr, x_ret, x_if, x_raise, x_pass, x_brk, x_cont, x_tryC, bind_ok, bind_exc, map_ok, map_exc, of_some, bind_ite, map_ite, endR_ite, dflT, asT, asD, frz, ofB, cmpB, takeSlot, moveSlot, slotT, Opd.see, sees, T.view, truthD, cmpD, eqD, scalD, binD, negD, isKd, callF, takeA, putA, startR, endR_rt, endR_nx, endR_exc, backs, evB, evT, evD, evO, List.map_cons, List.map_nil, List.length_cons, List.length_nil, List.cons_append, List.nil_append, List.append_nil, List.set_cons_zero, List.set_cons_succ, List.getElem?_cons_zero, List.getElem?_cons_succ, List.replicate_zero, List.replicate_succ, Option.join_some, Option.join_none, Option.bind_some, Option.bind_none, Option.map_some, Option.map_none, Nat.reduceAdd, Nat.reduceSub, Nat.sub_self, List.any_cons, List.any_nil, Bool.or_false, Bool.false_or, Bool.or_true, Bool.true_or, Bool.and_true, Bool.true_and, Bool.and_false, Bool.false_and, Bool.not_true, Bool.not_false, Bool.false_eq_true, reduceIte, reduceCtorEq, decide_eq_true_eq, Bool.not_eq_true', decide_eq_false_iff_not, sz_eq, Nat.reduceLeDiff, isOl, subFin, muFin, muD, setFin, setMany, parFin, idxD, slcD, bi_len, bi_lenT, bi_abs, bi_int, bi_list, bi_listT, bi_max2, bi_min2, Ss.sets, S.sets, Tg.is, List.mem_cons, List.not_mem_nil, or_false, or_true, false_or, true_or, List.mem_append, List.append_assoc, List.append_eq, g1, g2, g3, g4, c1, c2, c3, c4, ix, hm, nb, eqv_int, ne_eq, not_false_eq_true, List.length_map, decide_true]
        · rw [decide_eq_false c4]
          simp -implicitDefEqProofs only [e_nm, e_int, e_str, e_bl, e_non, e_glb, e_bin, e_neg, e_cmp, t_cmp, chn_if, e_chn, t_chn, e_and, e_or, t_and, t_or, e_not, t_not, e_ite, e_lst, e_tup, e_idx, e_slc, e_call, e_bi, e_rl1, e_rl2, e_isi, e_me, e_mu, t_nm, t_bl, t_idx, t_call, t_bi, t_isi, t_lc, t_bin, ds_nil, ds_cons, os_nil, os_cons, oi_none, oi_some, c_none, c_some, i_op, as_nm, as_mv, x_nil, x_cons, x_set, x_setF, x_setT, x_par, x_sub, x_expr, x_ret, x_if, x_raise, x_pass, x_brk, x_cont, x_tryC, bind_ok, bind_exc, map_ok, map_exc, of_some, bind_ite, map_ite, endR_ite, dflT, asT, asD, frz, ofB, cmpB, takeSlot, moveSlot, slotT, Opd.see, sees, T.view, truthD, cmpD, eqD, scalD, binD, negD, isKd, callF, takeA, putA, startR, endR_rt, endR_nx, endR_exc, backs, evB, evT, evD, evO, List.map_cons, List.map_nil, List.length_cons, List.length_nil, List.cons_append, List.nil_append, List.append_nil, List.set_cons_zero, List.set_cons_succ, List.getElem?_cons_zero, List.getElem?_cons_succ, List.replicate_zero, List.replicate_succ, Option.join_some, Option.join_none, Option.bind_some, Option.bind_none, Option.map_some, Option.map_none, Nat.reduceAdd, Nat.reduceSub, Nat.sub_self, List.any_cons, List.any_nil, Bool.or_false, Bool.false_or, Bool.or_true, Bool.true_or, Bool.and_true, Bool.true_and, Bool.and_false, Bool.false_and, Bool.not_true, Bool.not_false, Bool.false_eq_true, reduceIte, reduceCtorEq, decide_eq_true_eq, Bool.not_eq_true', decide_eq_false_iff_not, sz_eq, Nat.reduceLeDiff, isOl, subFin, muFin, muD, setFin, setMany, parFin, idxD, slcD, bi_len, bi_lenT, bi_abs, bi_int, bi_list, bi_listT, bi_max2, bi_min2, Ss.sets, S.sets, Tg.is, List.mem_cons, List.not_mem_nil, or_false, or_true, false_or, true_or, List.mem_append, List.append_assoc, List.append_eq, g1, g2, g3, g4, c1, c2, c3, c4, List.length_map, decide_true, decide_false]
      · rw [decide_eq_false c3]
        simp -implicitDefEqProofs only [e_nm, e_int, e_str, e_bl, e_non, e_glb, e_bin, e_neg, e_cmp, t_cmp, chn_if, e_chn, t_chn, e_and, e_or, t_and, t_or, e_not, t_not, e_ite, e_lst, e_tup, e_idx, e_slc, e_call, e_bi, e_rl1, e_rl2, e_isi, e_me, e_mu, t_nm, t_bl, t_idx, t_call, t_bi, t_isi, t_lc, t_bin, ds_nil, ds_cons, os_nil, os_cons, oi_none, oi_some, c_none, c_some, i_op, as_nm, as_mv, x_nil, x_cons, x_set, x_setF, x_setT, x_par, x_sub, x_expr, x_ret, x_if, x_raise, x_pass, x_brk, x_cont, x_tryC, bind_ok, bind_exc, map_ok, map_exc, of_some, bind_ite, map_ite, endR_ite, dflT, asT, asD, frz, ofB, cmpB, takeSlot, moveSlot, slotT, Opd.see, sees, T.view, truthD, cmpD, eqD, scalD, binD, negD, isKd, callF, takeA, putA, startR, endR_rt, endR_nx, endR_exc, backs, evB, evT, evD, evO, List.map_cons, List.map_nil, List.length_cons, List.length_nil, List.cons_append, List.nil_append, List.append_nil, List.set_cons_zero, List.set_cons_succ, List.getElem?_cons_zero, List.getElem?_cons_succ, List.replicate_zero, List.replicate_succ, Option.join_some, Option.join_none, Option.bind_some, Option.bind_none, Option.map_some, Option.map_none, Nat.reduceAdd, Nat.reduceSub, Nat.sub_self, List.any_cons, List.any_nil, Bool.or_false, Bool.false_or, Bool.or_true, Bool.true_or, Bool.and_true, Bool.true_and, Bool.and_false, Bool.false_and, Bool.not_true, Bool.not_false, Bool.false_eq_true, reduceIte, reduceCtorEq, decide_eq_true_eq, Bool.not_eq_true', decide_eq_false_iff_not, sz_eq, Nat.reduceLeDiff, isOl, subFin, muFin, muD, setFin, setMany, parFin, idxD, slcD, bi_len, bi_lenT, bi_abs, bi_int, bi_list, bi_listT, bi_max2, bi_min2, Ss.sets, S.sets, Tg.is, List.mem_cons, List.not_mem_nil, or_false, or_true, false_or, true_or, List.mem_append, List.append_assoc, List.append_eq, g1, g2, g3, g4, c1, c2, c3, List.length_map, decide_true, decide_false]
    · rw [decide_eq_false c2]
      simp -implicitDefEqProofs only [e_nm, e_int, e_str, e_bl, e_non, e_glb, e_bin, e_neg, e_cmp, t_cmp, chn_if, e_chn, t_chn, e_and, e_or, t_and, t_or, e_not, t_not, e_ite, e_lst, e_tup, e_idx, e_slc, e_call, e_bi, e_rl1, e_rl2, e_isi, e_me, e_mu, t_nm, t_bl, t_idx, t_call, t_bi, t_isi, t_lc, t_bin, ds_nil, ds_cons, os_nil, os_cons, oi_none, oi_some, c_none, c_some, i_op, as_nm, as_mv, x_nil, x_cons, x_set, x_setF, x_setT, x_par, x_sub, x_expr, x_ret, x_if, x_raise, x_pass, x_brk, x_cont, x_tryC, bind_ok, bind_exc, map_ok, map_exc, of_some, bind_ite, map_ite, endR_ite, dflT, asT, asD, frz, ofB, cmpB, takeSlot, moveSlot, slotT, Opd.see, sees, T.view, truthD, cmpD, eqD, scalD, binD, negD, isKd, callF, takeA, putA, startR, endR_rt, endR_nx, endR_exc, backs, evB, evT, evD, evO, List.map_cons, List.map_nil, List.length_cons, List.length_nil, List.cons_append, List.nil_append, List.append_nil, List.set_cons_zero, List.set_cons_succ, List.getElem?_cons_zero, List.getElem?_cons_succ, List.replicate_zero, List.replicate_succ, Option.join_some, Option.join_none, Option.bind_some, Option.bind_none, Option.map_some, Option.map_none, Nat.reduceAdd, Nat.reduceSub, Nat.sub_self, List.any_cons, List.any_nil, Bool.or_false, Bool.false_or, Bool.or_true, Bool.true_or, Bool.and_true, Bool.true_and, Bool.and_false, Bool.false_and, Bool.not_true, Bool.not_false, Bool.false_eq_true, reduceIte, reduceCtorEq, decide_eq_true_eq, Bool.not_eq_true', decide_eq_false_iff_not, sz_eq, Nat.reduceLeDiff, isOl, subFin, muFin, muD, setFin, setMany, parFin, idxD, slcD, bi_len, bi_lenT, bi_abs, bi_int, bi_list, bi_listT, bi_max2, bi_min2, Ss.sets, S.sets, Tg.is, List.mem_cons, List.not_mem_nil, or_false, or_true, false_or, true_or, List.mem_append, List.append_assoc, List.append_eq, g1, g2, g3, g4, c1, c2, List.length_map, decide_true, decide_false]
  · rw [decide_eq_false c1]
    simp -implicitDefEqProofs only [e_nm, e_int, e_str, e_bl, e_non, e_glb, e_bin, e_neg, e_cmp, t_cmp, chn_if, e_chn, t_chn, e_and, e_or, t_and, t_or, e_not, t_not, e_ite, e_lst, e_tup, e_idx, e_slc, e_call, e_bi, e_rl1, e_rl2, e_isi, e_me, e_mu, t_nm, t_bl, t_idx, t_call, t_bi, t_isi, t_lc, t_bin, ds_nil, ds_cons, os_nil, os_cons, oi_none, oi_some, c_none, c_some, i_op, as_nm, as_mv, x_nil, x_cons, x_set, x_setF, x_setT, x_par, x_sub, x_expr, x_ret, x_if, x_raise, x_pass, x_brk, x_cont, x_tryC, bind_ok, bind_exc, map_ok, map_exc, of_some, bind_ite, map_ite, endR_ite, dflT, asT, asD, frz, ofB, cmpB, takeSlot, moveSlot, slotT, Opd.see, sees, T.view, truthD, cmpD, eqD, scalD, binD, negD, isKd, callF, takeA, putA, startR, endR_rt, endR_nx, endR_exc, backs, evB, evT, evD, evO, List.map_cons, List.map_nil, List.length_cons, List.length_nil, List.cons_append, List.nil_append, List.append_nil, List.set_cons_zero, List.set_cons_succ, List.getElem?_cons_zero, List.getElem?_cons_succ, List.replicate_zero, List.replicate_succ, Option.join_some, Option.join_none, Option.bind_some, Option.bind_none, Option.map_some, Option.map_none, Nat.reduceAdd, Nat.reduceSub, Nat.sub_self, List.any_cons, List.any_nil, Bool.or_false, Bool.false_or, Bool.or_true, Bool.true_or, Bool.and_true, Bool.true_and, Bool.and_false, Bool.false_and, Bool.not_true, Bool.not_false, Bool.false_eq_true, reduceIte, reduceCtorEq, decide_eq_true_eq, Bool.not_eq_true', decide_eq_false_iff_not, sz_eq, Nat.reduceLeDiff, isOl, subFin, muFin, muD, setFin, setMany, parFin, idxD, slcD, bi_len, bi_lenT, bi_abs, bi_int, bi_list, bi_listT, bi_max2, bi_min2, Ss.sets, S.sets, Tg.is, List.mem_cons, List.not_mem_nil, or_false, or_true, false_or, true_or, List.mem_append, List.append_assoc, List.append_eq, g1, g2, g3, g4, c1, List.length_map, decide_true, decide_false]
/-- one pair of a place and a number -/
theorem judged {a y : Int} (h : Rx ws b) (hk : 10 < m) : exSs (lev fs Bx m) (.cons (.setF 20 (.and_ (.chn .LtE .Lt (.int 0) (.nm 16) (.bi .len (.cons (.nm 2) .nil))) (.and_ (.chn .LtE .Lt (.int 1) (.nm 18) (.nm 3)) (.cmp .Eq (.bin .Mod (.bi .int (.cons (.bin .Mult (.nm 18) (.idx (.nm 2) (.nm 16))) .nil)) (.nm 3)) (.int 0))))) (.cons (.ifS (.not_ (.call "_law_same" (.cons (.call "judge_wrong" (.cons (.nm 2) (.cons (.nm 3) (.cons (.nm 16) (.cons (.nm 18) .nil)))) []) (.cons (.nm 20) .nil)) [])) (.cons (.ret (.bl false)) .nil) .nil) (.cons (.setF 20 (.and_ (.chn .LtE .Lt (.int 0) (.nm 16) (.bi .len (.cons (.nm 6) .nil))) (.and_ (.chn .LtE .Lt (.int 1) (.nm 18) (.nm 3)) (.cmp .Eq (.bin .Mod (.bi .int (.cons (.bin .Mult (.nm 18) (.idx (.nm 6) (.nm 16))) .nil)) (.nm 3)) (.int 0))))) (.cons (.ifS (.not_ (.call "_law_same" (.cons (.call "judge_exchange" (.cons (.nm 2) (.cons (.nm 3) (.cons (.nm 16) (.cons (.nm 18) .nil)))) []) (.cons (.nm 20) .nil)) [])) (.cons (.ret (.bl false)) .nil) .nil) .nil)))) (LT sc p ws b o4 o5 (some (.fz (il (steps ws)))) o7 o8 o9 o10 o11 o12 o13 o14 o15 (some (.fz (.int a))) o17 (some (.fz (.int y))) o19 o20) = .ok .nx (LT sc p ws b o4 o5 (some (.fz (il (steps ws)))) o7 o8 o9 o10 o11 o12 o13 o14 o15 (some (.fz (.int a))) o17 (some (.fz (.int y))) o19 (some (.fz (.bool (jw (steps ws) b a y))))) := by
  have h1 := h.1.1
  have h2 := h.1.2.1
  have f1 := fitE (Φ := lev fs Bx m) (ws := ws) (b := b) (i := 2) (a := a) (y := y) (ρ := LT sc p ws b o4 o5 (some (.fz (il (steps ws)))) o7 o8 o9 o10 o11 o12 o13 o14 o15 (some (.fz (.int a))) o17 (some (.fz (.int y))) o19 o20) rfl rfl rfl rfl (by omega)
  have f2 := fitE (Φ := lev fs Bx m) (ws := steps ws) (b := b) (i := 6) (a := a) (y := y) (ρ := LT sc p ws b o4 o5 (some (.fz (il (steps ws)))) o7 o8 o9 o10 o11 o12 o13 o14 o15 (some (.fz (.int a))) o17 (some (.fz (.int y))) o19 (some (.fz (.bool (jw ws b a y))))) rfl rfl rfl rfl (by omega)
  have j1 := s_judge (k := m) h.1 a y (by omega)
  have j2 := s_judgeE (k := m) h.1 a y (by omega)
  have sm := fun v => s_same (B := Bx) (k := m) (n := 1) (d := .bool v) (t1 := .fz (.bool v)) (t2 := .fz (.bool v)) (by omega) trivial rfl rfl
  have s0 : exS (lev fs Bx m) (.setF 20 (.and_ (.chn .LtE .Lt (.int 0) (.nm 16) (.bi .len (.cons (.nm 2) .nil))) (.and_ (.chn .LtE .Lt (.int 1) (.nm 18) (.nm 3)) (.cmp .Eq (.bin .Mod (.bi .int (.cons (.bin .Mult (.nm 18) (.idx (.nm 2) (.nm 16))) .nil)) (.nm 3)) (.int 0))))) (LT sc p ws b o4 o5 (some (.fz (il (steps ws)))) o7 o8 o9 o10 o11 o12 o13 o14 o15 (some (.fz (.int a))) o17 (some (.fz (.int y))) o19 o20) = .ok .nx (LT sc p ws b o4 o5 (some (.fz (il (steps ws)))) o7 o8 o9 o10 o11 o12 o13 o14 o15 (some (.fz (.int a))) o17 (some (.fz (.int y))) o19 (some (.fz (.bool (jw ws b a y))))) := by
    simp only [LT] at f1
    simp -implicitDefEqProofs only [LT, e_nm, e_int, e_str, e_bl, e_non, e_glb, e_bin, e_neg, e_cmp, t_cmp, chn_if, e_chn, t_chn, e_and, e_or, t_and, t_or, e_not, t_not, e_ite, e_lst, e_tup, e_idx, e_slc, e_call, e_bi, e_rl1, e_rl2, e_isi, e_me, e_mu, t_nm, t_bl, t_idx, t_call, t_bi, t_isi, t_lc, t_bin, ds_nil, ds_cons, os_nil, os_cons, oi_none, oi_some, c_none, c_some, i_op, as_nm, as_mv, x_nil, x_cons, x_set, x_setF, x_setT, x_par, x_sub, x_expr, x_ret, x_if, x_raise, x_pass, x_brk, x_cont, x_tryC, bind_ok, bind_exc, map_ok, map_exc, of_some, bind_ite, map_ite, endR_ite, dflT, asT, asD, frz, ofB, cmpB, takeSlot, moveSlot, slotT, Opd.see, sees, T.view, truthD, cmpD, eqD, scalD, binD, negD, isKd, callF, takeA, putA, startR, endR_rt, endR_nx, endR_exc, backs, evB, evT, evD, evO, List.map_cons, List.map_nil, List.length_cons, List.length_nil, List.cons_append, List.nil_append, List.append_nil, List.set_cons_zero, List.set_cons_succ, List.getElem?_cons_zero, List.getElem?_cons_succ, List.replicate_zero, List.replicate_succ, Option.join_some, Option.join_none, Option.bind_some, Option.bind_none, Option.map_some, Option.map_none, Nat.reduceAdd, Nat.reduceSub, Nat.sub_self, List.any_cons, List.any_nil, Bool.or_false, Bool.false_or, Bool.or_true, Bool.true_or, Bool.and_true, Bool.true_and, Bool.and_false, Bool.false_and, Bool.not_true, Bool.not_false, Bool.false_eq_true, reduceIte, reduceCtorEq, decide_eq_true_eq, Bool.not_eq_true', decide_eq_false_iff_not, sz_eq, Nat.reduceLeDiff, isOl, subFin, muFin, muD, setFin, setMany, parFin, idxD, slcD, bi_len, bi_lenT, bi_abs, bi_int, bi_list, bi_listT, bi_max2, bi_min2, Ss.sets, S.sets, Tg.is, List.mem_cons, List.not_mem_nil, or_false, or_true, false_or, true_or, List.mem_append, List.append_assoc, List.append_eq, f1]
  have s1 : exS (lev fs Bx m) (.ifS (.not_ (.call "_law_same" (.cons (.call "judge_wrong" (.cons (.nm 2) (.cons (.nm 3) (.cons (.nm 16) (.cons (.nm 18) .nil)))) []) (.cons (.nm 20) .nil)) [])) (.cons (.ret (.bl false)) .nil) .nil) (LT sc p ws b o4 o5 (some (.fz (il (steps ws)))) o7 o8 o9 o10 o11 o12 o13 o14 o15 (some (.fz (.int a))) o17 (some (.fz (.int y))) o19 (some (.fz (.bool (jw ws b a y))))) = .ok .nx (LT sc p ws b o4 o5 (some (.fz (il (steps ws)))) o7 o8 o9 o10 o11 o12 o13 o14 o15 (some (.fz (.int a))) o17 (some (.fz (.int y))) o19 (some (.fz (.bool (jw ws b a y))))) := by
    simp -implicitDefEqProofs only [LT, e_nm, e_int, e_str, e_bl, e_non, e_glb, e_bin, e_neg, e_cmp, t_cmp, chn_if, e_chn, t_chn, e_and, e_or, t_and, t_or, e_not, t_not, e_ite, e_lst, e_tup, e_idx, e_slc, e_call, e_bi, e_rl1, e_rl2, e_isi, e_me, e_mu, t_nm, t_bl, t_idx, t_call, t_bi, t_isi, t_lc, t_bin, ds_nil, ds_cons, os_nil, os_cons, oi_none, oi_some, c_none, c_some, i_op, as_nm, as_mv, x_nil, x_cons, x_set, x_setF, x_setT, x_par, x_sub, x_expr, x_ret, x_if, x_raise, x_pass, x_brk, x_cont, x_tryC, bind_ok, bind_exc, map_ok, map_exc, of_some, bind_ite, map_ite, endR_ite, dflT, asT, asD, frz, ofB, cmpB, takeSlot, moveSlot, slotT, Opd.see, sees, T.view, truthD, cmpD, eqD, scalD, binD, negD, isKd, callF, takeA, putA, startR, endR_rt, endR_nx, endR_exc, backs, evB, evT, evD, evO, List.map_cons, List.map_nil, List.length_cons, List.length_nil, List.cons_append, List.nil_append, List.append_nil, List.set_cons_zero, List.set_cons_succ, List.getElem?_cons_zero, List.getElem?_cons_succ, List.replicate_zero, List.replicate_succ, Option.join_some, Option.join_none, Option.bind_some, Option.bind_none, Option.map_some, Option.map_none, Nat.reduceAdd, Nat.reduceSub, Nat.sub_self, List.any_cons, List.any_nil, Bool.or_false, Bool.false_or, Bool.or_true, Bool.true_or, Bool.and_true, Bool.true_and, Bool.and_false, Bool.false_and, Bool.not_true, Bool.not_false, Bool.false_eq_true, reduceIte, reduceCtorEq, decide_eq_true_eq, Bool.not_eq_true', decide_eq_false_iff_not, sz_eq, Nat.reduceLeDiff, isOl, subFin, muFin, muD, setFin, setMany, parFin, idxD, slcD, bi_len, bi_lenT, bi_abs, bi_int, bi_list, bi_listT, bi_max2, bi_min2, Ss.sets, S.sets, Tg.is, List.mem_cons, List.not_mem_nil, or_false, or_true, false_or, true_or, List.mem_append, List.append_assoc, List.append_eq, j1, sm]
  have s2 : exS (lev fs Bx m) (.setF 20 (.and_ (.chn .LtE .Lt (.int 0) (.nm 16) (.bi .len (.cons (.nm 6) .nil))) (.and_ (.chn .LtE .Lt (.int 1) (.nm 18) (.nm 3)) (.cmp .Eq (.bin .Mod (.bi .int (.cons (.bin .Mult (.nm 18) (.idx (.nm 6) (.nm 16))) .nil)) (.nm 3)) (.int 0))))) (LT sc p ws b o4 o5 (some (.fz (il (steps ws)))) o7 o8 o9 o10 o11 o12 o13 o14 o15 (some (.fz (.int a))) o17 (some (.fz (.int y))) o19 (some (.fz (.bool (jw ws b a y))))) = .ok .nx (LT sc p ws b o4 o5 (some (.fz (il (steps ws)))) o7 o8 o9 o10 o11 o12 o13 o14 o15 (some (.fz (.int a))) o17 (some (.fz (.int y))) o19 (some (.fz (.bool (jw (steps ws) b a y))))) := by
    simp only [LT] at f2
    simp -implicitDefEqProofs only [LT, e_nm, e_int, e_str, e_bl, e_non, e_glb, e_bin, e_neg, e_cmp, t_cmp, chn_if, e_chn, t_chn, e_and, e_or, t_and, t_or, e_not, t_not, e_ite, e_lst, e_tup, e_idx, e_slc, e_call, e_bi, e_rl1, e_rl2, e_isi, e_me, e_mu, t_nm, t_bl, t_idx, t_call, t_bi, t_isi, t_lc, t_bin, ds_nil, ds_cons, os_nil, os_cons, oi_none, oi_some, c_none, c_some, i_op, as_nm, as_mv, x_nil, x_cons, x_set, x_setF, x_setT, x_par, x_sub, x_expr, x_ret, x_if, x_raise, x_pass, x_brk, x_cont, x_tryC, bind_ok, bind_exc, map_ok, map_exc, of_some, bind_ite, map_ite, endR_ite, dflT, asT, asD, frz, ofB, cmpB, takeSlot, moveSlot, slotT, Opd.see, sees, T.view, truthD, cmpD, eqD, scalD, binD, negD, isKd, callF, takeA, putA, startR, endR_rt, endR_nx, endR_exc, backs, evB, evT, evD, evO, List.map_cons, List.map_nil, List.length_cons, List.length_nil, List.cons_append, List.nil_append, List.append_nil, List.set_cons_zero, List.set_cons_succ, List.getElem?_cons_zero, List.getElem?_cons_succ, List.replicate_zero, List.replicate_succ, Option.join_some, Option.join_none, Option.bind_some, Option.bind_none, Option.map_some, Option.map_none, Nat.reduceAdd, Nat.reduceSub, Nat.sub_self, List.any_cons, List.any_nil, Bool.or_false, Bool.false_or, Bool.or_true, Bool.true_or, Bool.and_true, Bool.true_and, Bool.and_false, Bool.false_and, Bool.not_true, Bool.not_false, Bool.false_eq_true, reduceIte, reduceCtorEq, decide_eq_true_eq, Bool.not_eq_true', decide_eq_false_iff_not, sz_eq, Nat.reduceLeDiff, isOl, subFin, muFin, muD, setFin, setMany, parFin, idxD, slcD, bi_len, bi_lenT, bi_abs, bi_int, bi_list, bi_listT, bi_max2, bi_min2, Ss.sets, S.sets, Tg.is, List.mem_cons, List.not_mem_nil, or_false, or_true, false_or, true_or, List.mem_append, List.append_assoc, List.append_eq, f2]
  have s3 : exS (lev fs Bx m) (.ifS (.not_ (.call "_law_same" (.cons (.call "judge_exchange" (.cons (.nm 2) (.cons (.nm 3) (.cons (.nm 16) (.cons (.nm 18) .nil)))) []) (.cons (.nm 20) .nil)) [])) (.cons (.ret (.bl false)) .nil) .nil) (LT sc p ws b o4 o5 (some (.fz (il (steps ws)))) o7 o8 o9 o10 o11 o12 o13 o14 o15 (some (.fz (.int a))) o17 (some (.fz (.int y))) o19 (some (.fz (.bool (jw (steps ws) b a y))))) = .ok .nx (LT sc p ws b o4 o5 (some (.fz (il (steps ws)))) o7 o8 o9 o10 o11 o12 o13 o14 o15 (some (.fz (.int a))) o17 (some (.fz (.int y))) o19 (some (.fz (.bool (jw (steps ws) b a y))))) := by
    simp -implicitDefEqProofs only [LT, e_nm, e_int, e_str, e_bl, e_non, e_glb, e_bin, e_neg, e_cmp, t_cmp, chn_if, e_chn, t_chn, e_and, e_or, t_and, t_or, e_not, t_not, e_ite, e_lst, e_tup, e_idx, e_slc, e_call, e_bi, e_rl1, e_rl2, e_isi, e_me, e_mu, t_nm, t_bl, t_idx, t_call, t_bi, t_isi, t_lc, t_bin, ds_nil, ds_cons, os_nil, os_cons, oi_none, oi_some, c_none, c_some, i_op, as_nm, as_mv, x_nil, x_cons, x_set, x_setF, x_setT, x_par, x_sub, x_expr, x_ret, x_if, x_raise, x_pass, x_brk, x_cont, x_tryC, bind_ok, bind_exc, map_ok, map_exc, of_some, bind_ite, map_ite, endR_ite, dflT, asT, asD, frz, ofB, cmpB, takeSlot, moveSlot, slotT, Opd.see, sees, T.view, truthD, cmpD, eqD, scalD, binD, negD, isKd, callF, takeA, putA, startR, endR_rt, endR_nx, endR_exc, backs, evB, evT, evD, evO, List.map_cons, List.map_nil, List.length_cons, List.length_nil, List.cons_append, List.nil_append, List.append_nil, List.set_cons_zero, List.set_cons_succ, List.getElem?_cons_zero, List.getElem?_cons_succ, List.replicate_zero, List.replicate_succ, Option.join_some, Option.join_none, Option.bind_some, Option.bind_none, Option.map_some, Option.map_none, Nat.reduceAdd, Nat.reduceSub, Nat.sub_self, List.any_cons, List.any_nil, Bool.or_false, Bool.false_or, Bool.or_true, Bool.true_or, Bool.and_true, Bool.true_and, Bool.and_false, Bool.false_and, Bool.not_true, Bool.not_false, Bool.false_eq_true, reduceIte, reduceCtorEq, decide_eq_true_eq, Bool.not_eq_true', decide_eq_false_iff_not, sz_eq, Nat.reduceLeDiff, isOl, subFin, muFin, muD, setFin, setMany, parFin, idxD, slcD, bi_len, bi_lenT, bi_abs, bi_int, bi_list, bi_listT, bi_max2, bi_min2, Ss.sets, S.sets, Tg.is, List.mem_cons, List.not_mem_nil, or_false, or_true, false_or, true_or, List.mem_append, List.append_assoc, List.append_eq, j2, sm]
  rw [seq_nx s0, seq_nx s1, seq_nx s2, seq_nx s3]
  exact x_nil _
end
end L2.Eng.K58

namespace L2.Eng.K58
open PySem
theorem scan_true {α : Type} {I : Rho → Prop} {t : T} {l : List α} {r : R Fl} (h : Scan I t (l.all fun _ => true) r) : ∃ ρ, r = .ok .nx ρ ∧ I ρ := by
  rcases h with ⟨_, h⟩ | ⟨e, _⟩
  · exact h
  · rw [List.all_eq_true.mpr (fun _ _ => rfl)] at e
    cases e
theorem scan_ok {I : Rho → Prop} {t : T} {r : R Fl} (h : ∃ ρ, r = .ok .nx ρ ∧ I ρ) : Scan I t true r := .inl ⟨rfl, h⟩
section
variable {k m : Nat} {sc : T} {p : List D} {ws : List Int} {b : Nat} {o4 o5 o6 o7 o8 o9 o10 o11 o12 o13 o14 o15 o16 o17 o18 o19 o20 : Option T}
/-- all places and numbers of a rule -/
theorem judges (hp : Pool p) (h : Rx ws b) (hk : 10 < m) : ∃ p' o16' o18' o20', Pool p' ∧ exS (lev fs Bx m) (.for_ (.one 16) (.rng2 (.neg (.int 1)) (.bin .Add (.bi .len (.cons (.nm 2) .nil)) (.int 1))) (.cons (.for_ (.one 18) (.opd (.lst (.cons (.int 0) (.cons (.int 1) (.cons (.bin .Sub (.nm 3) (.int 1)) (.cons (.nm 3) (.cons (.call "_law_draw" (.cons (.nm 1) (.cons (.nm 3) .nil)) []) .nil))))))) (.cons (.setF 20 (.and_ (.chn .LtE .Lt (.int 0) (.nm 16) (.bi .len (.cons (.nm 2) .nil))) (.and_ (.chn .LtE .Lt (.int 1) (.nm 18) (.nm 3)) (.cmp .Eq (.bin .Mod (.bi .int (.cons (.bin .Mult (.nm 18) (.idx (.nm 2) (.nm 16))) .nil)) (.nm 3)) (.int 0))))) (.cons (.ifS (.not_ (.call "_law_same" (.cons (.call "judge_wrong" (.cons (.nm 2) (.cons (.nm 3) (.cons (.nm 16) (.cons (.nm 18) .nil)))) []) (.cons (.nm 20) .nil)) [])) (.cons (.ret (.bl false)) .nil) .nil) (.cons (.setF 20 (.and_ (.chn .LtE .Lt (.int 0) (.nm 16) (.bi .len (.cons (.nm 6) .nil))) (.and_ (.chn .LtE .Lt (.int 1) (.nm 18) (.nm 3)) (.cmp .Eq (.bin .Mod (.bi .int (.cons (.bin .Mult (.nm 18) (.idx (.nm 6) (.nm 16))) .nil)) (.nm 3)) (.int 0))))) (.cons (.ifS (.not_ (.call "_law_same" (.cons (.call "judge_exchange" (.cons (.nm 2) (.cons (.nm 3) (.cons (.nm 16) (.cons (.nm 18) .nil)))) []) (.cons (.nm 20) .nil)) [])) (.cons (.ret (.bl false)) .nil) .nil) .nil))))) .nil)) (LT sc p ws b o4 o5 (some (.fz (il (steps ws)))) o7 o8 o9 o10 o11 o12 o13 o14 o15 o16 o17 o18 o19 o20) = .ok .nx (LT sc p' ws b o4 o5 (some (.fz (il (steps ws)))) o7 o8 o9 o10 o11 o12 o13 o14 o15 o16' o17 o18' o19 o20') := by
  have h1 := h.1.1
  have h2 := h.1.2.1
  have h4 := h.1.2.2.2.1
  have sc1 : Scan (fun ρ => ∃ p' o16' o18' o20', Pool p' ∧ ρ = LT sc p' ws b o4 o5 (some (.fz (il (steps ws)))) o7 o8 o9 o10 o11 o12 o13 o14 o15 o16' o17 o18' o19 o20') (.fz (.bool false)) ((List.range ((ws.length : Int) + 1 - (-1)).toNat).all fun _ => true) (exS (lev fs Bx m) (.for_ (.one 16) (.rng2 (.neg (.int 1)) (.bin .Add (.bi .len (.cons (.nm 2) .nil)) (.int 1))) (.cons (.for_ (.one 18) (.opd (.lst (.cons (.int 0) (.cons (.int 1) (.cons (.bin .Sub (.nm 3) (.int 1)) (.cons (.nm 3) (.cons (.call "_law_draw" (.cons (.nm 1) (.cons (.nm 3) .nil)) []) .nil))))))) (.cons (.setF 20 (.and_ (.chn .LtE .Lt (.int 0) (.nm 16) (.bi .len (.cons (.nm 2) .nil))) (.and_ (.chn .LtE .Lt (.int 1) (.nm 18) (.nm 3)) (.cmp .Eq (.bin .Mod (.bi .int (.cons (.bin .Mult (.nm 18) (.idx (.nm 2) (.nm 16))) .nil)) (.nm 3)) (.int 0))))) (.cons (.ifS (.not_ (.call "_law_same" (.cons (.call "judge_wrong" (.cons (.nm 2) (.cons (.nm 3) (.cons (.nm 16) (.cons (.nm 18) .nil)))) []) (.cons (.nm 20) .nil)) [])) (.cons (.ret (.bl false)) .nil) .nil) (.cons (.setF 20 (.and_ (.chn .LtE .Lt (.int 0) (.nm 16) (.bi .len (.cons (.nm 6) .nil))) (.and_ (.chn .LtE .Lt (.int 1) (.nm 18) (.nm 3)) (.cmp .Eq (.bin .Mod (.bi .int (.cons (.bin .Mult (.nm 18) (.idx (.nm 6) (.nm 16))) .nil)) (.nm 3)) (.int 0))))) (.cons (.ifS (.not_ (.call "_law_same" (.cons (.call "judge_exchange" (.cons (.nm 2) (.cons (.nm 3) (.cons (.nm 16) (.cons (.nm 18) .nil)))) []) (.cons (.nm 20) .nil)) [])) (.cons (.ret (.bl false)) .nil) .nil) .nil))))) .nil)) (LT sc p ws b o4 o5 (some (.fz (il (steps ws)))) o7 o8 o9 o10 o11 o12 o13 o14 o15 o16 o17 o18 o19 o20)) := by
    refine scan_r2 (x := .tmp (.fz (.int (-1)))) (y := .tmp (.fz (.int ((ws.length : Int) + 1)))) (ρ1 := LT sc p ws b o4 o5 (some (.fz (il (steps ws)))) o7 o8 o9 o10 o11 o12 o13 o14 o15 o16 o17 o18 o19 o20) (ρ2 := LT sc p ws b o4 o5 (some (.fz (il (steps ws)))) o7 o8 o9 o10 o11 o12 o13 o14 o15 o16 o17 o18 o19 o20) _ rfl (by simp -implicitDefEqProofs only [LT, e_nm, e_int, e_str, e_bl, e_non, e_glb, e_bin, e_neg, e_cmp, t_cmp, chn_if, e_chn, t_chn, e_and, e_or, t_and, t_or, e_not, t_not, e_ite, e_lst, e_tup, e_idx, e_slc, e_call, e_bi, e_rl1, e_rl2, e_isi, e_me, e_mu, t_nm, t_bl, t_idx, t_call, t_bi, t_isi, t_lc, t_bin, ds_nil, ds_cons, os_nil, os_cons, oi_none, oi_some, c_none, c_some, i_op, as_nm, as_mv, x_nil, x_cons, x_set, x_setF, x_setT, x_par, x_sub, x_expr, x_ret, x_if, x_raise, x_pass, x_brk, x_cont, x_tryC, bind_ok, bind_exc, map_ok, map_exc, of_some, bind_ite, map_ite, endR_ite, dflT, asT, asD, frz, ofB, cmpB, takeSlot, moveSlot, slotT, Opd.see, sees, T.view, truthD, cmpD, eqD, scalD, binD, negD, isKd, callF, takeA, putA, startR, endR_rt, endR_nx, endR_exc, backs, evB, evT, evD, evO, List.map_cons, List.map_nil, List.length_cons, List.length_nil, List.cons_append, List.nil_append, List.append_nil, List.set_cons_zero, List.set_cons_succ, List.getElem?_cons_zero, List.getElem?_cons_succ, List.replicate_zero, List.replicate_succ, Option.join_some, Option.join_none, Option.bind_some, Option.bind_none, Option.map_some, Option.map_none, Nat.reduceAdd, Nat.reduceSub, Nat.sub_self, List.any_cons, List.any_nil, Bool.or_false, Bool.false_or, Bool.or_true, Bool.true_or, Bool.and_true, Bool.true_and, Bool.and_false, Bool.false_and, Bool.not_true, Bool.not_false, Bool.false_eq_true, reduceIte, reduceCtorEq, decide_eq_true_eq, Bool.not_eq_true', decide_eq_false_iff_not, sz_eq, Nat.reduceLeDiff, isOl, subFin, muFin, muD, setFin, setMany, parFin, idxD, slcD, bi_len, bi_lenT, bi_abs, bi_int, bi_list, bi_listT, bi_max2, bi_min2, Ss.sets, S.sets, Tg.is, List.mem_cons, List.not_mem_nil, or_false, or_true, false_or, true_or, List.mem_append, List.append_assoc, List.append_eq, List.length_map]) rfl rfl (by omega) (by omega) ⟨p, o16, o18, o20, hp, rfl⟩ ?_
    rintro i _ hi ⟨p1, o16', o18', o20', hp1, rfl⟩
    obtain ⟨r, p2, hp2, r0, r1, d⟩ := s_draw hp1 (m := (b : Int)) (by omega) (by omega)
    have d := d Bx m (by omega)
    refine scan_last (scan_ok ?_)
    have five : (ev2 (lev fs Bx m) (.lst (.cons (.int 0) (.cons (.int 1) (.cons (.bin .Sub (.nm 3) (.int 1)) (.cons (.nm 3) (.cons (.call "_law_draw" (.cons (.nm 1) (.cons (.nm 3) .nil)) []) .nil))))))).1 (LT sc p1 ws b o4 o5 (some (.fz (il (steps ws)))) o7 o8 o9 o10 o11 o12 o13 o14 o15 (some (.fz (.int (-1 + (i : Int))))) o17 o18' o19 o20') = .ok (.tmp (.ol ([0, 1, (b : Int) - 1, b, r].map PyData.int))) (LT sc p2 ws b o4 o5 (some (.fz (il (steps ws)))) o7 o8 o9 o10 o11 o12 o13 o14 o15 (some (.fz (.int (-1 + (i : Int))))) o17 o18' o19 o20') := by
      simp -implicitDefEqProofs only [LT, e_nm, e_int, e_str, e_bl, e_non, e_glb, e_bin, e_neg, e_cmp, t_cmp, chn_if, e_chn, t_chn, e_and, e_or, t_and, t_or, e_not, t_not, e_ite, e_lst, e_tup, e_idx, e_slc, e_call, e_bi, e_rl1, e_rl2, e_isi, e_me, e_mu, t_nm, t_bl, t_idx, t_call, t_bi, t_isi, t_lc, t_bin, ds_nil, ds_cons, os_nil, os_cons, oi_none, oi_some, c_none, c_some, i_op, as_nm, as_mv, x_nil, x_cons, x_set, x_setF, x_setT, x_par, x_sub, x_expr, x_ret, x_if, x_raise, x_pass, x_brk, x_cont, x_tryC, bind_ok, bind_exc, map_ok, map_exc, of_some, bind_ite, map_ite, endR_ite, dflT, asT, asD, frz, ofB, cmpB, takeSlot, moveSlot, slotT, Opd.see, sees, T.view, truthD, cmpD, eqD, scalD, binD, negD, isKd, callF, takeA, putA, startR, endR_rt, endR_nx, endR_exc, backs, evB, evT, evD, evO, List.map_cons, List.map_nil, List.length_cons, List.length_nil, List.cons_append, List.nil_append, List.append_nil, List.set_cons_zero, List.set_cons_succ, List.getElem?_cons_zero, List.getElem?_cons_succ, List.replicate_zero, List.replicate_succ, Option.join_some, Option.join_none, Option.bind_some, Option.bind_none, Option.map_some, Option.map_none, Nat.reduceAdd, Nat.reduceSub, Nat.sub_self, List.any_cons, List.any_nil, Bool.or_false, Bool.false_or, Bool.or_true, Bool.true_or, Bool.and_true, Bool.true_and, Bool.and_false, Bool.false_and, Bool.not_true, Bool.not_false, Bool.false_eq_true, reduceIte, reduceCtorEq, decide_eq_true_eq, Bool.not_eq_true', decide_eq_false_iff_not, sz_eq, Nat.reduceLeDiff, isOl, subFin, muFin, muD, setFin, setMany, parFin, idxD, slcD, bi_len, bi_lenT, bi_abs, bi_int, bi_list, bi_listT, bi_max2, bi_min2, Ss.sets, S.sets, Tg.is, List.mem_cons, List.not_mem_nil, or_false, or_true, false_or, true_or, List.mem_append, List.append_assoc, List.append_eq, d]
    have sc2 : Scan (fun ρ => ∃ o18' o20', ρ = LT sc p2 ws b o4 o5 (some (.fz (il (steps ws)))) o7 o8 o9 o10 o11 o12 o13 o14 o15 (some (.fz (.int (-1 + (i : Int))))) o17 o18' o19 o20') (.fz (.bool false)) ([0, 1, (b : Int) - 1, b, r].all fun _ => true) (exS (lev fs Bx m) (.for_ (.one 18) (.opd (.lst (.cons (.int 0) (.cons (.int 1) (.cons (.bin .Sub (.nm 3) (.int 1)) (.cons (.nm 3) (.cons (.call "_law_draw" (.cons (.nm 1) (.cons (.nm 3) .nil)) []) .nil))))))) (.cons (.setF 20 (.and_ (.chn .LtE .Lt (.int 0) (.nm 16) (.bi .len (.cons (.nm 2) .nil))) (.and_ (.chn .LtE .Lt (.int 1) (.nm 18) (.nm 3)) (.cmp .Eq (.bin .Mod (.bi .int (.cons (.bin .Mult (.nm 18) (.idx (.nm 2) (.nm 16))) .nil)) (.nm 3)) (.int 0))))) (.cons (.ifS (.not_ (.call "_law_same" (.cons (.call "judge_wrong" (.cons (.nm 2) (.cons (.nm 3) (.cons (.nm 16) (.cons (.nm 18) .nil)))) []) (.cons (.nm 20) .nil)) [])) (.cons (.ret (.bl false)) .nil) .nil) (.cons (.setF 20 (.and_ (.chn .LtE .Lt (.int 0) (.nm 16) (.bi .len (.cons (.nm 6) .nil))) (.and_ (.chn .LtE .Lt (.int 1) (.nm 18) (.nm 3)) (.cmp .Eq (.bin .Mod (.bi .int (.cons (.bin .Mult (.nm 18) (.idx (.nm 6) (.nm 16))) .nil)) (.nm 3)) (.int 0))))) (.cons (.ifS (.not_ (.call "_law_same" (.cons (.call "judge_exchange" (.cons (.nm 2) (.cons (.nm 3) (.cons (.nm 16) (.cons (.nm 18) .nil)))) []) (.cons (.nm 20) .nil)) [])) (.cons (.ret (.bl false)) .nil) .nil) .nil))))) (LT sc p1 ws b o4 o5 (some (.fz (il (steps ws)))) o7 o8 o9 o10 o11 o12 o13 o14 o15 (some (.fz (.int (-1 + (i : Int))))) o17 o18' o19 o20')) := by
      refine scan_lm (k := false) (rs := [0, 1, (b : Int) - 1, b, r]) (g := PyData.int) _ five rfl rfl rfl ⟨o18', o20', rfl⟩ (fun _ _ => rfl) ?_
      rintro y _ _ ⟨o18'', o20'', rfl⟩
      refine scan_ok ⟨_, judged (a := -1 + (i : Int)) (y := y) h hk, _, _, rfl⟩
    obtain ⟨ρ', e, o18'', o20'', rfl⟩ := scan_true sc2
    exact ⟨_, e, p2, _, _, _, hp2, rfl⟩
  obtain ⟨ρ', e, p', o16', o18', o20', hp', rfl⟩ := scan_true sc1
  exact ⟨p', o16', o18', o20', hp', e⟩
theorem first2 (h : Rx ws b) (hm : 10 < m) : (lev fs Bx m).call "_law_first" [.fz (il ws), .fz (.int b)] = .ok (.fz (hwD (fun i => prI (ws.getD i 0) b) ws.length)) [.fz (il ws), .fz (.int b)] :=
  s_first rfl (by have := h.1.1; omega) (by have := h.2; omega) h.1.2.2.2.2 (by have := h.1.2.2.2.1; omega) (by omega)
theorem first6 (h : Rx ws b) (hm : 10 < m) : (lev fs Bx m).call "_law_first" [.fz (il (steps ws)), .fz (.int b)] = .ok (.fz (hwD (fun i => prI ((steps ws).getD i 0) b) (steps ws).length)) [.fz (il (steps ws)), .fz (.int b)] :=
  s_first rfl (by have := h.1.1; omega) (by have := h.2; omega) (steps_rule h.1) (by rw [steps_len]; have := h.1.2.2.2.1; omega) (by omega)
/-- what a turn asks of a rule -/
theorem turnT (hp : Pool p) (h : Rx ws b) (hk : 10 < m) : ∃ p' o16' o18' o20', Pool p' ∧ exSs (lev fs Bx m) (.cons (.ifS (.or_ (.not_ (.call "_law_same" (.cons (.call "hidden_wrong" (.cons (.nm 2) (.cons (.nm 3) .nil)) []) (.cons (.call "_law_first" (.cons (.nm 2) (.cons (.nm 3) .nil)) []) .nil)) [])) (.not_ (.call "_law_same" (.cons (.call "hidden_exchange" (.cons (.nm 2) (.cons (.nm 3) .nil)) []) (.cons (.call "_law_first" (.cons (.nm 6) (.cons (.nm 3) .nil)) []) .nil)) []))) (.cons (.ret (.bl false)) .nil) .nil) (.cons (.ifS (.not_ (.call "_law_same" (.cons (.call "shows_wrong" (.cons (.nm 2) (.cons (.nm 3) .nil)) []) (.cons (.cmp .Is (.call "_law_first" (.cons (.nm 2) (.cons (.nm 3) .nil)) []) .non) .nil)) [])) (.cons (.ret (.bl false)) .nil) .nil) (.cons (.for_ (.one 16) (.rng2 (.neg (.int 1)) (.bin .Add (.bi .len (.cons (.nm 2) .nil)) (.int 1))) (.cons (.for_ (.one 18) (.opd (.lst (.cons (.int 0) (.cons (.int 1) (.cons (.bin .Sub (.nm 3) (.int 1)) (.cons (.nm 3) (.cons (.call "_law_draw" (.cons (.nm 1) (.cons (.nm 3) .nil)) []) .nil))))))) (.cons (.setF 20 (.and_ (.chn .LtE .Lt (.int 0) (.nm 16) (.bi .len (.cons (.nm 2) .nil))) (.and_ (.chn .LtE .Lt (.int 1) (.nm 18) (.nm 3)) (.cmp .Eq (.bin .Mod (.bi .int (.cons (.bin .Mult (.nm 18) (.idx (.nm 2) (.nm 16))) .nil)) (.nm 3)) (.int 0))))) (.cons (.ifS (.not_ (.call "_law_same" (.cons (.call "judge_wrong" (.cons (.nm 2) (.cons (.nm 3) (.cons (.nm 16) (.cons (.nm 18) .nil)))) []) (.cons (.nm 20) .nil)) [])) (.cons (.ret (.bl false)) .nil) .nil) (.cons (.setF 20 (.and_ (.chn .LtE .Lt (.int 0) (.nm 16) (.bi .len (.cons (.nm 6) .nil))) (.and_ (.chn .LtE .Lt (.int 1) (.nm 18) (.nm 3)) (.cmp .Eq (.bin .Mod (.bi .int (.cons (.bin .Mult (.nm 18) (.idx (.nm 6) (.nm 16))) .nil)) (.nm 3)) (.int 0))))) (.cons (.ifS (.not_ (.call "_law_same" (.cons (.call "judge_exchange" (.cons (.nm 2) (.cons (.nm 3) (.cons (.nm 16) (.cons (.nm 18) .nil)))) []) (.cons (.nm 20) .nil)) [])) (.cons (.ret (.bl false)) .nil) .nil) .nil))))) .nil)) .nil))) (LT sc p ws b o4 o5 (some (.fz (il (steps ws)))) o7 o8 o9 o10 o11 o12 o13 o14 o15 o16 o17 o18 o19 o20) = .ok .nx (LT sc p' ws b o4 o5 (some (.fz (il (steps ws)))) o7 o8 o9 o10 o11 o12 o13 o14 o15 o16' o17 o18' o19 o20') := by
  have f2 := first2 (m := m) h hk
  have f6 := first6 (m := m) h hk
  have hh := s_hidden (k := m) h.1 (by omega)
  have he := s_hiddenE (k := m) h.1 (by omega)
  have sh := s_shows (k := m) h.1 (by omega)
  have sm := fun (q : Nat → Option Int) n => s_same (B := Bx) (k := m) (n := 2) (d := hwD q n) (t1 := .fz (hwD q n)) (t2 := .fz (hwD q n)) (by omega) (good_hw q n) rfl rfl
  have sb := fun v => s_same (B := Bx) (k := m) (n := 1) (d := .bool v) (t1 := .fz (.bool v)) (t2 := .fz (.bool v)) (by omega) trivial rfl rfl
  have s1 : exS (lev fs Bx m) (.ifS (.or_ (.not_ (.call "_law_same" (.cons (.call "hidden_wrong" (.cons (.nm 2) (.cons (.nm 3) .nil)) []) (.cons (.call "_law_first" (.cons (.nm 2) (.cons (.nm 3) .nil)) []) .nil)) [])) (.not_ (.call "_law_same" (.cons (.call "hidden_exchange" (.cons (.nm 2) (.cons (.nm 3) .nil)) []) (.cons (.call "_law_first" (.cons (.nm 6) (.cons (.nm 3) .nil)) []) .nil)) []))) (.cons (.ret (.bl false)) .nil) .nil) (LT sc p ws b o4 o5 (some (.fz (il (steps ws)))) o7 o8 o9 o10 o11 o12 o13 o14 o15 o16 o17 o18 o19 o20) = .ok .nx (LT sc p ws b o4 o5 (some (.fz (il (steps ws)))) o7 o8 o9 o10 o11 o12 o13 o14 o15 o16 o17 o18 o19 o20) := by
    simp -implicitDefEqProofs only [LT, e_nm, e_int, e_str, e_bl, e_non, e_glb, e_bin, e_neg, e_cmp, t_cmp, chn_if, e_chn, t_chn, e_and, e_or, t_and, t_or, e_not, t_not, e_ite, e_lst, e_tup, e_idx, e_slc, e_call, e_bi, e_rl1, e_rl2, e_isi, e_me, e_mu, t_nm, t_bl, t_idx, t_call, t_bi, t_isi, t_lc, t_bin, ds_nil, ds_cons, os_nil, os_cons, oi_none, oi_some, c_none, c_some, i_op, as_nm, as_mv, x_nil, x_cons, x_set, x_setF, x_setT, x_par, x_sub, x_expr, x_ret, x_if, x_raise, x_pass, x_brk, x_cont, x_tryC, bind_ok, bind_exc, map_ok, map_exc, of_some, bind_ite, map_ite, endR_ite, dflT, asT, asD, frz, ofB, cmpB, takeSlot, moveSlot, slotT, Opd.see, sees, T.view, truthD, cmpD, eqD, scalD, binD, negD, isKd, callF, takeA, putA, startR, endR_rt, endR_nx, endR_exc, backs, evB, evT, evD, evO, List.map_cons, List.map_nil, List.length_cons, List.length_nil, List.cons_append, List.nil_append, List.append_nil, List.set_cons_zero, List.set_cons_succ, List.getElem?_cons_zero, List.getElem?_cons_succ, List.replicate_zero, List.replicate_succ, Option.join_some, Option.join_none, Option.bind_some, Option.bind_none, Option.map_some, Option.map_none, Nat.reduceAdd, Nat.reduceSub, Nat.sub_self, List.any_cons, List.any_nil, Bool.or_false, Bool.false_or, Bool.or_true, Bool.true_or, Bool.and_true, Bool.true_and, Bool.and_false, Bool.false_and, Bool.not_true, Bool.not_false, Bool.false_eq_true, reduceIte, reduceCtorEq, decide_eq_true_eq, Bool.not_eq_true', decide_eq_false_iff_not, sz_eq, Nat.reduceLeDiff, isOl, subFin, muFin, muD, setFin, setMany, parFin, idxD, slcD, bi_len, bi_lenT, bi_abs, bi_int, bi_list, bi_listT, bi_max2, bi_min2, Ss.sets, S.sets, Tg.is, List.mem_cons, List.not_mem_nil, or_false, or_true, false_or, true_or, List.mem_append, List.append_assoc, List.append_eq, hh, he, f2, f6, sm]
  have s2 : exS (lev fs Bx m) (.ifS (.not_ (.call "_law_same" (.cons (.call "shows_wrong" (.cons (.nm 2) (.cons (.nm 3) .nil)) []) (.cons (.cmp .Is (.call "_law_first" (.cons (.nm 2) (.cons (.nm 3) .nil)) []) .non) .nil)) [])) (.cons (.ret (.bl false)) .nil) .nil) (LT sc p ws b o4 o5 (some (.fz (il (steps ws)))) o7 o8 o9 o10 o11 o12 o13 o14 o15 o16 o17 o18 o19 o20) = .ok .nx (LT sc p ws b o4 o5 (some (.fz (il (steps ws)))) o7 o8 o9 o10 o11 o12 o13 o14 o15 o16 o17 o18 o19 o20) := by
    simp -implicitDefEqProofs only [LT, e_nm, e_int, e_str, e_bl, e_non, e_glb, e_bin, e_neg, e_cmp, t_cmp, chn_if, e_chn, t_chn, e_and, e_or, t_and, t_or, e_not, t_not, e_ite, e_lst, e_tup, e_idx, e_slc, e_call, e_bi, e_rl1, e_rl2, e_isi, e_me, e_mu, t_nm, t_bl, t_idx, t_call, t_bi, t_isi, t_lc, t_bin, ds_nil, ds_cons, os_nil, os_cons, oi_none, oi_some, c_none, c_some, i_op, as_nm, as_mv, x_nil, x_cons, x_set, x_setF, x_setT, x_par, x_sub, x_expr, x_ret, x_if, x_raise, x_pass, x_brk, x_cont, x_tryC, bind_ok, bind_exc, map_ok, map_exc, of_some, bind_ite, map_ite, endR_ite, dflT, asT, asD, frz, ofB, cmpB, takeSlot, moveSlot, slotT, Opd.see, sees, T.view, truthD, cmpD, eqD, scalD, binD, negD, isKd, callF, takeA, putA, startR, endR_rt, endR_nx, endR_exc, backs, evB, evT, evD, evO, List.map_cons, List.map_nil, List.length_cons, List.length_nil, List.cons_append, List.nil_append, List.append_nil, List.set_cons_zero, List.set_cons_succ, List.getElem?_cons_zero, List.getElem?_cons_succ, List.replicate_zero, List.replicate_succ, Option.join_some, Option.join_none, Option.bind_some, Option.bind_none, Option.map_some, Option.map_none, Nat.reduceAdd, Nat.reduceSub, Nat.sub_self, List.any_cons, List.any_nil, Bool.or_false, Bool.false_or, Bool.or_true, Bool.true_or, Bool.and_true, Bool.true_and, Bool.and_false, Bool.false_and, Bool.not_true, Bool.not_false, Bool.false_eq_true, reduceIte, reduceCtorEq, decide_eq_true_eq, Bool.not_eq_true', decide_eq_false_iff_not, sz_eq, Nat.reduceLeDiff, isOl, subFin, muFin, muD, setFin, setMany, parFin, idxD, slcD, bi_len, bi_lenT, bi_abs, bi_int, bi_list, bi_listT, bi_max2, bi_min2, Ss.sets, S.sets, Tg.is, List.mem_cons, List.not_mem_nil, or_false, or_true, false_or, true_or, List.mem_append, List.append_assoc, List.append_eq, sh, f2, non_hw, sb]
  obtain ⟨p', o16', o18', o20', hp', s3⟩ := judges (sc := sc) (p := p) (o4 := o4) (o5 := o5) (o7 := o7) (o8 := o8) (o9 := o9) (o10 := o10) (o11 := o11) (o12 := o12) (o13 := o13) (o14 := o14) (o15 := o15) (o16 := o16) (o17 := o17) (o18 := o18) (o19 := o19) (o20 := o20) hp h hk
  refine ⟨p', o16', o18', o20', hp', ?_⟩
  show exSs (lev fs Bx m) (.cons _ (.cons _ (.cons _ .nil))) _ = _
  rw [seq_nx s1, seq_nx s2, seq_nx s3]
  exact x_nil _
theorem draws (hp : Pool p) (hk : 10 < m) : ∃ ws' b' p', Pool p' ∧ Rx ws' b' ∧ exSs (lev fs Bx m) (.cons (.setT [2, 3] (.call "_law_rule" (.cons (.nm 1) (.cons (.int 8) (.cons (.int 30) .nil))) [])) (.cons (.setF 6 (.lc (.one 17) [17] (.rng1 (.bin .Sub (.bi .len (.cons (.nm 2) .nil)) (.int 1))) .none (.bi .abs (.cons (.bin .Sub (.idx (.nm 2) (.bin .Add (.nm 17) (.int 1))) (.idx (.nm 2) (.nm 17))) .nil)))) .nil)) (LT sc p ws b o4 o5 o6 o7 o8 o9 o10 o11 o12 o13 o14 o15 o16 o17 o18 o19 o20) = .ok .nx (LT sc p' ws' b' o4 o5 (some (.fz (il (steps ws')))) o7 o8 o9 o10 o11 o12 o13 o14 o15 o16 o17 o18 o19 o20) := by
  obtain ⟨ws', b', p', hp', hr, hl, hb, e⟩ := s_lrule (B := Bx) (k := m) (most := 8) (wide := 30) hp (by decide) (by decide) (by omega)
  have h1 := hr.2.2.1
  have h4 := hr.2.2.2.1
  have s0 : exS (lev fs Bx m) (.setT [2, 3] (.call "_law_rule" (.cons (.nm 1) (.cons (.int 8) (.cons (.int 30) .nil))) [])) (LT sc p ws b o4 o5 o6 o7 o8 o9 o10 o11 o12 o13 o14 o15 o16 o17 o18 o19 o20) = .ok .nx (LT sc p' ws' b' o4 o5 o6 o7 o8 o9 o10 o11 o12 o13 o14 o15 o16 o17 o18 o19 o20) := by
    rw [show (((8 : Nat) : Int)) = 8 from rfl, show (((30 : Nat) : Int)) = 30 from rfl] at e
    simp -implicitDefEqProofs only [LT, e_nm, e_int, e_str, e_bl, e_non, e_glb, e_bin, e_neg, e_cmp, t_cmp, chn_if, e_chn, t_chn, e_and, e_or, t_and, t_or, e_not, t_not, e_ite, e_lst, e_tup, e_idx, e_slc, e_call, e_bi, e_rl1, e_rl2, e_isi, e_me, e_mu, t_nm, t_bl, t_idx, t_call, t_bi, t_isi, t_lc, t_bin, ds_nil, ds_cons, os_nil, os_cons, oi_none, oi_some, c_none, c_some, i_op, as_nm, as_mv, x_nil, x_cons, x_set, x_setF, x_setT, x_par, x_sub, x_expr, x_ret, x_if, x_raise, x_pass, x_brk, x_cont, x_tryC, bind_ok, bind_exc, map_ok, map_exc, of_some, bind_ite, map_ite, endR_ite, dflT, asT, asD, frz, ofB, cmpB, takeSlot, moveSlot, slotT, Opd.see, sees, T.view, truthD, cmpD, eqD, scalD, binD, negD, isKd, callF, takeA, putA, startR, endR_rt, endR_nx, endR_exc, backs, evB, evT, evD, evO, List.map_cons, List.map_nil, List.length_cons, List.length_nil, List.cons_append, List.nil_append, List.append_nil, List.set_cons_zero, List.set_cons_succ, List.getElem?_cons_zero, List.getElem?_cons_succ, List.replicate_zero, List.replicate_succ, Option.join_some, Option.join_none, Option.bind_some, Option.bind_none, Option.map_some, Option.map_none, Nat.reduceAdd, Nat.reduceSub, Nat.sub_self, List.any_cons, List.any_nil, Bool.or_false, Bool.false_or, Bool.or_true, Bool.true_or, Bool.and_true, Bool.true_and, Bool.and_false, Bool.false_and, Bool.not_true, Bool.not_false, Bool.false_eq_true, reduceIte, reduceCtorEq, decide_eq_true_eq, Bool.not_eq_true', decide_eq_false_iff_not, sz_eq, Nat.reduceLeDiff, isOl, subFin, muFin, muD, setFin, setMany, parFin, idxD, slcD, bi_len, bi_lenT, bi_abs, bi_int, bi_list, bi_listT, bi_max2, bi_min2, Ss.sets, S.sets, Tg.is, List.mem_cons, List.not_mem_nil, or_false, or_true, false_or, true_or, List.mem_append, List.append_assoc, List.append_eq, e]
  have hx : (ev2 (lev fs Bx m) (.bin .Sub (.bi .len (.cons (.nm 2) .nil)) (.int 1))).1 (LT sc p' ws' b' o4 o5 o6 o7 o8 o9 o10 o11 o12 o13 o14 o15 o16 o17 o18 o19 o20) = .ok (.tmp (.fz (.int ((ws'.length : Int) - 1)))) (LT sc p' ws' b' o4 o5 o6 o7 o8 o9 o10 o11 o12 o13 o14 o15 o16 o17 o18 o19 o20) := by
    simp -implicitDefEqProofs only [LT, e_nm, e_int, e_str, e_bl, e_non, e_glb, e_bin, e_neg, e_cmp, t_cmp, chn_if, e_chn, t_chn, e_and, e_or, t_and, t_or, e_not, t_not, e_ite, e_lst, e_tup, e_idx, e_slc, e_call, e_bi, e_rl1, e_rl2, e_isi, e_me, e_mu, t_nm, t_bl, t_idx, t_call, t_bi, t_isi, t_lc, t_bin, ds_nil, ds_cons, os_nil, os_cons, oi_none, oi_some, c_none, c_some, i_op, as_nm, as_mv, x_nil, x_cons, x_set, x_setF, x_setT, x_par, x_sub, x_expr, x_ret, x_if, x_raise, x_pass, x_brk, x_cont, x_tryC, bind_ok, bind_exc, map_ok, map_exc, of_some, bind_ite, map_ite, endR_ite, dflT, asT, asD, frz, ofB, cmpB, takeSlot, moveSlot, slotT, Opd.see, sees, T.view, truthD, cmpD, eqD, scalD, binD, negD, isKd, callF, takeA, putA, startR, endR_rt, endR_nx, endR_exc, backs, evB, evT, evD, evO, List.map_cons, List.map_nil, List.length_cons, List.length_nil, List.cons_append, List.nil_append, List.append_nil, List.set_cons_zero, List.set_cons_succ, List.getElem?_cons_zero, List.getElem?_cons_succ, List.replicate_zero, List.replicate_succ, Option.join_some, Option.join_none, Option.bind_some, Option.bind_none, Option.map_some, Option.map_none, Nat.reduceAdd, Nat.reduceSub, Nat.sub_self, List.any_cons, List.any_nil, Bool.or_false, Bool.false_or, Bool.or_true, Bool.true_or, Bool.and_true, Bool.true_and, Bool.and_false, Bool.false_and, Bool.not_true, Bool.not_false, Bool.false_eq_true, reduceIte, reduceCtorEq, decide_eq_true_eq, Bool.not_eq_true', decide_eq_false_iff_not, sz_eq, Nat.reduceLeDiff, isOl, subFin, muFin, muD, setFin, setMany, parFin, idxD, slcD, bi_len, bi_lenT, bi_abs, bi_int, bi_list, bi_listT, bi_max2, bi_min2, Ss.sets, S.sets, Tg.is, List.mem_cons, List.not_mem_nil, or_false, or_true, false_or, true_or, List.mem_append, List.append_assoc, List.append_eq, List.length_map]
  have lc := stepsE (Φ := lev fs Bx m) (ws := ws') (i := 2) (j := 17) (ρ := LT sc p' ws' b' o4 o5 o6 o7 o8 o9 o10 o11 o12 o13 o14 o15 o16 o17 o18 o19 o20) rfl hx h1 (by omega) (by show 17 < 21; decide) (by decide)
  have s1 : exS (lev fs Bx m) (.setF 6 (.lc (.one 17) [17] (.rng1 (.bin .Sub (.bi .len (.cons (.nm 2) .nil)) (.int 1))) .none (.bi .abs (.cons (.bin .Sub (.idx (.nm 2) (.bin .Add (.nm 17) (.int 1))) (.idx (.nm 2) (.nm 17))) .nil)))) (LT sc p' ws' b' o4 o5 o6 o7 o8 o9 o10 o11 o12 o13 o14 o15 o16 o17 o18 o19 o20) = .ok .nx (LT sc p' ws' b' o4 o5 (some (.fz (il (steps ws')))) o7 o8 o9 o10 o11 o12 o13 o14 o15 o16 o17 o18 o19 o20) := by
    simp only [LT] at lc
    simp -implicitDefEqProofs only [LT, e_nm, e_int, e_str, e_bl, e_non, e_glb, e_bin, e_neg, e_cmp, t_cmp, chn_if, e_chn, t_chn, e_and, e_or, t_and, t_or, e_not, t_not, e_ite, e_lst, e_tup, e_idx, e_slc, e_call, e_bi, e_rl1, e_rl2, e_isi, e_me, e_mu, t_nm, t_bl, t_idx, t_call, t_bi, t_isi, t_lc, t_bin, ds_nil, ds_cons, os_nil, os_cons, oi_none, oi_some, c_none, c_some, i_op, as_nm, as_mv, x_nil, x_cons, x_set, x_setF, x_setT, x_par, x_sub, x_expr, x_ret, x_if, x_raise, x_pass, x_brk, x_cont, x_tryC, bind_ok, bind_exc, map_ok, map_exc, of_some, bind_ite, map_ite, endR_ite, dflT, asT, asD, frz, ofB, cmpB, takeSlot, moveSlot, slotT, Opd.see, sees, T.view, truthD, cmpD, eqD, scalD, binD, negD, isKd, callF, takeA, putA, startR, endR_rt, endR_nx, endR_exc, backs, evB, evT, evD, evO, List.map_cons, List.map_nil, List.length_cons, List.length_nil, List.cons_append, List.nil_append, List.append_nil, List.set_cons_zero, List.set_cons_succ, List.getElem?_cons_zero, List.getElem?_cons_succ, List.replicate_zero, List.replicate_succ, Option.join_some, Option.join_none, Option.bind_some, Option.bind_none, Option.map_some, Option.map_none, Nat.reduceAdd, Nat.reduceSub, Nat.sub_self, List.any_cons, List.any_nil, Bool.or_false, Bool.false_or, Bool.or_true, Bool.true_or, Bool.and_true, Bool.true_and, Bool.and_false, Bool.false_and, Bool.not_true, Bool.not_false, Bool.false_eq_true, reduceIte, reduceCtorEq, decide_eq_true_eq, Bool.not_eq_true', decide_eq_false_iff_not, sz_eq, Nat.reduceLeDiff, isOl, subFin, muFin, muD, setFin, setMany, parFin, idxD, slcD, bi_len, bi_lenT, bi_abs, bi_int, bi_list, bi_listT, bi_max2, bi_min2, Ss.sets, S.sets, Tg.is, List.mem_cons, List.not_mem_nil, or_false, or_true, false_or, true_or, List.mem_append, List.append_assoc, List.append_eq, lc]
  refine ⟨ws', b', p', hp', ⟨hr, by omega⟩, ?_⟩
  rw [seq_nx s0, seq_nx s1]
  exact x_nil _
/-- both turns -/
theorem turns (hp : Pool p) (h : Rx ws b) (hk : 10 < m) : ∃ ws' b' p' o8' o16' o18' o20', Pool p' ∧ Rx ws' b' ∧ exS (lev fs Bx m) (.for_ (.one 8) (.rng1 (.int 2)) (.cons (.ifS (.cmp .Eq (.nm 8) (.int 1)) (.cons (.setT [2, 3] (.call "_law_rule" (.cons (.nm 1) (.cons (.int 8) (.cons (.int 30) .nil))) [])) (.cons (.setF 6 (.lc (.one 17) [17] (.rng1 (.bin .Sub (.bi .len (.cons (.nm 2) .nil)) (.int 1))) .none (.bi .abs (.cons (.bin .Sub (.idx (.nm 2) (.bin .Add (.nm 17) (.int 1))) (.idx (.nm 2) (.nm 17))) .nil)))) .nil)) .nil) (.cons (.ifS (.or_ (.not_ (.call "_law_same" (.cons (.call "hidden_wrong" (.cons (.nm 2) (.cons (.nm 3) .nil)) []) (.cons (.call "_law_first" (.cons (.nm 2) (.cons (.nm 3) .nil)) []) .nil)) [])) (.not_ (.call "_law_same" (.cons (.call "hidden_exchange" (.cons (.nm 2) (.cons (.nm 3) .nil)) []) (.cons (.call "_law_first" (.cons (.nm 6) (.cons (.nm 3) .nil)) []) .nil)) []))) (.cons (.ret (.bl false)) .nil) .nil) (.cons (.ifS (.not_ (.call "_law_same" (.cons (.call "shows_wrong" (.cons (.nm 2) (.cons (.nm 3) .nil)) []) (.cons (.cmp .Is (.call "_law_first" (.cons (.nm 2) (.cons (.nm 3) .nil)) []) .non) .nil)) [])) (.cons (.ret (.bl false)) .nil) .nil) (.cons (.for_ (.one 16) (.rng2 (.neg (.int 1)) (.bin .Add (.bi .len (.cons (.nm 2) .nil)) (.int 1))) (.cons (.for_ (.one 18) (.opd (.lst (.cons (.int 0) (.cons (.int 1) (.cons (.bin .Sub (.nm 3) (.int 1)) (.cons (.nm 3) (.cons (.call "_law_draw" (.cons (.nm 1) (.cons (.nm 3) .nil)) []) .nil))))))) (.cons (.setF 20 (.and_ (.chn .LtE .Lt (.int 0) (.nm 16) (.bi .len (.cons (.nm 2) .nil))) (.and_ (.chn .LtE .Lt (.int 1) (.nm 18) (.nm 3)) (.cmp .Eq (.bin .Mod (.bi .int (.cons (.bin .Mult (.nm 18) (.idx (.nm 2) (.nm 16))) .nil)) (.nm 3)) (.int 0))))) (.cons (.ifS (.not_ (.call "_law_same" (.cons (.call "judge_wrong" (.cons (.nm 2) (.cons (.nm 3) (.cons (.nm 16) (.cons (.nm 18) .nil)))) []) (.cons (.nm 20) .nil)) [])) (.cons (.ret (.bl false)) .nil) .nil) (.cons (.setF 20 (.and_ (.chn .LtE .Lt (.int 0) (.nm 16) (.bi .len (.cons (.nm 6) .nil))) (.and_ (.chn .LtE .Lt (.int 1) (.nm 18) (.nm 3)) (.cmp .Eq (.bin .Mod (.bi .int (.cons (.bin .Mult (.nm 18) (.idx (.nm 6) (.nm 16))) .nil)) (.nm 3)) (.int 0))))) (.cons (.ifS (.not_ (.call "_law_same" (.cons (.call "judge_exchange" (.cons (.nm 2) (.cons (.nm 3) (.cons (.nm 16) (.cons (.nm 18) .nil)))) []) (.cons (.nm 20) .nil)) [])) (.cons (.ret (.bl false)) .nil) .nil) .nil))))) .nil)) .nil))))) (LT sc p ws b o4 o5 (some (.fz (il (steps ws)))) o7 o8 o9 o10 o11 o12 o13 o14 o15 o16 o17 o18 o19 o20) = .ok .nx (LT sc p' ws' b' o4 o5 (some (.fz (il (steps ws')))) o7 o8' o9 o10 o11 o12 o13 o14 o15 o16' o17 o18' o19 o20') := by
  refine for_r1p (x := .tmp (.fz (.int 2))) (n := 2) (fun i ρ => ∃ ws' b' p' o8' o16' o18' o20', Pool p' ∧ Rx ws' b' ∧ ρ = LT sc p' ws' b' o4 o5 (some (.fz (il (steps ws')))) o7 o8' o9 o10 o11 o12 o13 o14 o15 o16' o17 o18' o19 o20')
    (fun r => ∃ ws' b' p' o8' o16' o18' o20', Pool p' ∧ Rx ws' b' ∧ r = .ok .nx (LT sc p' ws' b' o4 o5 (some (.fz (il (steps ws')))) o7 o8' o9 o10 o11 o12 o13 o14 o15 o16' o17 o18' o19 o20')) rfl rfl (by decide) ⟨ws, b, p, o8, o16, o18, o20, hp, h, rfl⟩ ?_ ?_
  · rintro i _ hi ⟨ws', b', p', o8', o16', o18', o20', hp', h', rfl⟩
    have st : ∃ ws'' b'' p'', Pool p'' ∧ Rx ws'' b'' ∧ exS (lev fs Bx m) (.ifS (.cmp .Eq (.nm 8) (.int 1)) (.cons (.setT [2, 3] (.call "_law_rule" (.cons (.nm 1) (.cons (.int 8) (.cons (.int 30) .nil))) [])) (.cons (.setF 6 (.lc (.one 17) [17] (.rng1 (.bin .Sub (.bi .len (.cons (.nm 2) .nil)) (.int 1))) .none (.bi .abs (.cons (.bin .Sub (.idx (.nm 2) (.bin .Add (.nm 17) (.int 1))) (.idx (.nm 2) (.nm 17))) .nil)))) .nil)) .nil) (LT sc p' ws' b' o4 o5 (some (.fz (il (steps ws')))) o7 (some (.fz (.int i))) o9 o10 o11 o12 o13 o14 o15 o16' o17 o18' o19 o20') = .ok .nx (LT sc p'' ws'' b'' o4 o5 (some (.fz (il (steps ws'')))) o7 (some (.fz (.int i))) o9 o10 o11 o12 o13 o14 o15 o16' o17 o18' o19 o20') := by
      have c : ∀ v, (decide ((i : Int) = 1)) = v → (ev2 (lev fs Bx m) (.cmp .Eq (.nm 8) (.int 1))).2 (LT sc p' ws' b' o4 o5 (some (.fz (il (steps ws')))) o7 (some (.fz (.int i))) o9 o10 o11 o12 o13 o14 o15 o16' o17 o18' o19 o20') = .ok v (LT sc p' ws' b' o4 o5 (some (.fz (il (steps ws')))) o7 (some (.fz (.int i))) o9 o10 o11 o12 o13 o14 o15 o16' o17 o18' o19 o20') := fun v hv => by
        simp -implicitDefEqProofs only [LT, e_nm, e_int, e_str, e_bl, e_non, e_glb, e_bin, e_neg, e_cmp, t_cmp, chn_if, e_chn, t_chn, e_and, e_or, t_and, t_or, e_not, t_not, e_ite, e_lst, e_tup, e_idx, e_slc, e_call, e_bi, e_rl1, e_rl2, e_isi, e_me, e_mu, t_nm, t_bl, t_idx, t_call, t_bi, t_isi, t_lc, t_bin, ds_nil, ds_cons, os_nil, os_cons, oi_none, oi_some, c_none, c_some, i_op, as_nm, as_mv, x_nil, x_cons, x_set, x_setF, x_setT, x_par, x_sub, x_expr, x_ret, x_if, x_raise, x_pass, x_brk, x_cont, x_tryC, bind_ok, bind_exc, map_ok, map_exc, of_some, bind_ite, map_ite, endR_ite, dflT, asT, asD, frz, ofB, cmpB, takeSlot, moveSlot, slotT, Opd.see, sees, T.view, truthD, cmpD, eqD, scalD, binD, negD, isKd, callF, takeA, putA, startR, endR_rt, endR_nx, endR_exc, backs, evB, evT, evD, evO, List.map_cons, List.map_nil, List.length_cons, List.length_nil, List.cons_append, List.nil_append, List.append_nil, List.set_cons_zero, List.set_cons_succ, List.getElem?_cons_zero, List.getElem?_cons_succ, List.replicate_zero, List.replicate_succ, Option.join_some, Option.join_none, Option.bind_some, Option.bind_none, Option.map_some, Option.map_none, Nat.reduceAdd, Nat.reduceSub, Nat.sub_self, List.any_cons, List.any_nil, Bool.or_false, Bool.false_or, Bool.or_true, Bool.true_or, Bool.and_true, Bool.true_and, Bool.and_false, Bool.false_and, Bool.not_true, Bool.not_false, Bool.false_eq_true, reduceIte, reduceCtorEq, decide_eq_true_eq, Bool.not_eq_true', decide_eq_false_iff_not, sz_eq, Nat.reduceLeDiff, isOl, subFin, muFin, muD, setFin, setMany, parFin, idxD, slcD, bi_len, bi_lenT, bi_abs, bi_int, bi_list, bi_listT, bi_max2, bi_min2, Ss.sets, S.sets, Tg.is, List.mem_cons, List.not_mem_nil, or_false, or_true, false_or, true_or, List.mem_append, List.append_assoc, List.append_eq, eqv_int, hv]
      by_cases e : (i : Int) = 1
      · obtain ⟨ws'', b'', p'', hp'', h'', s⟩ := draws (m := m) (sc := sc) (p := p') (ws := ws') (b := b') (o4 := o4) (o5 := o5) (o6 := some (.fz (il (steps ws')))) (o7 := o7) (o8 := some (.fz (.int i))) (o9 := o9) (o10 := o10) (o11 := o11) (o12 := o12) (o13 := o13) (o14 := o14) (o15 := o15) (o16 := o16') (o17 := o17) (o18 := o18') (o19 := o19) (o20 := o20') hp' hk
        refine ⟨ws'', b'', p'', hp'', h'', ?_⟩
        rw [x_if, c true (decide_eq_true e), bind_ok, if_pos rfl]
        exact s
      · refine ⟨ws', b', p', hp', h', ?_⟩
        rw [x_if, c false (decide_eq_false e), bind_ok, if_neg Bool.false_ne_true]
        exact x_nil _
    obtain ⟨ws'', b'', p'', hp'', h'', st⟩ := st
    obtain ⟨p3, o16'', o18'', o20'', hp3, s3⟩ := turnT (m := m) (sc := sc) (p := p'') (ws := ws'') (b := b'') (o4 := o4) (o5 := o5) (o7 := o7) (o8 := some (.fz (.int i))) (o9 := o9) (o10 := o10) (o11 := o11) (o12 := o12) (o13 := o13) (o14 := o14) (o15 := o15) (o16 := o16') (o17 := o17) (o18 := o18') (o19 := o19) (o20 := o20') hp'' h'' hk
    have bd : exSs (lev fs Bx m) (.cons (.ifS (.cmp .Eq (.nm 8) (.int 1)) (.cons (.setT [2, 3] (.call "_law_rule" (.cons (.nm 1) (.cons (.int 8) (.cons (.int 30) .nil))) [])) (.cons (.setF 6 (.lc (.one 17) [17] (.rng1 (.bin .Sub (.bi .len (.cons (.nm 2) .nil)) (.int 1))) .none (.bi .abs (.cons (.bin .Sub (.idx (.nm 2) (.bin .Add (.nm 17) (.int 1))) (.idx (.nm 2) (.nm 17))) .nil)))) .nil)) .nil) (.cons (.ifS (.or_ (.not_ (.call "_law_same" (.cons (.call "hidden_wrong" (.cons (.nm 2) (.cons (.nm 3) .nil)) []) (.cons (.call "_law_first" (.cons (.nm 2) (.cons (.nm 3) .nil)) []) .nil)) [])) (.not_ (.call "_law_same" (.cons (.call "hidden_exchange" (.cons (.nm 2) (.cons (.nm 3) .nil)) []) (.cons (.call "_law_first" (.cons (.nm 6) (.cons (.nm 3) .nil)) []) .nil)) []))) (.cons (.ret (.bl false)) .nil) .nil) (.cons (.ifS (.not_ (.call "_law_same" (.cons (.call "shows_wrong" (.cons (.nm 2) (.cons (.nm 3) .nil)) []) (.cons (.cmp .Is (.call "_law_first" (.cons (.nm 2) (.cons (.nm 3) .nil)) []) .non) .nil)) [])) (.cons (.ret (.bl false)) .nil) .nil) (.cons (.for_ (.one 16) (.rng2 (.neg (.int 1)) (.bin .Add (.bi .len (.cons (.nm 2) .nil)) (.int 1))) (.cons (.for_ (.one 18) (.opd (.lst (.cons (.int 0) (.cons (.int 1) (.cons (.bin .Sub (.nm 3) (.int 1)) (.cons (.nm 3) (.cons (.call "_law_draw" (.cons (.nm 1) (.cons (.nm 3) .nil)) []) .nil))))))) (.cons (.setF 20 (.and_ (.chn .LtE .Lt (.int 0) (.nm 16) (.bi .len (.cons (.nm 2) .nil))) (.and_ (.chn .LtE .Lt (.int 1) (.nm 18) (.nm 3)) (.cmp .Eq (.bin .Mod (.bi .int (.cons (.bin .Mult (.nm 18) (.idx (.nm 2) (.nm 16))) .nil)) (.nm 3)) (.int 0))))) (.cons (.ifS (.not_ (.call "_law_same" (.cons (.call "judge_wrong" (.cons (.nm 2) (.cons (.nm 3) (.cons (.nm 16) (.cons (.nm 18) .nil)))) []) (.cons (.nm 20) .nil)) [])) (.cons (.ret (.bl false)) .nil) .nil) (.cons (.setF 20 (.and_ (.chn .LtE .Lt (.int 0) (.nm 16) (.bi .len (.cons (.nm 6) .nil))) (.and_ (.chn .LtE .Lt (.int 1) (.nm 18) (.nm 3)) (.cmp .Eq (.bin .Mod (.bi .int (.cons (.bin .Mult (.nm 18) (.idx (.nm 6) (.nm 16))) .nil)) (.nm 3)) (.int 0))))) (.cons (.ifS (.not_ (.call "_law_same" (.cons (.call "judge_exchange" (.cons (.nm 2) (.cons (.nm 3) (.cons (.nm 16) (.cons (.nm 18) .nil)))) []) (.cons (.nm 20) .nil)) [])) (.cons (.ret (.bl false)) .nil) .nil) .nil))))) .nil)) .nil)))) ((LT sc p' ws' b' o4 o5 (some (.fz (il (steps ws')))) o7 o8' o9 o10 o11 o12 o13 o14 o15 o16' o17 o18' o19 o20').set 8 (some (.fz (.int i)))) = .ok .nx (LT sc p3 ws'' b'' o4 o5 (some (.fz (il (steps ws'')))) o7 (some (.fz (.int i))) o9 o10 o11 o12 o13 o14 o15 o16'' o17 o18'' o19 o20'') := by
      show exSs (lev fs Bx m) (.cons _ _) (LT sc p' ws' b' o4 o5 (some (.fz (il (steps ws')))) o7 (some (.fz (.int i))) o9 o10 o11 o12 o13 o14 o15 o16' o17 o18' o19 o20') = _
      rw [seq_nx st]
      exact s3
    rw [bd]
    exact ⟨ws'', b'', p3, _, o16'', o18'', o20'', hp3, h'', rfl⟩
  · rintro _ ⟨ws', b', p', o8', o16', o18', o20', hp', h', rfl⟩
    exact ⟨ws', b', p', o8', o16', o18', o20', hp', h', rfl⟩
end
end L2.Eng.K58

namespace L2.Eng.K58
open PySem
/-! ### the greatest of the parts -/
theorem maxI_max : ∀ (r : List Int) (n : Int), maxI n r ∈ n :: r ∧ ∀ x ∈ n :: r, x ≤ maxI n r
  | [], n => ⟨List.mem_cons_self .., fun x hx => by rw [List.mem_singleton.mp hx]; exact Int.le_refl _⟩
  | y :: r, n => by
    obtain ⟨h1, h2⟩ := maxI_max r (if n < y then y else n)
    have e : maxI n (y :: r) = maxI (if n < y then y else n) r := rfl
    rw [e]
    constructor
    · rcases List.mem_cons.mp h1 with h | h
      · rw [h]
        split
        · exact List.mem_cons_of_mem _ (List.mem_cons_self ..)
        · exact List.mem_cons_self ..
      · exact List.mem_cons_of_mem _ (List.mem_cons_of_mem _ h)
    · intro x hx
      have h3 := h2 _ (List.mem_cons_self ..)
      rcases List.mem_cons.mp hx with rfl | hx
      · split at h3 <;> split <;> omega
      · rcases List.mem_cons.mp hx with rfl | hx
        · split at h3 <;> split <;> omega
        · exact h2 x (List.mem_cons_of_mem _ hx)
def partQ (x y i : Nat) : Bool := decide (x % (1 + i) = 0) && decide (y % (1 + i) = 0)
def partL (x y : Nat) : List Int := ((List.range 59).filter (partQ x y)).map fun (i : Nat) => (1 + (i : Int))
theorem part_max {x y : Nat} (hx : x < 60) (hy : y < 60) (h : 0 < x + y) : biD .maxL [.list ((partL x y).map PyData.int)] = some (.fz (.int (Nat.gcd x y : Nat))) := by
  have g0 : 0 < Nat.gcd x y := by
    rcases Nat.eq_zero_or_pos x with h0 | h0
    · exact Nat.gcd_pos_of_pos_right _ (by omega)
    · exact Nat.gcd_pos_of_pos_left _ h0
  have gl : Nat.gcd x y ≤ 59 := by
    rcases Nat.eq_zero_or_pos x with h0 | h0
    · exact Nat.le_trans (Nat.gcd_le_right _ (by omega)) (by omega)
    · exact Nat.le_trans (Nat.gcd_le_left _ h0) (by omega)
  have gm : ((Nat.gcd x y : Nat) : Int) ∈ partL x y := by
    refine List.mem_map.mpr ⟨Nat.gcd x y - 1, List.mem_filter.mpr ⟨List.mem_range.mpr (by omega), ?_⟩, by omega⟩
    unfold partQ
    rw [show 1 + (Nat.gcd x y - 1) = Nat.gcd x y by omega, decide_eq_true (Nat.mod_eq_zero_of_dvd (Nat.gcd_dvd_left x y)), decide_eq_true (Nat.mod_eq_zero_of_dvd (Nat.gcd_dvd_right x y))]
    rfl
  have gmax : ∀ z ∈ partL x y, z ≤ ((Nat.gcd x y : Nat) : Int) := fun z hz => by
    obtain ⟨i, hi, rfl⟩ := List.mem_map.mp hz
    have q := (List.mem_filter.mp hi).2
    unfold partQ at q
    rw [Bool.and_eq_true, decide_eq_true_eq, decide_eq_true_eq] at q
    have d := Nat.le_of_dvd g0 (Nat.dvd_gcd (Nat.dvd_of_mod_eq_zero q.1) (Nat.dvd_of_mod_eq_zero q.2))
    omega
  have ii : intsD ((partL x y).map PyData.int) = some (partL x y) := by
    generalize partL x y = l
    induction l with
    | nil => rfl
    | cons a r ih =>
      show (intsD _).map _ = _
      rw [ih]
      rfl
  show ((intsD _).bind _) = _
  rw [ii]
  cases hl : partL x y with
  | nil => rw [hl] at gm; cases gm
  | cons n r =>
    obtain ⟨h1, h2⟩ := maxI_max r n
    rw [hl] at gm gmax
    have e : maxI n r = ((Nat.gcd x y : Nat) : Int) := Int.le_antisymm (gmax _ h1) (h2 _ gm)
    show some (T.fz (.int (maxI n r))) = _
    rw [e]
section
variable {k m : Nat} {sc : T} {p : List D} {ws : List Int} {b : Nat} {o4 o5 o6 o7 o8 o9 o10 o11 o12 o13 o14 o15 o16 o17 o18 o19 o20 : Option T}
/-- parts in common -/
theorem partE {Φ : Fx} {x y : Nat} : (ev2 Φ (.lc (.one 19) [19] (.rng2 (.int 1) (.int 60)) (.some (.and_ (.cmp .Eq (.bin .Mod (.bi .int (.cons (.nm 13) .nil)) (.nm 19)) (.int 0)) (.cmp .Eq (.bin .Mod (.bi .int (.cons (.nm 14) .nil)) (.nm 19)) (.int 0)))) (.nm 19))).1 (LT sc p ws b o4 o5 o6 o7 o8 o9 o10 o11 o12 (some (.fz (.int x))) (some (.fz (.int y))) o15 o16 o17 o18 o19 o20) = .ok (.tmp (.ol ((partL x y).map PyData.int))) (LT sc p ws b o4 o5 o6 o7 o8 o9 o10 o11 o12 (some (.fz (.int x))) (some (.fz (.int y))) o15 o16 o17 o18 o19 o20) := by
  have q := lc_r2 (Φ := Φ) (a := .int 1) (b := .int 60) (s := 19) (ρ := LT sc p ws b o4 o5 o6 o7 o8 o9 o10 o11 o12 (some (.fz (.int x))) (some (.fz (.int y))) o15 o16 o17 o18 o19 o20) (ρ1 := LT sc p ws b o4 o5 o6 o7 o8 o9 o10 o11 o12 (some (.fz (.int x))) (some (.fz (.int y))) o15 o16 o17 o18 o19 o20) (ρ2 := LT sc p ws b o4 o5 o6 o7 o8 o9 o10 o11 o12 (some (.fz (.int x))) (some (.fz (.int y))) o15 o16 o17 o18 o19 o20) (c := (.some (.and_ (.cmp .Eq (.bin .Mod (.bi .int (.cons (.nm 13) .nil)) (.nm 19)) (.int 0)) (.cmp .Eq (.bin .Mod (.bi .int (.cons (.nm 14) .nil)) (.nm 19)) (.int 0))))) (elt := .nm 19) (lo := 1) (hi := 60) (x := .tmp (.fz (.int 1))) (y := .tmp (.fz (.int 60))) (partQ x y) (fun (i : Nat) => .int (1 + (i : Int))) rfl rfl rfl rfl (by show 19 < 21; decide) (by decide) (by decide) (fun i hi => by
    have e0 : (1 : Int) + (i : Int) = ((1 + i : Nat) : Int) := by omega
    have nz : (((1 + i : Nat) : Int)) ≠ 0 := by omega
    have fm : ∀ z : Nat, (z : Int).fmod ((1 + i : Nat) : Int) = ((z % (1 + i) : Nat) : Int) := fun z => by
      rw [Int.fmod_eq_emod_of_nonneg _ (by omega)]
      rfl
    have dz : ∀ z : Nat, decide (((z : Nat) : Int) = 0) = decide (z = 0) := fun z => by
      by_cases h : z = 0
      · rw [h]
        rfl
      · rw [decide_eq_false h, decide_eq_false (by omega)]
    rw [e0]
    unfold partQ
    cases h1 : decide (x % (1 + i) = 0) <;> simp -implicitDefEqProofs only [LT, e_nm, e_int, e_str, e_bl, e_non, e_glb, e_bin, e_neg, e_cmp, t_cmp, chn_if, e_chn, t_chn, e_and, e_or, t_and, t_or, e_not, t_not, e_ite, e_lst, e_tup, e_idx, e_slc, e_call, e_bi, e_rl1, e_rl2, e_isi, e_me, e_mu, t_nm, t_bl, t_idx, t_call, t_bi, t_isi, t_lc, t_bin, ds_nil, ds_cons, os_nil, os_cons, oi_none, oi_some, c_none, c_some, i_op, as_nm, as_mv, x_nil, x_cons, x_set, x_setF, x_setT, x_par, x_sub, x_expr, x_ret, x_if, x_raise, x_pass, x_brk, x_cont, x_tryC, bind_ok, bind_exc, map_ok, map_exc, of_some, bind_ite, map_ite, endR_ite, dflT, asT, asD, frz, ofB, cmpB, takeSlot, moveSlot, slotT, Opd.see, sees, T.view, truthD, cmpD, eqD, scalD, binD, negD, isKd, callF, takeA, putA, startR, endR_rt, endR_nx, endR_exc, backs, evB, evT, evD, evO, List.map_cons, List.map_nil, List.length_cons, List.length_nil, List.cons_append, List.nil_append, List.append_nil, List.set_cons_zero, List.set_cons_succ, List.getElem?_cons_zero, List.getElem?_cons_succ, List.replicate_zero, List.replicate_succ, Option.join_some, Option.join_none, Option.bind_some, Option.bind_none, Option.map_some, Option.map_none, Nat.reduceAdd, Nat.reduceSub, Nat.sub_self, List.any_cons, List.any_nil, Bool.or_false, Bool.false_or, Bool.or_true, Bool.true_or, Bool.and_true, Bool.true_and, Bool.and_false, Bool.false_and, Bool.not_true, Bool.not_false, Bool.false_eq_true, reduceIte, reduceCtorEq, decide_eq_true_eq, Bool.not_eq_true', decide_eq_false_iff_not, sz_eq, Nat.reduceLeDiff, isOl, subFin, muFin, muD, setFin, setMany, parFin, idxD, slcD, bi_len, bi_lenT, bi_abs, bi_int, bi_list, bi_listT, bi_max2, bi_min2, Ss.sets, S.sets, Tg.is, List.mem_cons, List.not_mem_nil, or_false, or_true, false_or, true_or, List.mem_append, List.append_assoc, List.append_eq, fm, nz, eqv_int, dz, h1, ne_eq, not_false_eq_true]) (fun i hi _ => by simp -implicitDefEqProofs only [LT, e_nm, e_int, e_str, e_bl, e_non, e_glb, e_bin, e_neg, e_cmp, t_cmp, chn_if, e_chn, t_chn, e_and, e_or, t_and, t_or, e_not, t_not, e_ite, e_lst, e_tup, e_idx, e_slc, e_call, e_bi, e_rl1, e_rl2, e_isi, e_me, e_mu, t_nm, t_bl, t_idx, t_call, t_bi, t_isi, t_lc, t_bin, ds_nil, ds_cons, os_nil, os_cons, oi_none, oi_some, c_none, c_some, i_op, as_nm, as_mv, x_nil, x_cons, x_set, x_setF, x_setT, x_par, x_sub, x_expr, x_ret, x_if, x_raise, x_pass, x_brk, x_cont, x_tryC, bind_ok, bind_exc, map_ok, map_exc, of_some, bind_ite, map_ite, endR_ite, dflT, asT, asD, frz, ofB, cmpB, takeSlot, moveSlot, slotT, Opd.see, sees, T.view, truthD, cmpD, eqD, scalD, binD, negD, isKd, callF, takeA, putA, startR, endR_rt, endR_nx, endR_exc, backs, evB, evT, evD, evO, List.map_cons, List.map_nil, List.length_cons, List.length_nil, List.cons_append, List.nil_append, List.append_nil, List.set_cons_zero, List.set_cons_succ, List.getElem?_cons_zero, List.getElem?_cons_succ, List.replicate_zero, List.replicate_succ, Option.join_some, Option.join_none, Option.bind_some, Option.bind_none, Option.map_some, Option.map_none, Nat.reduceAdd, Nat.reduceSub, Nat.sub_self, List.any_cons, List.any_nil, Bool.or_false, Bool.false_or, Bool.or_true, Bool.true_or, Bool.and_true, Bool.true_and, Bool.and_false, Bool.false_and, Bool.not_true, Bool.not_false, Bool.false_eq_true, reduceIte, reduceCtorEq, decide_eq_true_eq, Bool.not_eq_true', decide_eq_false_iff_not, sz_eq, Nat.reduceLeDiff, isOl, subFin, muFin, muD, setFin, setMany, parFin, idxD, slcD, bi_len, bi_lenT, bi_abs, bi_int, bi_list, bi_listT, bi_max2, bi_min2, Ss.sets, S.sets, Tg.is, List.mem_cons, List.not_mem_nil, or_false, or_true, false_or, true_or, List.mem_append, List.append_assoc, List.append_eq])
  rw [q]
  unfold partL
  rw [List.map_map]
  rfl
/-- a right row -/
theorem rowC {row : List Int} {n : Nat} (hr : row ∈ tl b n) (hn : 0 < n ∧ n ≤ 3) (hb : 2 ≤ b ∧ b ≤ 9) (hk : 10 < m) : (ev2 (lev fs Bx m) (.and_ (.cmp .Is (.call "_law_first" (.cons (.nm 12) (.cons (.nm 3) .nil)) []) .non) (.cmp .Is (.call "_law_first" (.cons (.lc (.one 17) [17] (.rng1 (.bin .Sub (.nm 9) (.int 1))) .none (.bi .abs (.cons (.bin .Sub (.idx (.nm 12) (.bin .Add (.nm 17) (.int 1))) (.idx (.nm 12) (.nm 17))) .nil))) (.cons (.nm 3) .nil)) []) .non))).2 (LT sc p ws b o4 o5 o6 o7 o8 (some (.fz (.int n))) o10 o11 (some (.fz (il row))) o13 o14 o15 o16 o17 o18 o19 o20) = .ok (goodQ b row) (LT sc p ws b o4 o5 o6 o7 o8 (some (.fz (.int n))) o10 o11 (some (.fz (il row))) o13 o14 o15 o16 o17 o18 o19 o20) := by
  have tr := tl_row hr
  have f1 := s_first (k := m) (t := .fz (il row)) (ws := row) (b := b) rfl (by omega) (by omega) tr.2 (by omega) (by omega)
  have f2 := s_first (k := m) (t := .ol ((steps row).map PyData.int)) (ws := steps row) (b := b) rfl (by omega) (by omega) (steps_bnd tr.2) (by rw [steps_len]; omega) (by omega)
  have hx : (ev2 (lev fs Bx m) (.bin .Sub (.nm 9) (.int 1))).1 (LT sc p ws b o4 o5 o6 o7 o8 (some (.fz (.int n))) o10 o11 (some (.fz (il row))) o13 o14 o15 o16 o17 o18 o19 o20) = .ok (.tmp (.fz (.int ((row.length : Int) - 1)))) (LT sc p ws b o4 o5 o6 o7 o8 (some (.fz (.int n))) o10 o11 (some (.fz (il row))) o13 o14 o15 o16 o17 o18 o19 o20) := by
    rw [tr.1]
    simp -implicitDefEqProofs only [LT, e_nm, e_int, e_str, e_bl, e_non, e_glb, e_bin, e_neg, e_cmp, t_cmp, chn_if, e_chn, t_chn, e_and, e_or, t_and, t_or, e_not, t_not, e_ite, e_lst, e_tup, e_idx, e_slc, e_call, e_bi, e_rl1, e_rl2, e_isi, e_me, e_mu, t_nm, t_bl, t_idx, t_call, t_bi, t_isi, t_lc, t_bin, ds_nil, ds_cons, os_nil, os_cons, oi_none, oi_some, c_none, c_some, i_op, as_nm, as_mv, x_nil, x_cons, x_set, x_setF, x_setT, x_par, x_sub, x_expr, x_ret, x_if, x_raise, x_pass, x_brk, x_cont, x_tryC, bind_ok, bind_exc, map_ok, map_exc, of_some, bind_ite, map_ite, endR_ite, dflT, asT, asD, frz, ofB, cmpB, takeSlot, moveSlot, slotT, Opd.see, sees, T.view, truthD, cmpD, eqD, scalD, binD, negD, isKd, callF, takeA, putA, startR, endR_rt, endR_nx, endR_exc, backs, evB, evT, evD, evO, List.map_cons, List.map_nil, List.length_cons, List.length_nil, List.cons_append, List.nil_append, List.append_nil, List.set_cons_zero, List.set_cons_succ, List.getElem?_cons_zero, List.getElem?_cons_succ, List.replicate_zero, List.replicate_succ, Option.join_some, Option.join_none, Option.bind_some, Option.bind_none, Option.map_some, Option.map_none, Nat.reduceAdd, Nat.reduceSub, Nat.sub_self, List.any_cons, List.any_nil, Bool.or_false, Bool.false_or, Bool.or_true, Bool.true_or, Bool.and_true, Bool.true_and, Bool.and_false, Bool.false_and, Bool.not_true, Bool.not_false, Bool.false_eq_true, reduceIte, reduceCtorEq, decide_eq_true_eq, Bool.not_eq_true', decide_eq_false_iff_not, sz_eq, Nat.reduceLeDiff, isOl, subFin, muFin, muD, setFin, setMany, parFin, idxD, slcD, bi_len, bi_lenT, bi_abs, bi_int, bi_list, bi_listT, bi_max2, bi_min2, Ss.sets, S.sets, Tg.is, List.mem_cons, List.not_mem_nil, or_false, or_true, false_or, true_or, List.mem_append, List.append_assoc, List.append_eq]
  have lc := stepsE (Φ := lev fs Bx m) (ws := row) (i := 12) (j := 17) (ρ := LT sc p ws b o4 o5 o6 o7 o8 (some (.fz (.int n))) o10 o11 (some (.fz (il row))) o13 o14 o15 o16 o17 o18 o19 o20) rfl hx (by omega) (by omega) (by show 17 < 21; decide) (by decide)
  simp only [LT] at lc
  unfold goodQ
  cases h1 : alW row b with
  | true => simp -implicitDefEqProofs only [LT, e_nm, e_int, e_str, e_bl, e_non, e_glb, e_bin, e_neg, e_cmp, t_cmp, chn_if, e_chn, t_chn, e_and, e_or, t_and, t_or, e_not, t_not, e_ite, e_lst, e_tup, e_idx, e_slc, e_call, e_bi, e_rl1, e_rl2, e_isi, e_me, e_mu, t_nm, t_bl, t_idx, t_call, t_bi, t_isi, t_lc, t_bin, ds_nil, ds_cons, os_nil, os_cons, oi_none, oi_some, c_none, c_some, i_op, as_nm, as_mv, x_nil, x_cons, x_set, x_setF, x_setT, x_par, x_sub, x_expr, x_ret, x_if, x_raise, x_pass, x_brk, x_cont, x_tryC, bind_ok, bind_exc, map_ok, map_exc, of_some, bind_ite, map_ite, endR_ite, dflT, asT, asD, frz, ofB, cmpB, takeSlot, moveSlot, slotT, Opd.see, sees, T.view, truthD, cmpD, eqD, scalD, binD, negD, isKd, callF, takeA, putA, startR, endR_rt, endR_nx, endR_exc, backs, evB, evT, evD, evO, List.map_cons, List.map_nil, List.length_cons, List.length_nil, List.cons_append, List.nil_append, List.append_nil, List.set_cons_zero, List.set_cons_succ, List.getElem?_cons_zero, List.getElem?_cons_succ, List.replicate_zero, List.replicate_succ, Option.join_some, Option.join_none, Option.bind_some, Option.bind_none, Option.map_some, Option.map_none, Nat.reduceAdd, Nat.reduceSub, Nat.sub_self, List.any_cons, List.any_nil, Bool.or_false, Bool.false_or, Bool.or_true, Bool.true_or, Bool.and_true, Bool.true_and, Bool.and_false, Bool.false_and, Bool.not_true, Bool.not_false, Bool.false_eq_true, reduceIte, reduceCtorEq, decide_eq_true_eq, Bool.not_eq_true', decide_eq_false_iff_not, sz_eq, Nat.reduceLeDiff, isOl, subFin, muFin, muD, setFin, setMany, parFin, idxD, slcD, bi_len, bi_lenT, bi_abs, bi_int, bi_list, bi_listT, bi_max2, bi_min2, Ss.sets, S.sets, Tg.is, List.mem_cons, List.not_mem_nil, or_false, or_true, false_or, true_or, List.mem_append, List.append_assoc, List.append_eq, f1, non_first, h1, lc, f2]
  | false => simp -implicitDefEqProofs only [LT, e_nm, e_int, e_str, e_bl, e_non, e_glb, e_bin, e_neg, e_cmp, t_cmp, chn_if, e_chn, t_chn, e_and, e_or, t_and, t_or, e_not, t_not, e_ite, e_lst, e_tup, e_idx, e_slc, e_call, e_bi, e_rl1, e_rl2, e_isi, e_me, e_mu, t_nm, t_bl, t_idx, t_call, t_bi, t_isi, t_lc, t_bin, ds_nil, ds_cons, os_nil, os_cons, oi_none, oi_some, c_none, c_some, i_op, as_nm, as_mv, x_nil, x_cons, x_set, x_setF, x_setT, x_par, x_sub, x_expr, x_ret, x_if, x_raise, x_pass, x_brk, x_cont, x_tryC, bind_ok, bind_exc, map_ok, map_exc, of_some, bind_ite, map_ite, endR_ite, dflT, asT, asD, frz, ofB, cmpB, takeSlot, moveSlot, slotT, Opd.see, sees, T.view, truthD, cmpD, eqD, scalD, binD, negD, isKd, callF, takeA, putA, startR, endR_rt, endR_nx, endR_exc, backs, evB, evT, evD, evO, List.map_cons, List.map_nil, List.length_cons, List.length_nil, List.cons_append, List.nil_append, List.append_nil, List.set_cons_zero, List.set_cons_succ, List.getElem?_cons_zero, List.getElem?_cons_succ, List.replicate_zero, List.replicate_succ, Option.join_some, Option.join_none, Option.bind_some, Option.bind_none, Option.map_some, Option.map_none, Nat.reduceAdd, Nat.reduceSub, Nat.sub_self, List.any_cons, List.any_nil, Bool.or_false, Bool.false_or, Bool.or_true, Bool.true_or, Bool.and_true, Bool.true_and, Bool.and_false, Bool.false_and, Bool.not_true, Bool.not_false, Bool.false_eq_true, reduceIte, reduceCtorEq, decide_eq_true_eq, Bool.not_eq_true', decide_eq_false_iff_not, sz_eq, Nat.reduceLeDiff, isOl, subFin, muFin, muD, setFin, setMany, parFin, idxD, slcD, bi_len, bi_lenT, bi_abs, bi_int, bi_list, bi_listT, bi_max2, bi_min2, Ss.sets, S.sets, Tg.is, List.mem_cons, List.not_mem_nil, or_false, or_true, false_or, true_or, List.mem_append, List.append_assoc, List.append_eq, f1, non_first, h1]
theorem goods {n : Nat} (hn : 0 < n ∧ n ≤ 3) (hb : 2 ≤ b ∧ b ≤ 9) (hk : 10 < m) : ∃ o12', exS (lev fs Bx m) (.for_ (.one 12) (.opd (.call "_law_tallies" (.cons (.nm 9) (.cons (.nm 3) .nil)) [])) (.cons (.ifS (.and_ (.cmp .Is (.call "_law_first" (.cons (.nm 12) (.cons (.nm 3) .nil)) []) .non) (.cmp .Is (.call "_law_first" (.cons (.lc (.one 17) [17] (.rng1 (.bin .Sub (.nm 9) (.int 1))) .none (.bi .abs (.cons (.bin .Sub (.idx (.nm 12) (.bin .Add (.nm 17) (.int 1))) (.idx (.nm 12) (.nm 17))) .nil))) (.cons (.nm 3) .nil)) []) .non)) (.cons (.expr (.mu .append 11 (.cons (.nm 12) .nil))) .nil) .nil) .nil)) (LT sc p ws b o4 o5 o6 o7 o8 (some (.fz (.int n))) o10 (some (.ol [])) o12 o13 o14 o15 o16 o17 o18 o19 o20) = .ok .nx (LT sc p ws b o4 o5 o6 o7 o8 (some (.fz (.int n))) o10 (some (.ol (ils ((tl b n).filter (goodQ b))))) o12' o13 o14 o15 o16 o17 o18 o19 o20) := by
  have tls := s_tallies (B := Bx) (k := m) (b := b) (m := n) hb.2 hn.2 (by omega)
  have tz := tl_le hb.2 hn.2
  refine for_lm (x := .tmp (.fz (.list (ils (tl b n))))) (k := false) (rs := tl b n) (g := fun r => il r) (ρ1 := LT sc p ws b o4 o5 o6 o7 o8 (some (.fz (.int n))) o10 (some (.ol [])) o12 o13 o14 o15 o16 o17 o18 o19 o20)
    (fun i ρ => ∃ o12', ρ = LT sc p ws b o4 o5 o6 o7 o8 (some (.fz (.int n))) o10 (some (.ol (ils (((tl b n).take i).filter (goodQ b))))) o12' o13 o14 o15 o16 o17 o18 o19 o20)
    (fun r => ∃ o12', r = .ok .nx (LT sc p ws b o4 o5 o6 o7 o8 (some (.fz (.int n))) o10 (some (.ol (ils ((tl b n).filter (goodQ b))))) o12' o13 o14 o15 o16 o17 o18 o19 o20)) (by simp -implicitDefEqProofs only [LT, e_nm, e_int, e_str, e_bl, e_non, e_glb, e_bin, e_neg, e_cmp, t_cmp, chn_if, e_chn, t_chn, e_and, e_or, t_and, t_or, e_not, t_not, e_ite, e_lst, e_tup, e_idx, e_slc, e_call, e_bi, e_rl1, e_rl2, e_isi, e_me, e_mu, t_nm, t_bl, t_idx, t_call, t_bi, t_isi, t_lc, t_bin, ds_nil, ds_cons, os_nil, os_cons, oi_none, oi_some, c_none, c_some, i_op, as_nm, as_mv, x_nil, x_cons, x_set, x_setF, x_setT, x_par, x_sub, x_expr, x_ret, x_if, x_raise, x_pass, x_brk, x_cont, x_tryC, bind_ok, bind_exc, map_ok, map_exc, of_some, bind_ite, map_ite, endR_ite, dflT, asT, asD, frz, ofB, cmpB, takeSlot, moveSlot, slotT, Opd.see, sees, T.view, truthD, cmpD, eqD, scalD, binD, negD, isKd, callF, takeA, putA, startR, endR_rt, endR_nx, endR_exc, backs, evB, evT, evD, evO, List.map_cons, List.map_nil, List.length_cons, List.length_nil, List.cons_append, List.nil_append, List.append_nil, List.set_cons_zero, List.set_cons_succ, List.getElem?_cons_zero, List.getElem?_cons_succ, List.replicate_zero, List.replicate_succ, Option.join_some, Option.join_none, Option.bind_some, Option.bind_none, Option.map_some, Option.map_none, Nat.reduceAdd, Nat.reduceSub, Nat.sub_self, List.any_cons, List.any_nil, Bool.or_false, Bool.false_or, Bool.or_true, Bool.true_or, Bool.and_true, Bool.true_and, Bool.and_false, Bool.false_and, Bool.not_true, Bool.not_false, Bool.false_eq_true, reduceIte, reduceCtorEq, decide_eq_true_eq, Bool.not_eq_true', decide_eq_false_iff_not, sz_eq, Nat.reduceLeDiff, isOl, subFin, muFin, muD, setFin, setMany, parFin, idxD, slcD, bi_len, bi_lenT, bi_abs, bi_int, bi_list, bi_listT, bi_max2, bi_min2, Ss.sets, S.sets, Tg.is, List.mem_cons, List.not_mem_nil, or_false, or_true, false_or, true_or, List.mem_append, List.append_assoc, List.append_eq, tls]) rfl rfl rfl ⟨o12, rfl⟩ (fun _ _ _ => rfl) ?_ ?_
  · rintro i row _ hr ⟨o12', rfl⟩
    have rc := rowC (m := m) (sc := sc) (p := p) (ws := ws) (b := b) (o4 := o4) (o5 := o5) (o6 := o6) (o7 := o7) (o8 := o8) (o10 := o10) (o11 := some (.ol (ils (((tl b n).take i).filter (goodQ b))))) (o13 := o13) (o14 := o14) (o15 := o15) (o16 := o16) (o17 := o17) (o18 := o18) (o19 := o19) (o20 := o20) (List.mem_of_getElem? hr) hn hb hk
    have l1 := List.length_filter_le (goodQ b) ((tl b n).take i)
    rw [List.length_take] at l1
    have ln : (ils (((tl b n).take i).filter (goodQ b))).length < 16777216 := by
      rw [List.length_map]
      omega
    have tk : (tl b n).take (i + 1) = (tl b n).take i ++ [row] := by rw [List.take_add_one, hr]; rfl
    have ex : ils (((tl b n).take (i + 1)).filter (goodQ b)) = ils (((tl b n).take i).filter (goodQ b)) ++ (if goodQ b row = true then [il row] else []) := by
      rw [tk, List.filter_append]
      show List.map _ _ = _
      rw [List.map_append]
      congr 1
      by_cases h : goodQ b row = true <;> simp [h]
    have bd : exSs (lev fs Bx m) (.cons (.ifS (.and_ (.cmp .Is (.call "_law_first" (.cons (.nm 12) (.cons (.nm 3) .nil)) []) .non) (.cmp .Is (.call "_law_first" (.cons (.lc (.one 17) [17] (.rng1 (.bin .Sub (.nm 9) (.int 1))) .none (.bi .abs (.cons (.bin .Sub (.idx (.nm 12) (.bin .Add (.nm 17) (.int 1))) (.idx (.nm 12) (.nm 17))) .nil))) (.cons (.nm 3) .nil)) []) .non)) (.cons (.expr (.mu .append 11 (.cons (.nm 12) .nil))) .nil) .nil) .nil) ((LT sc p ws b o4 o5 o6 o7 o8 (some (.fz (.int n))) o10 (some (.ol (ils (((tl b n).take i).filter (goodQ b))))) o12' o13 o14 o15 o16 o17 o18 o19 o20).set 12 (some (.fz (il row)))) = .ok .nx (LT sc p ws b o4 o5 o6 o7 o8 (some (.fz (.int n))) o10 (some (.ol (ils (((tl b n).take (i + 1)).filter (goodQ b))))) (some (.fz (il row))) o13 o14 o15 o16 o17 o18 o19 o20) := by
      rw [ex]
      show exSs (lev fs Bx m) (.cons _ .nil) (LT sc p ws b o4 o5 o6 o7 o8 (some (.fz (.int n))) o10 (some (.ol (ils (((tl b n).take i).filter (goodQ b))))) (some (.fz (il row))) o13 o14 o15 o16 o17 o18 o19 o20) = _
      rw [x_cons, x_if, rc, bind_ok]
      cases goodQ b row with
      | true => simp -implicitDefEqProofs only [LT, e_nm, e_int, e_str, e_bl, e_non, e_glb, e_bin, e_neg, e_cmp, t_cmp, chn_if, e_chn, t_chn, e_and, e_or, t_and, t_or, e_not, t_not, e_ite, e_lst, e_tup, e_idx, e_slc, e_call, e_bi, e_rl1, e_rl2, e_isi, e_me, e_mu, t_nm, t_bl, t_idx, t_call, t_bi, t_isi, t_lc, t_bin, ds_nil, ds_cons, os_nil, os_cons, oi_none, oi_some, c_none, c_some, i_op, as_nm, as_mv, x_nil, x_cons, x_set, x_setF, x_setT, x_par, x_sub, x_expr, x_ret, x_if, x_raise, x_pass, x_brk, x_cont, x_tryC, bind_ok, bind_exc, map_ok, map_exc, of_some, bind_ite, map_ite, endR_ite, dflT, asT, asD, frz, ofB, cmpB, takeSlot, moveSlot, slotT, Opd.see, sees, T.view, truthD, cmpD, eqD, scalD, binD, negD, isKd, callF, takeA, putA, startR, endR_rt, endR_nx, endR_exc, backs, evB, evT, evD, evO, List.map_cons, List.map_nil, List.length_cons, List.length_nil, List.cons_append, List.nil_append, List.append_nil, List.set_cons_zero, List.set_cons_succ, List.getElem?_cons_zero, List.getElem?_cons_succ, List.replicate_zero, List.replicate_succ, Option.join_some, Option.join_none, Option.bind_some, Option.bind_none, Option.map_some, Option.map_none, Nat.reduceAdd, Nat.reduceSub, Nat.sub_self, List.any_cons, List.any_nil, Bool.or_false, Bool.false_or, Bool.or_true, Bool.true_or, Bool.and_true, Bool.true_and, Bool.and_false, Bool.false_and, Bool.not_true, Bool.not_false, Bool.false_eq_true, reduceIte, reduceCtorEq, decide_eq_true_eq, Bool.not_eq_true', decide_eq_false_iff_not, sz_eq, Nat.reduceLeDiff, isOl, subFin, muFin, muD, setFin, setMany, parFin, idxD, slcD, bi_len, bi_lenT, bi_abs, bi_int, bi_list, bi_listT, bi_max2, bi_min2, Ss.sets, S.sets, Tg.is, List.mem_cons, List.not_mem_nil, or_false, or_true, false_or, true_or, List.mem_append, List.append_assoc, List.append_eq, ln]
      | false => simp -implicitDefEqProofs only [LT, e_nm, e_int, e_str, e_bl, e_non, e_glb, e_bin, e_neg, e_cmp, t_cmp, chn_if, e_chn, t_chn, e_and, e_or, t_and, t_or, e_not, t_not, e_ite, e_lst, e_tup, e_idx, e_slc, e_call, e_bi, e_rl1, e_rl2, e_isi, e_me, e_mu, t_nm, t_bl, t_idx, t_call, t_bi, t_isi, t_lc, t_bin, ds_nil, ds_cons, os_nil, os_cons, oi_none, oi_some, c_none, c_some, i_op, as_nm, as_mv, x_nil, x_cons, x_set, x_setF, x_setT, x_par, x_sub, x_expr, x_ret, x_if, x_raise, x_pass, x_brk, x_cont, x_tryC, bind_ok, bind_exc, map_ok, map_exc, of_some, bind_ite, map_ite, endR_ite, dflT, asT, asD, frz, ofB, cmpB, takeSlot, moveSlot, slotT, Opd.see, sees, T.view, truthD, cmpD, eqD, scalD, binD, negD, isKd, callF, takeA, putA, startR, endR_rt, endR_nx, endR_exc, backs, evB, evT, evD, evO, List.map_cons, List.map_nil, List.length_cons, List.length_nil, List.cons_append, List.nil_append, List.append_nil, List.set_cons_zero, List.set_cons_succ, List.getElem?_cons_zero, List.getElem?_cons_succ, List.replicate_zero, List.replicate_succ, Option.join_some, Option.join_none, Option.bind_some, Option.bind_none, Option.map_some, Option.map_none, Nat.reduceAdd, Nat.reduceSub, Nat.sub_self, List.any_cons, List.any_nil, Bool.or_false, Bool.false_or, Bool.or_true, Bool.true_or, Bool.and_true, Bool.true_and, Bool.and_false, Bool.false_and, Bool.not_true, Bool.not_false, Bool.false_eq_true, reduceIte, reduceCtorEq, decide_eq_true_eq, Bool.not_eq_true', decide_eq_false_iff_not, sz_eq, Nat.reduceLeDiff, isOl, subFin, muFin, muD, setFin, setMany, parFin, idxD, slcD, bi_len, bi_lenT, bi_abs, bi_int, bi_list, bi_listT, bi_max2, bi_min2, Ss.sets, S.sets, Tg.is, List.mem_cons, List.not_mem_nil, or_false, or_true, false_or, true_or, List.mem_append, List.append_assoc, List.append_eq]
    rw [bd]
    exact ⟨_, rfl⟩
  · rintro _ ⟨o12', rfl⟩
    rw [List.take_of_length_le (Nat.le_refl _)]
    exact ⟨_, rfl⟩
theorem told_ok {n : Nat} (hn : 0 < n ∧ n ≤ 3) (hb : 2 ≤ b ∧ b ≤ 9) : exS (lev fs Bx m) (.ifS (.or_ (.cmp .NotEq (.cmp .Is (.nm 10) .non) (.cmp .Eq (.bi .len (.cons (.nm 11) .nil)) (.int 0))) (.and_ (.cmp .IsNot (.nm 10) .non) (.cmp .NotIn (.nm 10) (.nm 11)))) (.cons (.ret (.bl false)) .nil) .nil) (LT sc p ws b o4 o5 o6 o7 o8 o9 (some (.fz (toldD (bwO n b)))) (some (.ol (ils ((tl b n).filter (goodQ b))))) o12 o13 o14 o15 o16 o17 o18 o19 o20) = .ok .nx (LT sc p ws b o4 o5 o6 o7 o8 o9 (some (.fz (toldD (bwO n b)))) (some (.ol (ils ((tl b n).filter (goodQ b))))) o12 o13 o14 o15 o16 o17 o18 o19 o20) := by
  obtain ⟨q1, q2⟩ := best_all b (by simp; omega) n (by simp; omega)
  generalize (tl b n).filter (goodQ b) = gl at q1 q2 ⊢
  have q1 := eq_of_beq q1
  have dz : decide (((gl.length : Nat) : Int) = 0) = decide (gl.length = 0) := by
    by_cases h : gl.length = 0
    · rw [h]
      rfl
    · rw [decide_eq_false h, decide_eq_false (by omega)]
  cases hw : bwO n b with
  | none =>
    rw [hw] at q1 q2
    have q1 : decide (gl.length = 0) = true := q1.symm
    simp -implicitDefEqProofs only [LT, e_nm, e_int, e_str, e_bl, e_non, e_glb, e_bin, e_neg, e_cmp, t_cmp, chn_if, e_chn, t_chn, e_and, e_or, t_and, t_or, e_not, t_not, e_ite, e_lst, e_tup, e_idx, e_slc, e_call, e_bi, e_rl1, e_rl2, e_isi, e_me, e_mu, t_nm, t_bl, t_idx, t_call, t_bi, t_isi, t_lc, t_bin, ds_nil, ds_cons, os_nil, os_cons, oi_none, oi_some, c_none, c_some, i_op, as_nm, as_mv, x_nil, x_cons, x_set, x_setF, x_setT, x_par, x_sub, x_expr, x_ret, x_if, x_raise, x_pass, x_brk, x_cont, x_tryC, bind_ok, bind_exc, map_ok, map_exc, of_some, bind_ite, map_ite, endR_ite, dflT, asT, asD, frz, ofB, cmpB, takeSlot, moveSlot, slotT, Opd.see, sees, T.view, truthD, cmpD, eqD, scalD, binD, negD, isKd, callF, takeA, putA, startR, endR_rt, endR_nx, endR_exc, backs, evB, evT, evD, evO, List.map_cons, List.map_nil, List.length_cons, List.length_nil, List.cons_append, List.nil_append, List.append_nil, List.set_cons_zero, List.set_cons_succ, List.getElem?_cons_zero, List.getElem?_cons_succ, List.replicate_zero, List.replicate_succ, Option.join_some, Option.join_none, Option.bind_some, Option.bind_none, Option.map_some, Option.map_none, Nat.reduceAdd, Nat.reduceSub, Nat.sub_self, List.any_cons, List.any_nil, Bool.or_false, Bool.false_or, Bool.or_true, Bool.true_or, Bool.and_true, Bool.true_and, Bool.and_false, Bool.false_and, Bool.not_true, Bool.not_false, Bool.false_eq_true, reduceIte, reduceCtorEq, decide_eq_true_eq, Bool.not_eq_true', decide_eq_false_iff_not, sz_eq, Nat.reduceLeDiff, isOl, subFin, muFin, muD, setFin, setMany, parFin, idxD, slcD, bi_len, bi_lenT, bi_abs, bi_int, bi_list, bi_listT, bi_max2, bi_min2, Ss.sets, S.sets, Tg.is, List.mem_cons, List.not_mem_nil, or_false, or_true, false_or, true_or, List.mem_append, List.append_assoc, List.append_eq, toldD, isNonD, List.length_map, eqv_int, eqv_bool, dz, q1, decide_true]
  | some l =>
    rw [hw] at q1 q2
    have q1 : decide (gl.length = 0) = false := q1.symm
    have q2 : inD (il l) (.list (ils gl)) = some true := eq_of_beq q2
    simp -implicitDefEqProofs only [LT, e_nm, e_int, e_str, e_bl, e_non, e_glb, e_bin, e_neg, e_cmp, t_cmp, chn_if, e_chn, t_chn, e_and, e_or, t_and, t_or, e_not, t_not, e_ite, e_lst, e_tup, e_idx, e_slc, e_call, e_bi, e_rl1, e_rl2, e_isi, e_me, e_mu, t_nm, t_bl, t_idx, t_call, t_bi, t_isi, t_lc, t_bin, ds_nil, ds_cons, os_nil, os_cons, oi_none, oi_some, c_none, c_some, i_op, as_nm, as_mv, x_nil, x_cons, x_set, x_setF, x_setT, x_par, x_sub, x_expr, x_ret, x_if, x_raise, x_pass, x_brk, x_cont, x_tryC, bind_ok, bind_exc, map_ok, map_exc, of_some, bind_ite, map_ite, endR_ite, dflT, asT, asD, frz, ofB, cmpB, takeSlot, moveSlot, slotT, Opd.see, sees, T.view, truthD, cmpD, eqD, scalD, binD, negD, isKd, callF, takeA, putA, startR, endR_rt, endR_nx, endR_exc, backs, evB, evT, evD, evO, List.map_cons, List.map_nil, List.length_cons, List.length_nil, List.cons_append, List.nil_append, List.append_nil, List.set_cons_zero, List.set_cons_succ, List.getElem?_cons_zero, List.getElem?_cons_succ, List.replicate_zero, List.replicate_succ, Option.join_some, Option.join_none, Option.bind_some, Option.bind_none, Option.map_some, Option.map_none, Nat.reduceAdd, Nat.reduceSub, Nat.sub_self, List.any_cons, List.any_nil, Bool.or_false, Bool.false_or, Bool.or_true, Bool.true_or, Bool.and_true, Bool.true_and, Bool.and_false, Bool.false_and, Bool.not_true, Bool.not_false, Bool.false_eq_true, reduceIte, reduceCtorEq, decide_eq_true_eq, Bool.not_eq_true', decide_eq_false_iff_not, sz_eq, Nat.reduceLeDiff, isOl, subFin, muFin, muD, setFin, setMany, parFin, idxD, slcD, bi_len, bi_lenT, bi_abs, bi_int, bi_list, bi_listT, bi_max2, bi_min2, Ss.sets, S.sets, Tg.is, List.mem_cons, List.not_mem_nil, or_false, or_true, false_or, true_or, List.mem_append, List.append_assoc, List.append_eq, toldD, isNonD, List.length_map, eqv_int, eqv_bool, dz, q1, q2, decide_true]
end
end L2.Eng.K58

namespace L2.Eng.K58
open PySem
/-! ### what a changed figure does to the sum -/
def sm (g : Nat → Int) (n : Nat) : Int := ((List.range n).map g).sum
theorem sm_succ (g : Nat → Int) (n : Nat) : sm g (n + 1) = sm g n + g n := by
  unfold sm
  rw [List.range_succ, List.map_append, List.sum_append]
  simp
theorem sm_one {g h : Nat → Int} {a : Nat} (e : ∀ i, i ≠ a → h i = g i) : ∀ n, sm h n = sm g n + (if a < n then h a - g a else 0)
  | 0 => by simp [sm]
  | n + 1 => by
    rw [sm_succ, sm_succ, sm_one e n]
    by_cases hn : n = a
    · subst hn
      rw [if_neg (Nat.lt_irrefl n), if_pos (Nat.lt_succ_self n)]
      omega
    · rw [e n hn]
      by_cases h2 : a < n
      · rw [if_pos h2, if_pos (by omega)]
        omega
      · rw [if_neg h2, if_neg (by omega)]
        omega
theorem dot_sm (fg ws : List Int) : dot fg ws = sm (fun i => fg.getD i 0 * ws.getD i 0) ws.length := rfl
theorem rep_get {fg : List Int} {a : Nat} {x : Int} (ha : a < fg.length) (i : Nat) : (rep fg a x).getD i 0 = if i = a then x else fg.getD i 0 := by
  unfold rep
  rw [List.getD, List.getD]
  by_cases h : i < a
  · rw [List.getElem?_append_left (by rw [List.length_take]; omega), List.getElem?_take_of_lt h, if_neg (by omega)]
  · rw [List.getElem?_append_right (by rw [List.length_take]; omega), List.length_take, Nat.min_eq_left (by omega)]
    by_cases h2 : i = a
    · rw [if_pos h2, h2, Nat.sub_self]
      rfl
    · rw [if_neg h2, show i - a = (i - a - 1) + 1 by omega, List.getElem?_cons_succ, List.getElem?_drop, show a + 1 + (i - a - 1) = i by omega]
theorem dot_rep {fg ws : List Int} {a : Nat} {x : Int} (ha : a < ws.length) (hl : fg.length = ws.length) : dot (rep fg a x) ws = dot fg ws + (x - fg.getD a 0) * ws.getD a 0 := by
  rw [dot_sm, dot_sm, sm_one (g := fun i => fg.getD i 0 * ws.getD i 0) (h := fun i => (rep fg a x).getD i 0 * ws.getD i 0) (a := a) (fun i hi => by
    show (rep fg a x).getD i 0 * _ = _
    rw [rep_get (by omega), if_neg hi]), if_pos ha]
  show _ + ((rep fg a x).getD a 0 * _ - _) = _
  rw [rep_get (by omega), if_pos rfl, Int.sub_mul]
theorem swp_rep {fg : List Int} {i : Nat} (hi : i + 1 < fg.length) : swp fg i = rep (rep fg i (fg.getD (i + 1) 0)) (i + 1) (fg.getD i 0) := by
  unfold swp rep
  have l : (fg.take i).length = i := by rw [List.length_take]; omega
  rw [List.take_append, List.drop_append, l, show i + 1 - i = 1 by omega, show i + 1 + 1 - i = 2 by omega, List.take_take, Nat.min_eq_right (by omega)]
  rw [List.drop_of_length_le (l := fg.take i) (by rw [l]; omega)]
  simp
theorem dot_swp {fg ws : List Int} {i : Nat} (hi : i + 1 < ws.length) (hl : fg.length = ws.length) : dot (swp fg i) ws = dot fg ws + (fg.getD (i + 1) 0 - fg.getD i 0) * (ws.getD i 0 - ws.getD (i + 1) 0) := by
  rw [swp_rep (by omega), dot_rep hi (by rw [rep_len (by omega)]; exact hl), dot_rep (by omega) hl, rep_get (by omega), if_neg (by omega)]
  generalize fg.getD (i + 1) 0 = p
  generalize fg.getD i 0 = q
  generalize ws.getD i 0 = u
  generalize ws.getD (i + 1) 0 = v
  rw [Int.sub_mul, Int.sub_mul, Int.sub_mul, Int.mul_sub, Int.mul_sub]
  omega
theorem same_iff {A B b : Int} (hb : 0 < b) : (A + B).fmod b = A.fmod b ↔ B.fmod b = 0 := by
  rw [Int.fmod_eq_emod_of_nonneg _ (by omega), Int.fmod_eq_emod_of_nonneg _ (by omega), Int.fmod_eq_emod_of_nonneg _ (by omega), Int.emod_eq_emod_iff_emod_sub_eq_zero, show A + B - A = B by omega]
theorem neg_iff {B b : Int} (hb : 0 < b) : (-B).fmod b = 0 ↔ B.fmod b = 0 := by
  rw [Int.fmod_eq_emod_of_nonneg _ (by omega), Int.fmod_eq_emod_of_nonneg _ (by omega), ← Int.dvd_iff_emod_eq_zero, ← Int.dvd_iff_emod_eq_zero, Int.dvd_neg]
/-- a weight shows each wrong figure: no number below the base makes it nought -/
def clean (w b : Int) : Prop := ∀ y : Int, 1 ≤ y → y < b → (y * w).fmod b ≠ 0
theorem pr_clean {w b : Int} (h1 : 2 ≤ b) (h2 : b ≤ 31) (h3 : 0 ≤ w ∧ w < b) : (prI w b).isNone = true ↔ clean w b := by
  rw [← hid_eq h1 h2 h3, Option.isNone_map, Option.isNone_iff_eq_none, List.head?_eq_none_iff]
  unfold rowsL
  rw [List.filter_eq_nil_iff]
  constructor
  · intro h y y1 y2 e
    refine h (y - 1).toNat (List.mem_range.mpr (by omega)) (decide_eq_true ?_)
    rw [show 1 + (((y - 1).toNat : Nat) : Int) = y by omega]
    exact e
  · intro h i hi e
    have hi := List.mem_range.mp hi
    exact h (1 + (i : Int)) (by omega) (by omega) (of_decide_eq_true e)
theorem al_clean {ws : List Int} {b : Int} (h1 : 2 ≤ b) (h2 : b ≤ 31) (h3 : ∀ w ∈ ws, 0 ≤ w ∧ w < b) : alW ws b = true ↔ ∀ i, i < ws.length → clean (ws.getD i 0) b := by
  unfold alW alN
  rw [List.all_eq_true]
  constructor
  · intro h i hi
    exact (pr_clean h1 h2 (h3 _ (getD_mem hi))).mp (h i (List.mem_range.mpr hi))
  · intro h i hi
    have hi := List.mem_range.mp hi
    exact (pr_clean h1 h2 (h3 _ (getD_mem hi))).mpr (h i hi)
theorem clean_neg {w b d : Int} (hc : clean w b) (h0 : d ≠ 0) (h1 : -b < d) (h2 : d < b) (hb : 0 < b) : (d * w).fmod b ≠ 0 := by
  by_cases h : 0 < d
  · exact hc d (by omega) h2
  · intro e
    refine hc (-d) (by omega) (by omega) ?_
    rw [Int.neg_mul]
    exact (neg_iff hb).mpr e
theorem rep0_get (m i : Nat) : (List.replicate m (0 : Int)).getD i 0 = 0 := by
  rw [List.getD, List.getElem?_replicate]
  split <;> rfl
theorem zeros_mem {b m : Nat} (hb : 0 < b) : List.replicate m (0 : Int) ∈ tl b m :=
  mem_tl (by rw [List.length_replicate]) (fun w hw => by rw [(List.mem_replicate.mp hw).2]; omega)
theorem lw_eq {ws : List Int} {b : Nat} (h1 : 2 ≤ b) (h2 : b ≤ 31) (h3 : ∀ w ∈ ws, 0 ≤ w ∧ w < (b : Int)) : lwB ws b = alW ws b := by
  rw [Bool.eq_iff_iff, al_clean (by omega) (by omega) h3]
  unfold lwB
  rw [List.all_eq_true]
  constructor
  · intro h i hi y y1 y2 e
    have q := h _ (zeros_mem (b := b) (m := ws.length) (by omega))
    have q := List.all_eq_true.mp (List.all_eq_true.mp q i (List.mem_range.mpr hi)) y.toNat (List.mem_range.mpr (by omega))
    unfold okW at q
    rw [rep0_get, Int.toNat_of_nonneg (by omega), decide_eq_false (by omega), dot_rep hi (by rw [List.length_replicate]), rep0_get, decide_eq_true ((same_iff (by omega)).mpr (by rw [Int.sub_zero]; exact e))] at q
    cases q
  · intro h row hr
    have tr := tl_row hr
    rw [List.all_eq_true]
    intro a ha
    have ha := List.mem_range.mp ha
    rw [List.all_eq_true]
    intro x hx
    have hx := List.mem_range.mp hx
    unfold okW
    by_cases e : (x : Int) = row.getD a 0
    · rw [decide_eq_true e]
      rfl
    · have rb := tr.2 _ (getD_mem (ns := row) (i := a) (by omega))
      have c := clean_neg (h a ha) (d := (x : Int) - row.getD a 0) (by omega) (by omega) (by omega) (by omega)
      rw [decide_eq_false e, dot_rep ha tr.1, decide_eq_false (fun z => c ((same_iff (by omega)).mp z))]
      rfl
theorem le_eq {ws : List Int} {b : Nat} (h1 : 2 ≤ b) (h2 : b ≤ 31) (h3 : ∀ w ∈ ws, 0 ≤ w ∧ w < (b : Int)) : leB ws b = alW (steps ws) b := by
  rw [Bool.eq_iff_iff, al_clean (by omega) (by omega) (steps_bnd h3)]
  unfold leB
  rw [List.all_eq_true, steps_len]
  have cab : ∀ i, i < ws.length - 1 → (clean ((steps ws).getD i 0) b ↔ clean (ws.getD i 0 - ws.getD (i + 1) 0) b) := fun i hi => by
    rw [steps_at hi]
    unfold ab
    split
    · rw [show -(ws.getD (i + 1) 0 - ws.getD i 0) = ws.getD i 0 - ws.getD (i + 1) 0 by omega]
    · constructor
      · intro c y y1 y2 e
        refine c y y1 y2 ?_
        rw [show ws.getD (i + 1) 0 - ws.getD i 0 = -(ws.getD i 0 - ws.getD (i + 1) 0) by omega, Int.mul_neg]
        exact (neg_iff (by omega)).mpr e
      · intro c y y1 y2 e
        refine c y y1 y2 ?_
        rw [show ws.getD i 0 - ws.getD (i + 1) 0 = -(ws.getD (i + 1) 0 - ws.getD i 0) by omega, Int.mul_neg]
        exact (neg_iff (by omega)).mpr e
  constructor
  · intro h i hi
    rw [cab i hi]
    intro y y1 y2 e
    have zl : (List.replicate ws.length (0 : Int)).length = ws.length := List.length_replicate
    have mem : rep (List.replicate ws.length (0 : Int)) (i + 1) y ∈ tl b ws.length := mem_tl (by rw [rep_len (by rw [zl]; omega), zl]) (fun w hw => by
      unfold rep at hw
      rcases List.mem_append.mp hw with hw | hw
      · rw [(List.mem_replicate.mp (List.mem_of_mem_take hw)).2]
        omega
      · rcases List.mem_cons.mp hw with rfl | hw
        · omega
        · rw [(List.mem_replicate.mp (List.mem_of_mem_drop hw)).2]
          omega)
    have q := List.all_eq_true.mp (h _ mem) i (List.mem_range.mpr hi)
    unfold okE at q
    rw [dot_swp (by omega) (by rw [rep_len (by rw [zl]; omega), zl]), rep_get (by rw [zl]; omega), rep_get (by rw [zl]; omega), if_neg (by omega), if_pos rfl, rep0_get, decide_eq_false (by omega), decide_eq_true ((same_iff (by omega)).mpr (by rw [Int.sub_zero]; exact e))] at q
    cases q
  · intro h row hr
    have tr := tl_row hr
    rw [List.all_eq_true]
    intro a ha
    have ha := List.mem_range.mp ha
    unfold okE
    by_cases e : row.getD a 0 = row.getD (a + 1) 0
    · rw [decide_eq_true e]
      rfl
    · have ra := tr.2 _ (getD_mem (ns := row) (i := a) (by omega))
      have rb := tr.2 _ (getD_mem (ns := row) (i := a + 1) (by omega))
      have c := clean_neg ((cab a ha).mp (h a ha)) (d := row.getD (a + 1) 0 - row.getD a 0) (by omega) (by omega) (by omega) (by omega)
      rw [decide_eq_false e, dot_swp (by omega) tr.1, decide_eq_false (fun z => c ((same_iff (by omega)).mp z))]
      rfl
theorem both_eq {ws : List Int} {b : Nat} (h : Rule ws b) (hm : ws.length ≤ 3) (hb : b ≤ 5) : lwB ws b = alW ws b ∧ leB ws b = alW (steps ws) b := by
  have h1 := h.1
  exact ⟨lw_eq (by omega) (by omega) h.2.2.2.2, le_eq (by omega) (by omega) h.2.2.2.2⟩
end L2.Eng.K58

namespace L2.Eng.K58
open PySem
section
variable {m : Nat} {sc : T} {p : List D} {ws : List Int} {b : Nat} {o4 o5 o6 o7 o8 o9 o10 o11 o12 o13 o14 o15 o16 o17 o18 o19 o20 : Option T}
theorem bool_mem {x : D} {a b : Int} (h : x ∈ [PyData.int a, PyData.int b, PyData.bool true]) : Pl x := by
  simp only [List.mem_cons, List.not_mem_nil, or_false] at h
  rcases h with rfl | rfl | rfl
  · exact .inl ⟨_, rfl⟩
  · exact .inl ⟨_, rfl⟩
  · exact .inr ⟨_, rfl⟩
/-- the refusals, 19 to 21 -/
theorem lastR (hp : Pool p) (hk : 10 < m) : ∃ ρ, exSs (lev fs Bx m) (.cons (.ifS (.or_ (.cmp .NotEq (.call "_law_refused" (.cons (.int 0) (.cons (.lst .nil) (.cons (.int 10) .nil))) []) (.str "paper")) (.cmp .NotEq (.call "_law_refused" (.cons (.int 0) (.cons (.lst (.cons (.int 1) (.cons (.call "_law_pick" (.cons (.nm 1) (.cons (.lst (.cons (.int 10) (.cons (.neg (.int 1)) (.cons (.bl true) .nil)))) .nil)) []) .nil))) (.cons (.int 10) .nil))) []) (.str "paper"))) (.cons (.ret (.bl false)) .nil) .nil) (.cons (.ifS (.or_ (.cmp .NotEq (.call "_law_refused" (.cons (.int 0) (.cons (.lst (.cons (.int 1) .nil)) (.cons (.call "_law_pick" (.cons (.nm 1) (.cons (.lst (.cons (.int 1) (.cons (.int 101) (.cons (.bl true) .nil)))) .nil)) []) .nil))) []) (.str "number")) (.cmp .NotEq (.call "_law_refused" (.cons (.int 0) (.cons (.lc (.one 17) [17] (.rng1 (.int 31)) .none (.int 1)) (.cons (.int 10) .nil))) []) (.str "many"))) (.cons (.ret (.bl false)) .nil) .nil) (.cons (.ret (.and_ (.cmp .Eq (.call "_law_refused" (.cons (.int 1) (.cons (.call "_law_pick" (.cons (.nm 1) (.cons (.lst (.cons (.int 0) (.cons (.int 31) (.cons (.bl true) .nil)))) .nil)) []) (.cons (.int 10) .nil))) []) (.str "number")) (.cmp .Eq (.call "_law_refused" (.cons (.int 1) (.cons (.int 3) (.cons (.call "_law_pick" (.cons (.nm 1) (.cons (.lst (.cons (.int 1) (.cons (.int 101) (.cons (.bl true) .nil)))) .nil)) []) .nil))) []) (.str "number")))) .nil))) (LT sc p ws b o4 o5 o6 o7 o8 o9 o10 o11 o12 o13 o14 o15 o16 o17 o18 o19 o20) = .ok (.rt (.fz (.bool true))) ρ := by
  obtain ⟨x1, p1, hp1, hx1, e1⟩ := s_pickO hp (ds := [.int 10, .int (-1), .bool true]) (by show 0 < 3; decide) (by show 3 < 1073741824; decide)
  obtain ⟨x2, p2, hp2, hx2, e2⟩ := s_pickO hp1 (ds := [.int 1, .int 101, .bool true]) (by show 0 < 3; decide) (by show 3 < 1073741824; decide)
  obtain ⟨x3, p3, hp3, hx3, e3⟩ := s_pickO hp2 (ds := [.int 0, .int 31, .bool true]) (by show 0 < 3; decide) (by show 3 < 1073741824; decide)
  obtain ⟨x4, p4, hp4, hx4, e4⟩ := s_pickO hp3 (ds := [.int 1, .int 101, .bool true]) (by show 0 < 3; decide) (by show 3 < 1073741824; decide)
  have e1 := e1 Bx m (by omega)
  have e2 := e2 Bx m (by omega)
  have e3 := e3 Bx m (by omega)
  have e4 := e4 Bx m (by omega)
  have pl1 := bool_mem hx1
  have pl2 := bool_mem hx2
  have pl3 := bool_mem hx3
  have pl4 := bool_mem hx4
  have n1 : numD 10 x1 = false := by
    simp only [List.mem_cons, List.not_mem_nil, or_false] at hx1
    rcases hx1 with rfl | rfl | rfl <;> rfl
  have n2 : num2 x2 = false := by
    simp only [List.mem_cons, List.not_mem_nil, or_false] at hx2
    rcases hx2 with rfl | rfl | rfl <;> rfl
  have n3 : num1 x3 = false := by
    simp only [List.mem_cons, List.not_mem_nil, or_false] at hx3
    rcases hx3 with rfl | rfl | rfl <;> rfl
  have n4 : num2 x4 = false := by
    simp only [List.mem_cons, List.not_mem_nil, or_false] at hx4
    rcases hx4 with rfl | rfl | rfl <;> rfl
  have q1 := q_paper (k := m) (ds := []) (b := 10) (by decide) (by decide) (fun _ z => nomatch z) (.inl rfl) (by omega)
  have q2 := q_paper (k := m) (ds := [.int 1, x1]) (b := 10) (by show 2 ≤ 30; decide) (by decide) (fun d hd => by
    rcases List.mem_cons.mp hd with rfl | hd
    · exact .inl ⟨_, rfl⟩
    · rw [List.mem_singleton.mp hd]
      exact pl1) (.inr (by
    show List.filter _ [PyData.int 1, x1] ≠ []
    intro z
    have := (List.filter_eq_nil_iff.mp z) x1 (by simp)
    rw [n1] at this
    exact this rfl)) (by omega)
  have q3 := q_num (k := m) (ds := [.int 1]) (d := x2) (by show 1 ≤ 30; decide) pl2 n2 (by omega)
  have q4 := q_many (k := m) (ds := (List.range 31).map fun _ => .int 1) (d := .int 10) (by rw [List.length_map, List.length_range]; decide) (by omega)
  have q5 := q_best (k := m) (d1 := x3) (d2 := .int 10) pl3 (.inl ⟨_, rfl⟩) (.inl n3) (by omega)
  have q6 := q_best (k := m) (d1 := .int 3) (d2 := x4) (.inl ⟨_, rfl⟩) pl4 (.inr n4) (by omega)
  have lc := fun p => lc_r1m (Φ := lev fs Bx m) (a := .int 31) (s := 17) (elt := .int 1) (ρ := LT sc p ws b o4 o5 o6 o7 o8 o9 o10 o11 o12 o13 o14 o15 o16 o17 o18 o19 o20) (ρ1 := LT sc p ws b o4 o5 o6 o7 o8 o9 o10 o11 o12 o13 o14 o15 o16 o17 o18 o19 o20) (x := .tmp (.fz (.int 31))) (n := 31) (fun _ => .int 1) rfl rfl (by show 17 < 21; decide) (by decide) (fun i hi => by simp -implicitDefEqProofs only [LT, e_nm, e_int, e_str, e_bl, e_non, e_glb, e_bin, e_neg, e_cmp, t_cmp, chn_if, e_chn, t_chn, e_and, e_or, t_and, t_or, e_not, t_not, e_ite, e_lst, e_tup, e_idx, e_slc, e_call, e_bi, e_rl1, e_rl2, e_isi, e_me, e_mu, t_nm, t_bl, t_idx, t_call, t_bi, t_isi, t_lc, t_bin, ds_nil, ds_cons, os_nil, os_cons, oi_none, oi_some, c_none, c_some, i_op, as_nm, as_mv, x_nil, x_cons, x_set, x_setF, x_setT, x_par, x_sub, x_expr, x_ret, x_if, x_raise, x_pass, x_brk, x_cont, x_tryC, bind_ok, bind_exc, map_ok, map_exc, of_some, bind_ite, map_ite, endR_ite, dflT, asT, asD, frz, ofB, cmpB, takeSlot, moveSlot, slotT, Opd.see, sees, T.view, truthD, cmpD, eqD, scalD, binD, negD, isKd, callF, takeA, putA, startR, endR_rt, endR_nx, endR_exc, backs, evB, evT, evD, evO, List.map_cons, List.map_nil, List.length_cons, List.length_nil, List.cons_append, List.nil_append, List.append_nil, List.set_cons_zero, List.set_cons_succ, List.getElem?_cons_zero, List.getElem?_cons_succ, List.replicate_zero, List.replicate_succ, Option.join_some, Option.join_none, Option.bind_some, Option.bind_none, Option.map_some, Option.map_none, Nat.reduceAdd, Nat.reduceSub, Nat.sub_self, List.any_cons, List.any_nil, Bool.or_false, Bool.false_or, Bool.or_true, Bool.true_or, Bool.and_true, Bool.true_and, Bool.and_false, Bool.false_and, Bool.not_true, Bool.not_false, Bool.false_eq_true, reduceIte, reduceCtorEq, decide_eq_true_eq, Bool.not_eq_true', decide_eq_false_iff_not, sz_eq, Nat.reduceLeDiff, isOl, subFin, muFin, muD, setFin, setMany, parFin, idxD, slcD, bi_len, bi_lenT, bi_abs, bi_int, bi_list, bi_listT, bi_max2, bi_min2, Ss.sets, S.sets, Tg.is, List.mem_cons, List.not_mem_nil, or_false, or_true, false_or, true_or, List.mem_append, List.append_assoc, List.append_eq])
  have m1 : (-(1 : Int)) = -1 := rfl
  have s1 : exS (lev fs Bx m) (.ifS (.or_ (.cmp .NotEq (.call "_law_refused" (.cons (.int 0) (.cons (.lst .nil) (.cons (.int 10) .nil))) []) (.str "paper")) (.cmp .NotEq (.call "_law_refused" (.cons (.int 0) (.cons (.lst (.cons (.int 1) (.cons (.call "_law_pick" (.cons (.nm 1) (.cons (.lst (.cons (.int 10) (.cons (.neg (.int 1)) (.cons (.bl true) .nil)))) .nil)) []) .nil))) (.cons (.int 10) .nil))) []) (.str "paper"))) (.cons (.ret (.bl false)) .nil) .nil) (LT sc p ws b o4 o5 o6 o7 o8 o9 o10 o11 o12 o13 o14 o15 o16 o17 o18 o19 o20) = .ok .nx (LT sc p1 ws b o4 o5 o6 o7 o8 o9 o10 o11 o12 o13 o14 o15 o16 o17 o18 o19 o20) := by
    simp -implicitDefEqProofs only [LT, e_nm, e_int, e_str, e_bl, e_non, e_glb, e_bin, e_neg, e_cmp, t_cmp, chn_if, e_chn, t_chn, e_and, e_or, t_and, t_or, e_not, t_not, e_ite, e_lst, e_tup, e_idx, e_slc, e_call, e_bi, e_rl1, e_rl2, e_isi, e_me, e_mu, t_nm, t_bl, t_idx, t_call, t_bi, t_isi, t_lc, t_bin, ds_nil, ds_cons, os_nil, os_cons, oi_none, oi_some, c_none, c_some, i_op, as_nm, as_mv, x_nil, x_cons, x_set, x_setF, x_setT, x_par, x_sub, x_expr, x_ret, x_if, x_raise, x_pass, x_brk, x_cont, x_tryC, bind_ok, bind_exc, map_ok, map_exc, of_some, bind_ite, map_ite, endR_ite, dflT, asT, asD, frz, ofB, cmpB, takeSlot, moveSlot, slotT, Opd.see, sees, T.view, truthD, cmpD, eqD, scalD, binD, negD, isKd, callF, takeA, putA, startR, endR_rt, endR_nx, endR_exc, backs, evB, evT, evD, evO, List.map_cons, List.map_nil, List.length_cons, List.length_nil, List.cons_append, List.nil_append, List.append_nil, List.set_cons_zero, List.set_cons_succ, List.getElem?_cons_zero, List.getElem?_cons_succ, List.replicate_zero, List.replicate_succ, Option.join_some, Option.join_none, Option.bind_some, Option.bind_none, Option.map_some, Option.map_none, Nat.reduceAdd, Nat.reduceSub, Nat.sub_self, List.any_cons, List.any_nil, Bool.or_false, Bool.false_or, Bool.or_true, Bool.true_or, Bool.and_true, Bool.true_and, Bool.and_false, Bool.false_and, Bool.not_true, Bool.not_false, Bool.false_eq_true, reduceIte, reduceCtorEq, decide_eq_true_eq, Bool.not_eq_true', decide_eq_false_iff_not, sz_eq, Nat.reduceLeDiff, isOl, subFin, muFin, muD, setFin, setMany, parFin, idxD, slcD, bi_len, bi_lenT, bi_abs, bi_int, bi_list, bi_listT, bi_max2, bi_min2, Ss.sets, S.sets, Tg.is, List.mem_cons, List.not_mem_nil, or_false, or_true, false_or, true_or, List.mem_append, List.append_assoc, List.append_eq, m1, e1, q1, q2, eqv_str, decide_true, Nat.zero_le]
  have s2 : exS (lev fs Bx m) (.ifS (.or_ (.cmp .NotEq (.call "_law_refused" (.cons (.int 0) (.cons (.lst (.cons (.int 1) .nil)) (.cons (.call "_law_pick" (.cons (.nm 1) (.cons (.lst (.cons (.int 1) (.cons (.int 101) (.cons (.bl true) .nil)))) .nil)) []) .nil))) []) (.str "number")) (.cmp .NotEq (.call "_law_refused" (.cons (.int 0) (.cons (.lc (.one 17) [17] (.rng1 (.int 31)) .none (.int 1)) (.cons (.int 10) .nil))) []) (.str "many"))) (.cons (.ret (.bl false)) .nil) .nil) (LT sc p1 ws b o4 o5 o6 o7 o8 o9 o10 o11 o12 o13 o14 o15 o16 o17 o18 o19 o20) = .ok .nx (LT sc p2 ws b o4 o5 o6 o7 o8 o9 o10 o11 o12 o13 o14 o15 o16 o17 o18 o19 o20) := by
    simp only [LT] at lc
    simp -implicitDefEqProofs only [LT, e_nm, e_int, e_str, e_bl, e_non, e_glb, e_bin, e_neg, e_cmp, t_cmp, chn_if, e_chn, t_chn, e_and, e_or, t_and, t_or, e_not, t_not, e_ite, e_lst, e_tup, e_idx, e_slc, e_call, e_bi, e_rl1, e_rl2, e_isi, e_me, e_mu, t_nm, t_bl, t_idx, t_call, t_bi, t_isi, t_lc, t_bin, ds_nil, ds_cons, os_nil, os_cons, oi_none, oi_some, c_none, c_some, i_op, as_nm, as_mv, x_nil, x_cons, x_set, x_setF, x_setT, x_par, x_sub, x_expr, x_ret, x_if, x_raise, x_pass, x_brk, x_cont, x_tryC, bind_ok, bind_exc, map_ok, map_exc, of_some, bind_ite, map_ite, endR_ite, dflT, asT, asD, frz, ofB, cmpB, takeSlot, moveSlot, slotT, Opd.see, sees, T.view, truthD, cmpD, eqD, scalD, binD, negD, isKd, callF, takeA, putA, startR, endR_rt, endR_nx, endR_exc, backs, evB, evT, evD, evO, List.map_cons, List.map_nil, List.length_cons, List.length_nil, List.cons_append, List.nil_append, List.append_nil, List.set_cons_zero, List.set_cons_succ, List.getElem?_cons_zero, List.getElem?_cons_succ, List.replicate_zero, List.replicate_succ, Option.join_some, Option.join_none, Option.bind_some, Option.bind_none, Option.map_some, Option.map_none, Nat.reduceAdd, Nat.reduceSub, Nat.sub_self, List.any_cons, List.any_nil, Bool.or_false, Bool.false_or, Bool.or_true, Bool.true_or, Bool.and_true, Bool.true_and, Bool.and_false, Bool.false_and, Bool.not_true, Bool.not_false, Bool.false_eq_true, reduceIte, reduceCtorEq, decide_eq_true_eq, Bool.not_eq_true', decide_eq_false_iff_not, sz_eq, Nat.reduceLeDiff, isOl, subFin, muFin, muD, setFin, setMany, parFin, idxD, slcD, bi_len, bi_lenT, bi_abs, bi_int, bi_list, bi_listT, bi_max2, bi_min2, Ss.sets, S.sets, Tg.is, List.mem_cons, List.not_mem_nil, or_false, or_true, false_or, true_or, List.mem_append, List.append_assoc, List.append_eq, e2, q3, q4, lc, eqv_str, decide_true]
  have s3 : exS (lev fs Bx m) (.ret (.and_ (.cmp .Eq (.call "_law_refused" (.cons (.int 1) (.cons (.call "_law_pick" (.cons (.nm 1) (.cons (.lst (.cons (.int 0) (.cons (.int 31) (.cons (.bl true) .nil)))) .nil)) []) (.cons (.int 10) .nil))) []) (.str "number")) (.cmp .Eq (.call "_law_refused" (.cons (.int 1) (.cons (.int 3) (.cons (.call "_law_pick" (.cons (.nm 1) (.cons (.lst (.cons (.int 1) (.cons (.int 101) (.cons (.bl true) .nil)))) .nil)) []) .nil))) []) (.str "number")))) (LT sc p2 ws b o4 o5 o6 o7 o8 o9 o10 o11 o12 o13 o14 o15 o16 o17 o18 o19 o20) = .ok (.rt (.fz (.bool true))) (LT sc p4 ws b o4 o5 o6 o7 o8 o9 o10 o11 o12 o13 o14 o15 o16 o17 o18 o19 o20) := by
    simp -implicitDefEqProofs only [LT, e_nm, e_int, e_str, e_bl, e_non, e_glb, e_bin, e_neg, e_cmp, t_cmp, chn_if, e_chn, t_chn, e_and, e_or, t_and, t_or, e_not, t_not, e_ite, e_lst, e_tup, e_idx, e_slc, e_call, e_bi, e_rl1, e_rl2, e_isi, e_me, e_mu, t_nm, t_bl, t_idx, t_call, t_bi, t_isi, t_lc, t_bin, ds_nil, ds_cons, os_nil, os_cons, oi_none, oi_some, c_none, c_some, i_op, as_nm, as_mv, x_nil, x_cons, x_set, x_setF, x_setT, x_par, x_sub, x_expr, x_ret, x_if, x_raise, x_pass, x_brk, x_cont, x_tryC, bind_ok, bind_exc, map_ok, map_exc, of_some, bind_ite, map_ite, endR_ite, dflT, asT, asD, frz, ofB, cmpB, takeSlot, moveSlot, slotT, Opd.see, sees, T.view, truthD, cmpD, eqD, scalD, binD, negD, isKd, callF, takeA, putA, startR, endR_rt, endR_nx, endR_exc, backs, evB, evT, evD, evO, List.map_cons, List.map_nil, List.length_cons, List.length_nil, List.cons_append, List.nil_append, List.append_nil, List.set_cons_zero, List.set_cons_succ, List.getElem?_cons_zero, List.getElem?_cons_succ, List.replicate_zero, List.replicate_succ, Option.join_some, Option.join_none, Option.bind_some, Option.bind_none, Option.map_some, Option.map_none, Nat.reduceAdd, Nat.reduceSub, Nat.sub_self, List.any_cons, List.any_nil, Bool.or_false, Bool.false_or, Bool.or_true, Bool.true_or, Bool.and_true, Bool.true_and, Bool.and_false, Bool.false_and, Bool.not_true, Bool.not_false, Bool.false_eq_true, reduceIte, reduceCtorEq, decide_eq_true_eq, Bool.not_eq_true', decide_eq_false_iff_not, sz_eq, Nat.reduceLeDiff, isOl, subFin, muFin, muD, setFin, setMany, parFin, idxD, slcD, bi_len, bi_lenT, bi_abs, bi_int, bi_list, bi_listT, bi_max2, bi_min2, Ss.sets, S.sets, Tg.is, List.mem_cons, List.not_mem_nil, or_false, or_true, false_or, true_or, List.mem_append, List.append_assoc, List.append_eq, e3, e4, q5, q6, eqv_str, decide_true]
  refine ⟨LT sc p4 ws b o4 o5 o6 o7 o8 o9 o10 o11 o12 o13 o14 o15 o16 o17 o18 o19 o20, ?_⟩
  rw [seq_nx s1, seq_nx s2, seq_rt s3]
end
theorem plainK (ns : List Int) (hns : ns.length ≤ 63) (k : Nat) (hk : 20 < k) : (lev fs Bx k).call "law" [.fz (.list (ns.map PyData.int))] = .ok (.fz (.bool true)) [.fz (.list (ns.map PyData.int))] := by
  rw [lev_call (F := f_law) rfl (by omega), run_fn rfl]
  generalize hm : k - 1 = m
  have hm : 10 < m := by omega
  obtain ⟨sc, hsc⟩ : ∃ sc : T, sc = .fz (.list (ns.map PyData.int)) := ⟨_, rfl⟩
  have pl := s_pool (B := Bx) (k := m) ns (by omega)
  have hp0 : Pool (poolL ns 0 0 0 0) := ⟨ns, 0, 0, 0, 0, rfl, by decide, hns⟩
  obtain ⟨ws, b, p1, hp1, hr, hl, hb, lr⟩ := s_lrule (B := Bx) (k := m) (most := 3) (wide := 4) hp0 (by decide) (by decide) (by omega)
  rw [show (((3 : Nat) : Int)) = 3 from rfl, show (((4 : Nat) : Int)) = 4 from rfl] at lr
  obtain ⟨bw, be⟩ := both_eq hr hl (by omega)
  have hx : Rx ws b := ⟨hr, by omega⟩
  have h1 := hr.2.2.1
  have h4 := hr.2.2.2.1
  have lw := s_lwrong (k := m) hr (by omega) hl (by omega)
  have le := s_lexch (k := m) hr (by omega) hl (by omega)
  rw [bw] at lw
  rw [be] at le
  have sh : (lev fs Bx m).call "shows_wrong" [.fz (il ws), .fz (.int b)] = .ok (.fz (.bool (alW ws b))) [.fz (il ws), .fz (.int b)] := s_shows (k := m) hr (by omega)
  have she : (lev fs Bx m).call "shows_exchanged" [.fz (il ws), .fz (.int b)] = .ok (.fz (.bool (alW (steps ws) b))) [.fz (il ws), .fz (.int b)] := s_showsE (k := m) hr (by omega)
  have cr := s_rule (B := Bx) (k := m) hr (by omega)
  have f2 := first2 (m := m) hx hm
  have f6 := first6 (m := m) hx hm
  have sb := fun v => s_same (B := Bx) (k := m) (n := 1) (d := .bool v) (t1 := .fz (.bool v)) (t2 := .fz (.bool v)) (by omega) trivial rfl rfl
  have st := s_same (B := Bx) (k := m) (n := 3) (d := .tuple [il ws, .int b]) (t1 := .fz (.tuple [il ws, .int b])) (t2 := .fz (.tuple [il ws, .int b])) (by omega) (by
    refine ⟨by show 2 ≤ 16777216; decide, fun e he => ?_⟩
    rcases List.mem_cons.mp he with rfl | he
    · refine ⟨by rw [List.length_map]; omega, fun e he => ?_⟩
      obtain ⟨x, _, rfl⟩ := List.mem_map.mp he
      trivial
    · rw [List.mem_singleton.mp he]
      trivial) rfl rfl
  have a0 : exS (lev fs Bx m) (.set 1 (.call "_law_pool" (.cons (.nm 0) .nil) [])) [some (.fz (.list (ns.map PyData.int))), none, none, none, none, none, none, none, none, none, none, none, none, none, none, none, none, none, none, none, none] = .ok .nx [some (.fz (.list (ns.map PyData.int))), some (.ol (poolL ns 0 0 0 0)), none, none, none, none, none, none, none, none, none, none, none, none, none, none, none, none, none, none, none] := by
    simp -implicitDefEqProofs only [e_nm, e_int, e_str, e_bl, e_non, e_glb, e_bin, e_neg, e_cmp, t_cmp, chn_if, e_chn, t_chn, e_and, e_or, t_and, t_or, e_not, t_not, e_ite, e_lst, e_tup, e_idx, e_slc, e_call, e_bi, e_rl1, e_rl2, e_isi, e_me, e_mu, t_nm, t_bl, t_idx, t_call, t_bi, t_isi, t_lc, t_bin, ds_nil, ds_cons, os_nil, os_cons, oi_none, oi_some, c_none, c_some, i_op, as_nm, as_mv, x_nil, x_cons, x_set, x_setF, x_setT, x_par, x_sub, x_expr, x_ret, x_if, x_raise, x_pass, x_brk, x_cont, x_tryC, bind_ok, bind_exc, map_ok, map_exc, of_some, bind_ite, map_ite, endR_ite, dflT, asT, asD, frz, ofB, cmpB, takeSlot, moveSlot, slotT, Opd.see, sees, T.view, truthD, cmpD, eqD, scalD, binD, negD, isKd, callF, takeA, putA, startR, endR_rt, endR_nx, endR_exc, backs, evB, evT, evD, evO, List.map_cons, List.map_nil, List.length_cons, List.length_nil, List.cons_append, List.nil_append, List.append_nil, List.set_cons_zero, List.set_cons_succ, List.getElem?_cons_zero, List.getElem?_cons_succ, List.replicate_zero, List.replicate_succ, Option.join_some, Option.join_none, Option.bind_some, Option.bind_none, Option.map_some, Option.map_none, Nat.reduceAdd, Nat.reduceSub, Nat.sub_self, List.any_cons, List.any_nil, Bool.or_false, Bool.false_or, Bool.or_true, Bool.true_or, Bool.and_true, Bool.true_and, Bool.and_false, Bool.false_and, Bool.not_true, Bool.not_false, Bool.false_eq_true, reduceIte, reduceCtorEq, decide_eq_true_eq, Bool.not_eq_true', decide_eq_false_iff_not, sz_eq, Nat.reduceLeDiff, isOl, subFin, muFin, muD, setFin, setMany, parFin, idxD, slcD, bi_len, bi_lenT, bi_abs, bi_int, bi_list, bi_listT, bi_max2, bi_min2, Ss.sets, S.sets, Tg.is, List.mem_cons, List.not_mem_nil, or_false, or_true, false_or, true_or, List.mem_append, List.append_assoc, List.append_eq, pl]
  have a1 : exS (lev fs Bx m) (.setT [2, 3] (.call "_law_rule" (.cons (.nm 1) (.cons (.int 3) (.cons (.int 4) .nil))) [])) [some (.fz (.list (ns.map PyData.int))), some (.ol (poolL ns 0 0 0 0)), none, none, none, none, none, none, none, none, none, none, none, none, none, none, none, none, none, none, none] = .ok .nx (LT sc p1 ws b none none none none none none none none none none none none none none none none none) := by
    rw [hsc]
    simp -implicitDefEqProofs only [LT, e_nm, e_int, e_str, e_bl, e_non, e_glb, e_bin, e_neg, e_cmp, t_cmp, chn_if, e_chn, t_chn, e_and, e_or, t_and, t_or, e_not, t_not, e_ite, e_lst, e_tup, e_idx, e_slc, e_call, e_bi, e_rl1, e_rl2, e_isi, e_me, e_mu, t_nm, t_bl, t_idx, t_call, t_bi, t_isi, t_lc, t_bin, ds_nil, ds_cons, os_nil, os_cons, oi_none, oi_some, c_none, c_some, i_op, as_nm, as_mv, x_nil, x_cons, x_set, x_setF, x_setT, x_par, x_sub, x_expr, x_ret, x_if, x_raise, x_pass, x_brk, x_cont, x_tryC, bind_ok, bind_exc, map_ok, map_exc, of_some, bind_ite, map_ite, endR_ite, dflT, asT, asD, frz, ofB, cmpB, takeSlot, moveSlot, slotT, Opd.see, sees, T.view, truthD, cmpD, eqD, scalD, binD, negD, isKd, callF, takeA, putA, startR, endR_rt, endR_nx, endR_exc, backs, evB, evT, evD, evO, List.map_cons, List.map_nil, List.length_cons, List.length_nil, List.cons_append, List.nil_append, List.append_nil, List.set_cons_zero, List.set_cons_succ, List.getElem?_cons_zero, List.getElem?_cons_succ, List.replicate_zero, List.replicate_succ, Option.join_some, Option.join_none, Option.bind_some, Option.bind_none, Option.map_some, Option.map_none, Nat.reduceAdd, Nat.reduceSub, Nat.sub_self, List.any_cons, List.any_nil, Bool.or_false, Bool.false_or, Bool.or_true, Bool.true_or, Bool.and_true, Bool.true_and, Bool.and_false, Bool.false_and, Bool.not_true, Bool.not_false, Bool.false_eq_true, reduceIte, reduceCtorEq, decide_eq_true_eq, Bool.not_eq_true', decide_eq_false_iff_not, sz_eq, Nat.reduceLeDiff, isOl, subFin, muFin, muD, setFin, setMany, parFin, idxD, slcD, bi_len, bi_lenT, bi_abs, bi_int, bi_list, bi_listT, bi_max2, bi_min2, Ss.sets, S.sets, Tg.is, List.mem_cons, List.not_mem_nil, or_false, or_true, false_or, true_or, List.mem_append, List.append_assoc, List.append_eq, lr]
  have a2 : exS (lev fs Bx m) (.setF 4 (.call "_law_wrong" (.cons (.nm 2) (.cons (.nm 3) .nil)) [])) (LT sc p1 ws b none none none none none none none none none none none none none none none none none) = .ok .nx (LT sc p1 ws b (some (.fz (.bool (alW ws b)))) none none none none none none none none none none none none none none none none) := by
    simp -implicitDefEqProofs only [LT, e_nm, e_int, e_str, e_bl, e_non, e_glb, e_bin, e_neg, e_cmp, t_cmp, chn_if, e_chn, t_chn, e_and, e_or, t_and, t_or, e_not, t_not, e_ite, e_lst, e_tup, e_idx, e_slc, e_call, e_bi, e_rl1, e_rl2, e_isi, e_me, e_mu, t_nm, t_bl, t_idx, t_call, t_bi, t_isi, t_lc, t_bin, ds_nil, ds_cons, os_nil, os_cons, oi_none, oi_some, c_none, c_some, i_op, as_nm, as_mv, x_nil, x_cons, x_set, x_setF, x_setT, x_par, x_sub, x_expr, x_ret, x_if, x_raise, x_pass, x_brk, x_cont, x_tryC, bind_ok, bind_exc, map_ok, map_exc, of_some, bind_ite, map_ite, endR_ite, dflT, asT, asD, frz, ofB, cmpB, takeSlot, moveSlot, slotT, Opd.see, sees, T.view, truthD, cmpD, eqD, scalD, binD, negD, isKd, callF, takeA, putA, startR, endR_rt, endR_nx, endR_exc, backs, evB, evT, evD, evO, List.map_cons, List.map_nil, List.length_cons, List.length_nil, List.cons_append, List.nil_append, List.append_nil, List.set_cons_zero, List.set_cons_succ, List.getElem?_cons_zero, List.getElem?_cons_succ, List.replicate_zero, List.replicate_succ, Option.join_some, Option.join_none, Option.bind_some, Option.bind_none, Option.map_some, Option.map_none, Nat.reduceAdd, Nat.reduceSub, Nat.sub_self, List.any_cons, List.any_nil, Bool.or_false, Bool.false_or, Bool.or_true, Bool.true_or, Bool.and_true, Bool.true_and, Bool.and_false, Bool.false_and, Bool.not_true, Bool.not_false, Bool.false_eq_true, reduceIte, reduceCtorEq, decide_eq_true_eq, Bool.not_eq_true', decide_eq_false_iff_not, sz_eq, Nat.reduceLeDiff, isOl, subFin, muFin, muD, setFin, setMany, parFin, idxD, slcD, bi_len, bi_lenT, bi_abs, bi_int, bi_list, bi_listT, bi_max2, bi_min2, Ss.sets, S.sets, Tg.is, List.mem_cons, List.not_mem_nil, or_false, or_true, false_or, true_or, List.mem_append, List.append_assoc, List.append_eq, lw]
  have a3 : exS (lev fs Bx m) (.setF 5 (.call "_law_exchanged" (.cons (.nm 2) (.cons (.nm 3) .nil)) [])) (LT sc p1 ws b (some (.fz (.bool (alW ws b)))) none none none none none none none none none none none none none none none none) = .ok .nx (LT sc p1 ws b (some (.fz (.bool (alW ws b)))) (some (.fz (.bool (alW (steps ws) b)))) none none none none none none none none none none none none none none none) := by
    simp -implicitDefEqProofs only [LT, e_nm, e_int, e_str, e_bl, e_non, e_glb, e_bin, e_neg, e_cmp, t_cmp, chn_if, e_chn, t_chn, e_and, e_or, t_and, t_or, e_not, t_not, e_ite, e_lst, e_tup, e_idx, e_slc, e_call, e_bi, e_rl1, e_rl2, e_isi, e_me, e_mu, t_nm, t_bl, t_idx, t_call, t_bi, t_isi, t_lc, t_bin, ds_nil, ds_cons, os_nil, os_cons, oi_none, oi_some, c_none, c_some, i_op, as_nm, as_mv, x_nil, x_cons, x_set, x_setF, x_setT, x_par, x_sub, x_expr, x_ret, x_if, x_raise, x_pass, x_brk, x_cont, x_tryC, bind_ok, bind_exc, map_ok, map_exc, of_some, bind_ite, map_ite, endR_ite, dflT, asT, asD, frz, ofB, cmpB, takeSlot, moveSlot, slotT, Opd.see, sees, T.view, truthD, cmpD, eqD, scalD, binD, negD, isKd, callF, takeA, putA, startR, endR_rt, endR_nx, endR_exc, backs, evB, evT, evD, evO, List.map_cons, List.map_nil, List.length_cons, List.length_nil, List.cons_append, List.nil_append, List.append_nil, List.set_cons_zero, List.set_cons_succ, List.getElem?_cons_zero, List.getElem?_cons_succ, List.replicate_zero, List.replicate_succ, Option.join_some, Option.join_none, Option.bind_some, Option.bind_none, Option.map_some, Option.map_none, Nat.reduceAdd, Nat.reduceSub, Nat.sub_self, List.any_cons, List.any_nil, Bool.or_false, Bool.false_or, Bool.or_true, Bool.true_or, Bool.and_true, Bool.true_and, Bool.and_false, Bool.false_and, Bool.not_true, Bool.not_false, Bool.false_eq_true, reduceIte, reduceCtorEq, decide_eq_true_eq, Bool.not_eq_true', decide_eq_false_iff_not, sz_eq, Nat.reduceLeDiff, isOl, subFin, muFin, muD, setFin, setMany, parFin, idxD, slcD, bi_len, bi_lenT, bi_abs, bi_int, bi_list, bi_listT, bi_max2, bi_min2, Ss.sets, S.sets, Tg.is, List.mem_cons, List.not_mem_nil, or_false, or_true, false_or, true_or, List.mem_append, List.append_assoc, List.append_eq, le]
  have a4 : exS (lev fs Bx m) (.ifS (.or_ (.not_ (.call "_law_same" (.cons (.call "shows_wrong" (.cons (.nm 2) (.cons (.nm 3) .nil)) []) (.cons (.nm 4) .nil)) [])) (.not_ (.call "_law_same" (.cons (.call "checked_rule" (.cons (.nm 2) (.cons (.nm 3) .nil)) []) (.cons (.tup (.cons (.nm 2) (.cons (.nm 3) .nil))) .nil)) []))) (.cons (.ret (.bl false)) .nil) .nil) (LT sc p1 ws b (some (.fz (.bool (alW ws b)))) (some (.fz (.bool (alW (steps ws) b)))) none none none none none none none none none none none none none none none) = .ok .nx (LT sc p1 ws b (some (.fz (.bool (alW ws b)))) (some (.fz (.bool (alW (steps ws) b)))) none none none none none none none none none none none none none none none) := by
    simp -implicitDefEqProofs only [LT, e_nm, e_int, e_str, e_bl, e_non, e_glb, e_bin, e_neg, e_cmp, t_cmp, chn_if, e_chn, t_chn, e_and, e_or, t_and, t_or, e_not, t_not, e_ite, e_lst, e_tup, e_idx, e_slc, e_call, e_bi, e_rl1, e_rl2, e_isi, e_me, e_mu, t_nm, t_bl, t_idx, t_call, t_bi, t_isi, t_lc, t_bin, ds_nil, ds_cons, os_nil, os_cons, oi_none, oi_some, c_none, c_some, i_op, as_nm, as_mv, x_nil, x_cons, x_set, x_setF, x_setT, x_par, x_sub, x_expr, x_ret, x_if, x_raise, x_pass, x_brk, x_cont, x_tryC, bind_ok, bind_exc, map_ok, map_exc, of_some, bind_ite, map_ite, endR_ite, dflT, asT, asD, frz, ofB, cmpB, takeSlot, moveSlot, slotT, Opd.see, sees, T.view, truthD, cmpD, eqD, scalD, binD, negD, isKd, callF, takeA, putA, startR, endR_rt, endR_nx, endR_exc, backs, evB, evT, evD, evO, List.map_cons, List.map_nil, List.length_cons, List.length_nil, List.cons_append, List.nil_append, List.append_nil, List.set_cons_zero, List.set_cons_succ, List.getElem?_cons_zero, List.getElem?_cons_succ, List.replicate_zero, List.replicate_succ, Option.join_some, Option.join_none, Option.bind_some, Option.bind_none, Option.map_some, Option.map_none, Nat.reduceAdd, Nat.reduceSub, Nat.sub_self, List.any_cons, List.any_nil, Bool.or_false, Bool.false_or, Bool.or_true, Bool.true_or, Bool.and_true, Bool.true_and, Bool.and_false, Bool.false_and, Bool.not_true, Bool.not_false, Bool.false_eq_true, reduceIte, reduceCtorEq, decide_eq_true_eq, Bool.not_eq_true', decide_eq_false_iff_not, sz_eq, Nat.reduceLeDiff, isOl, subFin, muFin, muD, setFin, setMany, parFin, idxD, slcD, bi_len, bi_lenT, bi_abs, bi_int, bi_list, bi_listT, bi_max2, bi_min2, Ss.sets, S.sets, Tg.is, List.mem_cons, List.not_mem_nil, or_false, or_true, false_or, true_or, List.mem_append, List.append_assoc, List.append_eq, sh, sb, cr, st]
  have hlen : (ev2 (lev fs Bx m) (.bin .Sub (.bi .len (.cons (.nm 2) .nil)) (.int 1))).1 (LT sc p1 ws b (some (.fz (.bool (alW ws b)))) (some (.fz (.bool (alW (steps ws) b)))) none none none none none none none none none none none none none none none) = .ok (.tmp (.fz (.int ((ws.length : Int) - 1)))) (LT sc p1 ws b (some (.fz (.bool (alW ws b)))) (some (.fz (.bool (alW (steps ws) b)))) none none none none none none none none none none none none none none none) := by
    simp -implicitDefEqProofs only [LT, e_nm, e_int, e_str, e_bl, e_non, e_glb, e_bin, e_neg, e_cmp, t_cmp, chn_if, e_chn, t_chn, e_and, e_or, t_and, t_or, e_not, t_not, e_ite, e_lst, e_tup, e_idx, e_slc, e_call, e_bi, e_rl1, e_rl2, e_isi, e_me, e_mu, t_nm, t_bl, t_idx, t_call, t_bi, t_isi, t_lc, t_bin, ds_nil, ds_cons, os_nil, os_cons, oi_none, oi_some, c_none, c_some, i_op, as_nm, as_mv, x_nil, x_cons, x_set, x_setF, x_setT, x_par, x_sub, x_expr, x_ret, x_if, x_raise, x_pass, x_brk, x_cont, x_tryC, bind_ok, bind_exc, map_ok, map_exc, of_some, bind_ite, map_ite, endR_ite, dflT, asT, asD, frz, ofB, cmpB, takeSlot, moveSlot, slotT, Opd.see, sees, T.view, truthD, cmpD, eqD, scalD, binD, negD, isKd, callF, takeA, putA, startR, endR_rt, endR_nx, endR_exc, backs, evB, evT, evD, evO, List.map_cons, List.map_nil, List.length_cons, List.length_nil, List.cons_append, List.nil_append, List.append_nil, List.set_cons_zero, List.set_cons_succ, List.getElem?_cons_zero, List.getElem?_cons_succ, List.replicate_zero, List.replicate_succ, Option.join_some, Option.join_none, Option.bind_some, Option.bind_none, Option.map_some, Option.map_none, Nat.reduceAdd, Nat.reduceSub, Nat.sub_self, List.any_cons, List.any_nil, Bool.or_false, Bool.false_or, Bool.or_true, Bool.true_or, Bool.and_true, Bool.true_and, Bool.and_false, Bool.false_and, Bool.not_true, Bool.not_false, Bool.false_eq_true, reduceIte, reduceCtorEq, decide_eq_true_eq, Bool.not_eq_true', decide_eq_false_iff_not, sz_eq, Nat.reduceLeDiff, isOl, subFin, muFin, muD, setFin, setMany, parFin, idxD, slcD, bi_len, bi_lenT, bi_abs, bi_int, bi_list, bi_listT, bi_max2, bi_min2, Ss.sets, S.sets, Tg.is, List.mem_cons, List.not_mem_nil, or_false, or_true, false_or, true_or, List.mem_append, List.append_assoc, List.append_eq, List.length_map]
  have lc := stepsE (Φ := lev fs Bx m) (ws := ws) (i := 2) (j := 17) (ρ := LT sc p1 ws b (some (.fz (.bool (alW ws b)))) (some (.fz (.bool (alW (steps ws) b)))) none none none none none none none none none none none none none none none) rfl hlen h1 (by omega) (by show 17 < 21; decide) (by decide)
  have a5 : exS (lev fs Bx m) (.setF 6 (.lc (.one 17) [17] (.rng1 (.bin .Sub (.bi .len (.cons (.nm 2) .nil)) (.int 1))) .none (.bi .abs (.cons (.bin .Sub (.idx (.nm 2) (.bin .Add (.nm 17) (.int 1))) (.idx (.nm 2) (.nm 17))) .nil)))) (LT sc p1 ws b (some (.fz (.bool (alW ws b)))) (some (.fz (.bool (alW (steps ws) b)))) none none none none none none none none none none none none none none none) = .ok .nx (LT sc p1 ws b (some (.fz (.bool (alW ws b)))) (some (.fz (.bool (alW (steps ws) b)))) (some (.fz (il (steps ws)))) none none none none none none none none none none none none none none) := by
    simp only [LT] at lc
    simp -implicitDefEqProofs only [LT, e_nm, e_int, e_str, e_bl, e_non, e_glb, e_bin, e_neg, e_cmp, t_cmp, chn_if, e_chn, t_chn, e_and, e_or, t_and, t_or, e_not, t_not, e_ite, e_lst, e_tup, e_idx, e_slc, e_call, e_bi, e_rl1, e_rl2, e_isi, e_me, e_mu, t_nm, t_bl, t_idx, t_call, t_bi, t_isi, t_lc, t_bin, ds_nil, ds_cons, os_nil, os_cons, oi_none, oi_some, c_none, c_some, i_op, as_nm, as_mv, x_nil, x_cons, x_set, x_setF, x_setT, x_par, x_sub, x_expr, x_ret, x_if, x_raise, x_pass, x_brk, x_cont, x_tryC, bind_ok, bind_exc, map_ok, map_exc, of_some, bind_ite, map_ite, endR_ite, dflT, asT, asD, frz, ofB, cmpB, takeSlot, moveSlot, slotT, Opd.see, sees, T.view, truthD, cmpD, eqD, scalD, binD, negD, isKd, callF, takeA, putA, startR, endR_rt, endR_nx, endR_exc, backs, evB, evT, evD, evO, List.map_cons, List.map_nil, List.length_cons, List.length_nil, List.cons_append, List.nil_append, List.append_nil, List.set_cons_zero, List.set_cons_succ, List.getElem?_cons_zero, List.getElem?_cons_succ, List.replicate_zero, List.replicate_succ, Option.join_some, Option.join_none, Option.bind_some, Option.bind_none, Option.map_some, Option.map_none, Nat.reduceAdd, Nat.reduceSub, Nat.sub_self, List.any_cons, List.any_nil, Bool.or_false, Bool.false_or, Bool.or_true, Bool.true_or, Bool.and_true, Bool.true_and, Bool.and_false, Bool.false_and, Bool.not_true, Bool.not_false, Bool.false_eq_true, reduceIte, reduceCtorEq, decide_eq_true_eq, Bool.not_eq_true', decide_eq_false_iff_not, sz_eq, Nat.reduceLeDiff, isOl, subFin, muFin, muD, setFin, setMany, parFin, idxD, slcD, bi_len, bi_lenT, bi_abs, bi_int, bi_list, bi_listT, bi_max2, bi_min2, Ss.sets, S.sets, Tg.is, List.mem_cons, List.not_mem_nil, or_false, or_true, false_or, true_or, List.mem_append, List.append_assoc, List.append_eq, lc]
  have a6 : exS (lev fs Bx m) (.setF 7 (.cmp .Is (.call "_law_first" (.cons (.nm 6) (.cons (.nm 3) .nil)) []) .non)) (LT sc p1 ws b (some (.fz (.bool (alW ws b)))) (some (.fz (.bool (alW (steps ws) b)))) (some (.fz (il (steps ws)))) none none none none none none none none none none none none none none) = .ok .nx (LT sc p1 ws b (some (.fz (.bool (alW ws b)))) (some (.fz (.bool (alW (steps ws) b)))) (some (.fz (il (steps ws)))) (some (.fz (.bool (alW (steps ws) b)))) none none none none none none none none none none none none none) := by
    simp -implicitDefEqProofs only [LT, e_nm, e_int, e_str, e_bl, e_non, e_glb, e_bin, e_neg, e_cmp, t_cmp, chn_if, e_chn, t_chn, e_and, e_or, t_and, t_or, e_not, t_not, e_ite, e_lst, e_tup, e_idx, e_slc, e_call, e_bi, e_rl1, e_rl2, e_isi, e_me, e_mu, t_nm, t_bl, t_idx, t_call, t_bi, t_isi, t_lc, t_bin, ds_nil, ds_cons, os_nil, os_cons, oi_none, oi_some, c_none, c_some, i_op, as_nm, as_mv, x_nil, x_cons, x_set, x_setF, x_setT, x_par, x_sub, x_expr, x_ret, x_if, x_raise, x_pass, x_brk, x_cont, x_tryC, bind_ok, bind_exc, map_ok, map_exc, of_some, bind_ite, map_ite, endR_ite, dflT, asT, asD, frz, ofB, cmpB, takeSlot, moveSlot, slotT, Opd.see, sees, T.view, truthD, cmpD, eqD, scalD, binD, negD, isKd, callF, takeA, putA, startR, endR_rt, endR_nx, endR_exc, backs, evB, evT, evD, evO, List.map_cons, List.map_nil, List.length_cons, List.length_nil, List.cons_append, List.nil_append, List.append_nil, List.set_cons_zero, List.set_cons_succ, List.getElem?_cons_zero, List.getElem?_cons_succ, List.replicate_zero, List.replicate_succ, Option.join_some, Option.join_none, Option.bind_some, Option.bind_none, Option.map_some, Option.map_none, Nat.reduceAdd, Nat.reduceSub, Nat.sub_self, List.any_cons, List.any_nil, Bool.or_false, Bool.false_or, Bool.or_true, Bool.true_or, Bool.and_true, Bool.true_and, Bool.and_false, Bool.false_and, Bool.not_true, Bool.not_false, Bool.false_eq_true, reduceIte, reduceCtorEq, decide_eq_true_eq, Bool.not_eq_true', decide_eq_false_iff_not, sz_eq, Nat.reduceLeDiff, isOl, subFin, muFin, muD, setFin, setMany, parFin, idxD, slcD, bi_len, bi_lenT, bi_abs, bi_int, bi_list, bi_listT, bi_max2, bi_min2, Ss.sets, S.sets, Tg.is, List.mem_cons, List.not_mem_nil, or_false, or_true, false_or, true_or, List.mem_append, List.append_assoc, List.append_eq, f6, non_first]
  have a7 : exS (lev fs Bx m) (.ifS (.or_ (.not_ (.call "_law_same" (.cons (.call "shows_exchanged" (.cons (.nm 2) (.cons (.nm 3) .nil)) []) (.cons (.nm 7) .nil)) [])) (.or_ (.cmp .NotEq (.nm 5) (.nm 7)) (.cmp .NotEq (.nm 4) (.cmp .Is (.call "_law_first" (.cons (.nm 2) (.cons (.nm 3) .nil)) []) .non)))) (.cons (.ret (.bl false)) .nil) .nil) (LT sc p1 ws b (some (.fz (.bool (alW ws b)))) (some (.fz (.bool (alW (steps ws) b)))) (some (.fz (il (steps ws)))) (some (.fz (.bool (alW (steps ws) b)))) none none none none none none none none none none none none none) = .ok .nx (LT sc p1 ws b (some (.fz (.bool (alW ws b)))) (some (.fz (.bool (alW (steps ws) b)))) (some (.fz (il (steps ws)))) (some (.fz (.bool (alW (steps ws) b)))) none none none none none none none none none none none none none) := by
    simp -implicitDefEqProofs only [LT, e_nm, e_int, e_str, e_bl, e_non, e_glb, e_bin, e_neg, e_cmp, t_cmp, chn_if, e_chn, t_chn, e_and, e_or, t_and, t_or, e_not, t_not, e_ite, e_lst, e_tup, e_idx, e_slc, e_call, e_bi, e_rl1, e_rl2, e_isi, e_me, e_mu, t_nm, t_bl, t_idx, t_call, t_bi, t_isi, t_lc, t_bin, ds_nil, ds_cons, os_nil, os_cons, oi_none, oi_some, c_none, c_some, i_op, as_nm, as_mv, x_nil, x_cons, x_set, x_setF, x_setT, x_par, x_sub, x_expr, x_ret, x_if, x_raise, x_pass, x_brk, x_cont, x_tryC, bind_ok, bind_exc, map_ok, map_exc, of_some, bind_ite, map_ite, endR_ite, dflT, asT, asD, frz, ofB, cmpB, takeSlot, moveSlot, slotT, Opd.see, sees, T.view, truthD, cmpD, eqD, scalD, binD, negD, isKd, callF, takeA, putA, startR, endR_rt, endR_nx, endR_exc, backs, evB, evT, evD, evO, List.map_cons, List.map_nil, List.length_cons, List.length_nil, List.cons_append, List.nil_append, List.append_nil, List.set_cons_zero, List.set_cons_succ, List.getElem?_cons_zero, List.getElem?_cons_succ, List.replicate_zero, List.replicate_succ, Option.join_some, Option.join_none, Option.bind_some, Option.bind_none, Option.map_some, Option.map_none, Nat.reduceAdd, Nat.reduceSub, Nat.sub_self, List.any_cons, List.any_nil, Bool.or_false, Bool.false_or, Bool.or_true, Bool.true_or, Bool.and_true, Bool.true_and, Bool.and_false, Bool.false_and, Bool.not_true, Bool.not_false, Bool.false_eq_true, reduceIte, reduceCtorEq, decide_eq_true_eq, Bool.not_eq_true', decide_eq_false_iff_not, sz_eq, Nat.reduceLeDiff, isOl, subFin, muFin, muD, setFin, setMany, parFin, idxD, slcD, bi_len, bi_lenT, bi_abs, bi_int, bi_list, bi_listT, bi_max2, bi_min2, Ss.sets, S.sets, Tg.is, List.mem_cons, List.not_mem_nil, or_false, or_true, false_or, true_or, List.mem_append, List.append_assoc, List.append_eq, she, sb, f2, non_first, eqv_bool, decide_true]
  obtain ⟨ws2, b2, p2, o8, o16, o18, o20, hp2, hx2, a8⟩ := turns (m := m) (sc := sc) (p := p1) (ws := ws) (b := b) (o4 := some (.fz (.bool (alW ws b)))) (o5 := some (.fz (.bool (alW (steps ws) b)))) (o7 := some (.fz (.bool (alW (steps ws) b)))) (o8 := none) (o9 := none) (o10 := none) (o11 := none) (o12 := none) (o13 := none) (o14 := none) (o15 := none) (o16 := none) (o17 := none) (o18 := none) (o19 := none) (o20 := none) hp1 hx hm
  generalize some (T.fz (.bool (alW ws b))) = o4 at a2 a3 a4 a5 a6 a7 a8
  generalize some (T.fz (.bool (alW (steps ws) b))) = o5 at a3 a4 a5 a6 a7 a8
  obtain ⟨r1, p3, hp3, r10, r11, d1⟩ := s_draw hp2 (m := 3) (by decide) (by decide)
  obtain ⟨r2, p4, hp4, r20, r21, d2⟩ := s_draw hp3 (m := 8) (by decide) (by decide)
  obtain ⟨r3, p5, hp5, r30, r31, d3⟩ := s_draw hp4 (m := 60) (by decide) (by decide)
  obtain ⟨r4, p6, hp6, r40, r41, d4⟩ := s_draw hp5 (m := 60) (by decide) (by decide)
  have d1 := d1 Bx m (by omega)
  have d2 := d2 Bx m (by omega)
  have d3 := d3 Bx m (by omega)
  have d4 := d4 Bx m (by omega)
  obtain ⟨n, hn⟩ : ∃ n : Nat, 1 + r1 = n := ⟨(1 + r1).toNat, by omega⟩
  obtain ⟨c, hc⟩ : ∃ c : Nat, 2 + r2 = c := ⟨(2 + r2).toNat, by omega⟩
  obtain ⟨x, rfl⟩ : ∃ x : Nat, r3 = x := ⟨r3.toNat, by omega⟩
  obtain ⟨y, rfl⟩ : ∃ y : Nat, r4 = y := ⟨r4.toNat, by omega⟩
  have hn3 : 0 < n ∧ n ≤ 3 := by omega
  have hc9 : 2 ≤ c ∧ c ≤ 9 := by omega
  have bw := s_best (k := m) (m := n) (b := c) (by omega) hc9 (by omega)
  have a9 : exS (lev fs Bx m) (.setF 9 (.bin .Add (.int 1) (.call "_law_draw" (.cons (.nm 1) (.cons (.int 3) .nil)) []))) (LT sc p2 ws2 b2 o4 o5 (some (.fz (il (steps ws2)))) o5 o8 none none none none none none none o16 none o18 none o20) = .ok .nx (LT sc p3 ws2 b2 o4 o5 (some (.fz (il (steps ws2)))) o5 o8 (some (.fz (.int n))) none none none none none none o16 none o18 none o20) := by
    simp -implicitDefEqProofs only [LT, e_nm, e_int, e_str, e_bl, e_non, e_glb, e_bin, e_neg, e_cmp, t_cmp, chn_if, e_chn, t_chn, e_and, e_or, t_and, t_or, e_not, t_not, e_ite, e_lst, e_tup, e_idx, e_slc, e_call, e_bi, e_rl1, e_rl2, e_isi, e_me, e_mu, t_nm, t_bl, t_idx, t_call, t_bi, t_isi, t_lc, t_bin, ds_nil, ds_cons, os_nil, os_cons, oi_none, oi_some, c_none, c_some, i_op, as_nm, as_mv, x_nil, x_cons, x_set, x_setF, x_setT, x_par, x_sub, x_expr, x_ret, x_if, x_raise, x_pass, x_brk, x_cont, x_tryC, bind_ok, bind_exc, map_ok, map_exc, of_some, bind_ite, map_ite, endR_ite, dflT, asT, asD, frz, ofB, cmpB, takeSlot, moveSlot, slotT, Opd.see, sees, T.view, truthD, cmpD, eqD, scalD, binD, negD, isKd, callF, takeA, putA, startR, endR_rt, endR_nx, endR_exc, backs, evB, evT, evD, evO, List.map_cons, List.map_nil, List.length_cons, List.length_nil, List.cons_append, List.nil_append, List.append_nil, List.set_cons_zero, List.set_cons_succ, List.getElem?_cons_zero, List.getElem?_cons_succ, List.replicate_zero, List.replicate_succ, Option.join_some, Option.join_none, Option.bind_some, Option.bind_none, Option.map_some, Option.map_none, Nat.reduceAdd, Nat.reduceSub, Nat.sub_self, List.any_cons, List.any_nil, Bool.or_false, Bool.false_or, Bool.or_true, Bool.true_or, Bool.and_true, Bool.true_and, Bool.and_false, Bool.false_and, Bool.not_true, Bool.not_false, Bool.false_eq_true, reduceIte, reduceCtorEq, decide_eq_true_eq, Bool.not_eq_true', decide_eq_false_iff_not, sz_eq, Nat.reduceLeDiff, isOl, subFin, muFin, muD, setFin, setMany, parFin, idxD, slcD, bi_len, bi_lenT, bi_abs, bi_int, bi_list, bi_listT, bi_max2, bi_min2, Ss.sets, S.sets, Tg.is, List.mem_cons, List.not_mem_nil, or_false, or_true, false_or, true_or, List.mem_append, List.append_assoc, List.append_eq, d1, hn]
  have a10 : exS (lev fs Bx m) (.setF 3 (.bin .Add (.int 2) (.call "_law_draw" (.cons (.nm 1) (.cons (.int 8) .nil)) []))) (LT sc p3 ws2 b2 o4 o5 (some (.fz (il (steps ws2)))) o5 o8 (some (.fz (.int n))) none none none none none none o16 none o18 none o20) = .ok .nx (LT sc p4 ws2 c o4 o5 (some (.fz (il (steps ws2)))) o5 o8 (some (.fz (.int n))) none none none none none none o16 none o18 none o20) := by
    simp -implicitDefEqProofs only [LT, e_nm, e_int, e_str, e_bl, e_non, e_glb, e_bin, e_neg, e_cmp, t_cmp, chn_if, e_chn, t_chn, e_and, e_or, t_and, t_or, e_not, t_not, e_ite, e_lst, e_tup, e_idx, e_slc, e_call, e_bi, e_rl1, e_rl2, e_isi, e_me, e_mu, t_nm, t_bl, t_idx, t_call, t_bi, t_isi, t_lc, t_bin, ds_nil, ds_cons, os_nil, os_cons, oi_none, oi_some, c_none, c_some, i_op, as_nm, as_mv, x_nil, x_cons, x_set, x_setF, x_setT, x_par, x_sub, x_expr, x_ret, x_if, x_raise, x_pass, x_brk, x_cont, x_tryC, bind_ok, bind_exc, map_ok, map_exc, of_some, bind_ite, map_ite, endR_ite, dflT, asT, asD, frz, ofB, cmpB, takeSlot, moveSlot, slotT, Opd.see, sees, T.view, truthD, cmpD, eqD, scalD, binD, negD, isKd, callF, takeA, putA, startR, endR_rt, endR_nx, endR_exc, backs, evB, evT, evD, evO, List.map_cons, List.map_nil, List.length_cons, List.length_nil, List.cons_append, List.nil_append, List.append_nil, List.set_cons_zero, List.set_cons_succ, List.getElem?_cons_zero, List.getElem?_cons_succ, List.replicate_zero, List.replicate_succ, Option.join_some, Option.join_none, Option.bind_some, Option.bind_none, Option.map_some, Option.map_none, Nat.reduceAdd, Nat.reduceSub, Nat.sub_self, List.any_cons, List.any_nil, Bool.or_false, Bool.false_or, Bool.or_true, Bool.true_or, Bool.and_true, Bool.true_and, Bool.and_false, Bool.false_and, Bool.not_true, Bool.not_false, Bool.false_eq_true, reduceIte, reduceCtorEq, decide_eq_true_eq, Bool.not_eq_true', decide_eq_false_iff_not, sz_eq, Nat.reduceLeDiff, isOl, subFin, muFin, muD, setFin, setMany, parFin, idxD, slcD, bi_len, bi_lenT, bi_abs, bi_int, bi_list, bi_listT, bi_max2, bi_min2, Ss.sets, S.sets, Tg.is, List.mem_cons, List.not_mem_nil, or_false, or_true, false_or, true_or, List.mem_append, List.append_assoc, List.append_eq, d2, hc]
  have a11 : exS (lev fs Bx m) (.setF 10 (.call "best_weights" (.cons (.nm 9) (.cons (.nm 3) .nil)) [])) (LT sc p4 ws2 c o4 o5 (some (.fz (il (steps ws2)))) o5 o8 (some (.fz (.int n))) none none none none none none o16 none o18 none o20) = .ok .nx (LT sc p4 ws2 c o4 o5 (some (.fz (il (steps ws2)))) o5 o8 (some (.fz (.int n))) (some (.fz (toldD (bwO n c)))) none none none none none o16 none o18 none o20) := by
    cases hq : bwO n c with
    | none =>
      rw [hq] at bw
      simp -implicitDefEqProofs only [LT, e_nm, e_int, e_str, e_bl, e_non, e_glb, e_bin, e_neg, e_cmp, t_cmp, chn_if, e_chn, t_chn, e_and, e_or, t_and, t_or, e_not, t_not, e_ite, e_lst, e_tup, e_idx, e_slc, e_call, e_bi, e_rl1, e_rl2, e_isi, e_me, e_mu, t_nm, t_bl, t_idx, t_call, t_bi, t_isi, t_lc, t_bin, ds_nil, ds_cons, os_nil, os_cons, oi_none, oi_some, c_none, c_some, i_op, as_nm, as_mv, x_nil, x_cons, x_set, x_setF, x_setT, x_par, x_sub, x_expr, x_ret, x_if, x_raise, x_pass, x_brk, x_cont, x_tryC, bind_ok, bind_exc, map_ok, map_exc, of_some, bind_ite, map_ite, endR_ite, dflT, asT, asD, frz, ofB, cmpB, takeSlot, moveSlot, slotT, Opd.see, sees, T.view, truthD, cmpD, eqD, scalD, binD, negD, isKd, callF, takeA, putA, startR, endR_rt, endR_nx, endR_exc, backs, evB, evT, evD, evO, List.map_cons, List.map_nil, List.length_cons, List.length_nil, List.cons_append, List.nil_append, List.append_nil, List.set_cons_zero, List.set_cons_succ, List.getElem?_cons_zero, List.getElem?_cons_succ, List.replicate_zero, List.replicate_succ, Option.join_some, Option.join_none, Option.bind_some, Option.bind_none, Option.map_some, Option.map_none, Nat.reduceAdd, Nat.reduceSub, Nat.sub_self, List.any_cons, List.any_nil, Bool.or_false, Bool.false_or, Bool.or_true, Bool.true_or, Bool.and_true, Bool.true_and, Bool.and_false, Bool.false_and, Bool.not_true, Bool.not_false, Bool.false_eq_true, reduceIte, reduceCtorEq, decide_eq_true_eq, Bool.not_eq_true', decide_eq_false_iff_not, sz_eq, Nat.reduceLeDiff, isOl, subFin, muFin, muD, setFin, setMany, parFin, idxD, slcD, bi_len, bi_lenT, bi_abs, bi_int, bi_list, bi_listT, bi_max2, bi_min2, Ss.sets, S.sets, Tg.is, List.mem_cons, List.not_mem_nil, or_false, or_true, false_or, true_or, List.mem_append, List.append_assoc, List.append_eq, bw, bwT, toldD]
    | some l =>
      rw [hq] at bw
      simp -implicitDefEqProofs only [LT, e_nm, e_int, e_str, e_bl, e_non, e_glb, e_bin, e_neg, e_cmp, t_cmp, chn_if, e_chn, t_chn, e_and, e_or, t_and, t_or, e_not, t_not, e_ite, e_lst, e_tup, e_idx, e_slc, e_call, e_bi, e_rl1, e_rl2, e_isi, e_me, e_mu, t_nm, t_bl, t_idx, t_call, t_bi, t_isi, t_lc, t_bin, ds_nil, ds_cons, os_nil, os_cons, oi_none, oi_some, c_none, c_some, i_op, as_nm, as_mv, x_nil, x_cons, x_set, x_setF, x_setT, x_par, x_sub, x_expr, x_ret, x_if, x_raise, x_pass, x_brk, x_cont, x_tryC, bind_ok, bind_exc, map_ok, map_exc, of_some, bind_ite, map_ite, endR_ite, dflT, asT, asD, frz, ofB, cmpB, takeSlot, moveSlot, slotT, Opd.see, sees, T.view, truthD, cmpD, eqD, scalD, binD, negD, isKd, callF, takeA, putA, startR, endR_rt, endR_nx, endR_exc, backs, evB, evT, evD, evO, List.map_cons, List.map_nil, List.length_cons, List.length_nil, List.cons_append, List.nil_append, List.append_nil, List.set_cons_zero, List.set_cons_succ, List.getElem?_cons_zero, List.getElem?_cons_succ, List.replicate_zero, List.replicate_succ, Option.join_some, Option.join_none, Option.bind_some, Option.bind_none, Option.map_some, Option.map_none, Nat.reduceAdd, Nat.reduceSub, Nat.sub_self, List.any_cons, List.any_nil, Bool.or_false, Bool.false_or, Bool.or_true, Bool.true_or, Bool.and_true, Bool.true_and, Bool.and_false, Bool.false_and, Bool.not_true, Bool.not_false, Bool.false_eq_true, reduceIte, reduceCtorEq, decide_eq_true_eq, Bool.not_eq_true', decide_eq_false_iff_not, sz_eq, Nat.reduceLeDiff, isOl, subFin, muFin, muD, setFin, setMany, parFin, idxD, slcD, bi_len, bi_lenT, bi_abs, bi_int, bi_list, bi_listT, bi_max2, bi_min2, Ss.sets, S.sets, Tg.is, List.mem_cons, List.not_mem_nil, or_false, or_true, false_or, true_or, List.mem_append, List.append_assoc, List.append_eq, bw, bwT, toldD]
  have a12 : exS (lev fs Bx m) (.set 11 (.lst .nil)) (LT sc p4 ws2 c o4 o5 (some (.fz (il (steps ws2)))) o5 o8 (some (.fz (.int n))) (some (.fz (toldD (bwO n c)))) none none none none none o16 none o18 none o20) = .ok .nx (LT sc p4 ws2 c o4 o5 (some (.fz (il (steps ws2)))) o5 o8 (some (.fz (.int n))) (some (.fz (toldD (bwO n c)))) (some (.ol [])) none none none none o16 none o18 none o20) := by
    simp -implicitDefEqProofs only [LT, e_nm, e_int, e_str, e_bl, e_non, e_glb, e_bin, e_neg, e_cmp, t_cmp, chn_if, e_chn, t_chn, e_and, e_or, t_and, t_or, e_not, t_not, e_ite, e_lst, e_tup, e_idx, e_slc, e_call, e_bi, e_rl1, e_rl2, e_isi, e_me, e_mu, t_nm, t_bl, t_idx, t_call, t_bi, t_isi, t_lc, t_bin, ds_nil, ds_cons, os_nil, os_cons, oi_none, oi_some, c_none, c_some, i_op, as_nm, as_mv, x_nil, x_cons, x_set, x_setF, x_setT, x_par, x_sub, x_expr, x_ret, x_if, x_raise, x_pass, x_brk, x_cont, x_tryC, bind_ok, bind_exc, map_ok, map_exc, of_some, bind_ite, map_ite, endR_ite, dflT, asT, asD, frz, ofB, cmpB, takeSlot, moveSlot, slotT, Opd.see, sees, T.view, truthD, cmpD, eqD, scalD, binD, negD, isKd, callF, takeA, putA, startR, endR_rt, endR_nx, endR_exc, backs, evB, evT, evD, evO, List.map_cons, List.map_nil, List.length_cons, List.length_nil, List.cons_append, List.nil_append, List.append_nil, List.set_cons_zero, List.set_cons_succ, List.getElem?_cons_zero, List.getElem?_cons_succ, List.replicate_zero, List.replicate_succ, Option.join_some, Option.join_none, Option.bind_some, Option.bind_none, Option.map_some, Option.map_none, Nat.reduceAdd, Nat.reduceSub, Nat.sub_self, List.any_cons, List.any_nil, Bool.or_false, Bool.false_or, Bool.or_true, Bool.true_or, Bool.and_true, Bool.true_and, Bool.and_false, Bool.false_and, Bool.not_true, Bool.not_false, Bool.false_eq_true, reduceIte, reduceCtorEq, decide_eq_true_eq, Bool.not_eq_true', decide_eq_false_iff_not, sz_eq, Nat.reduceLeDiff, isOl, subFin, muFin, muD, setFin, setMany, parFin, idxD, slcD, bi_len, bi_lenT, bi_abs, bi_int, bi_list, bi_listT, bi_max2, bi_min2, Ss.sets, S.sets, Tg.is, List.mem_cons, List.not_mem_nil, or_false, or_true, false_or, true_or, List.mem_append, List.append_assoc, List.append_eq, Nat.zero_le]
  obtain ⟨o12, a13⟩ := goods (m := m) (sc := sc) (p := p4) (ws := ws2) (b := c) (o4 := o4) (o5 := o5) (o6 := some (.fz (il (steps ws2)))) (o7 := o5) (o8 := o8) (o10 := some (.fz (toldD (bwO n c)))) (o12 := none) (o13 := none) (o14 := none) (o15 := none) (o16 := o16) (o17 := none) (o18 := o18) (o19 := none) (o20 := o20) hn3 hc9 hm
  have a14 := told_ok (m := m) (sc := sc) (p := p4) (ws := ws2) (b := c) (o4 := o4) (o5 := o5) (o6 := some (.fz (il (steps ws2)))) (o7 := o5) (o8 := o8) (o9 := some (.fz (.int n))) (o12 := o12) (o13 := none) (o14 := none) (o15 := none) (o16 := o16) (o17 := none) (o18 := o18) (o19 := none) (o20 := o20) hn3 hc9
  generalize (some (T.fz (toldD (bwO n c)))) = o10 at a11 a12 a13 a14
  generalize (some (T.ol (ils ((tl c n).filter (goodQ c))))) = o11 at a13 a14
  have a15 : exS (lev fs Bx m) (.setF 13 (.call "_law_draw" (.cons (.nm 1) (.cons (.int 60) .nil)) [])) (LT sc p4 ws2 c o4 o5 (some (.fz (il (steps ws2)))) o5 o8 (some (.fz (.int n))) o10 o11 o12 none none none o16 none o18 none o20) = .ok .nx (LT sc p5 ws2 c o4 o5 (some (.fz (il (steps ws2)))) o5 o8 (some (.fz (.int n))) o10 o11 o12 (some (.fz (.int x))) none none o16 none o18 none o20) := by
    simp -implicitDefEqProofs only [LT, e_nm, e_int, e_str, e_bl, e_non, e_glb, e_bin, e_neg, e_cmp, t_cmp, chn_if, e_chn, t_chn, e_and, e_or, t_and, t_or, e_not, t_not, e_ite, e_lst, e_tup, e_idx, e_slc, e_call, e_bi, e_rl1, e_rl2, e_isi, e_me, e_mu, t_nm, t_bl, t_idx, t_call, t_bi, t_isi, t_lc, t_bin, ds_nil, ds_cons, os_nil, os_cons, oi_none, oi_some, c_none, c_some, i_op, as_nm, as_mv, x_nil, x_cons, x_set, x_setF, x_setT, x_par, x_sub, x_expr, x_ret, x_if, x_raise, x_pass, x_brk, x_cont, x_tryC, bind_ok, bind_exc, map_ok, map_exc, of_some, bind_ite, map_ite, endR_ite, dflT, asT, asD, frz, ofB, cmpB, takeSlot, moveSlot, slotT, Opd.see, sees, T.view, truthD, cmpD, eqD, scalD, binD, negD, isKd, callF, takeA, putA, startR, endR_rt, endR_nx, endR_exc, backs, evB, evT, evD, evO, List.map_cons, List.map_nil, List.length_cons, List.length_nil, List.cons_append, List.nil_append, List.append_nil, List.set_cons_zero, List.set_cons_succ, List.getElem?_cons_zero, List.getElem?_cons_succ, List.replicate_zero, List.replicate_succ, Option.join_some, Option.join_none, Option.bind_some, Option.bind_none, Option.map_some, Option.map_none, Nat.reduceAdd, Nat.reduceSub, Nat.sub_self, List.any_cons, List.any_nil, Bool.or_false, Bool.false_or, Bool.or_true, Bool.true_or, Bool.and_true, Bool.true_and, Bool.and_false, Bool.false_and, Bool.not_true, Bool.not_false, Bool.false_eq_true, reduceIte, reduceCtorEq, decide_eq_true_eq, Bool.not_eq_true', decide_eq_false_iff_not, sz_eq, Nat.reduceLeDiff, isOl, subFin, muFin, muD, setFin, setMany, parFin, idxD, slcD, bi_len, bi_lenT, bi_abs, bi_int, bi_list, bi_listT, bi_max2, bi_min2, Ss.sets, S.sets, Tg.is, List.mem_cons, List.not_mem_nil, or_false, or_true, false_or, true_or, List.mem_append, List.append_assoc, List.append_eq, d3]
  have a16 : exS (lev fs Bx m) (.setF 14 (.call "_law_draw" (.cons (.nm 1) (.cons (.int 60) .nil)) [])) (LT sc p5 ws2 c o4 o5 (some (.fz (il (steps ws2)))) o5 o8 (some (.fz (.int n))) o10 o11 o12 (some (.fz (.int x))) none none o16 none o18 none o20) = .ok .nx (LT sc p6 ws2 c o4 o5 (some (.fz (il (steps ws2)))) o5 o8 (some (.fz (.int n))) o10 o11 o12 (some (.fz (.int x))) (some (.fz (.int y))) none o16 none o18 none o20) := by
    simp -implicitDefEqProofs only [LT, e_nm, e_int, e_str, e_bl, e_non, e_glb, e_bin, e_neg, e_cmp, t_cmp, chn_if, e_chn, t_chn, e_and, e_or, t_and, t_or, e_not, t_not, e_ite, e_lst, e_tup, e_idx, e_slc, e_call, e_bi, e_rl1, e_rl2, e_isi, e_me, e_mu, t_nm, t_bl, t_idx, t_call, t_bi, t_isi, t_lc, t_bin, ds_nil, ds_cons, os_nil, os_cons, oi_none, oi_some, c_none, c_some, i_op, as_nm, as_mv, x_nil, x_cons, x_set, x_setF, x_setT, x_par, x_sub, x_expr, x_ret, x_if, x_raise, x_pass, x_brk, x_cont, x_tryC, bind_ok, bind_exc, map_ok, map_exc, of_some, bind_ite, map_ite, endR_ite, dflT, asT, asD, frz, ofB, cmpB, takeSlot, moveSlot, slotT, Opd.see, sees, T.view, truthD, cmpD, eqD, scalD, binD, negD, isKd, callF, takeA, putA, startR, endR_rt, endR_nx, endR_exc, backs, evB, evT, evD, evO, List.map_cons, List.map_nil, List.length_cons, List.length_nil, List.cons_append, List.nil_append, List.append_nil, List.set_cons_zero, List.set_cons_succ, List.getElem?_cons_zero, List.getElem?_cons_succ, List.replicate_zero, List.replicate_succ, Option.join_some, Option.join_none, Option.bind_some, Option.bind_none, Option.map_some, Option.map_none, Nat.reduceAdd, Nat.reduceSub, Nat.sub_self, List.any_cons, List.any_nil, Bool.or_false, Bool.false_or, Bool.or_true, Bool.true_or, Bool.and_true, Bool.true_and, Bool.and_false, Bool.false_and, Bool.not_true, Bool.not_false, Bool.false_eq_true, reduceIte, reduceCtorEq, decide_eq_true_eq, Bool.not_eq_true', decide_eq_false_iff_not, sz_eq, Nat.reduceLeDiff, isOl, subFin, muFin, muD, setFin, setMany, parFin, idxD, slcD, bi_len, bi_lenT, bi_abs, bi_int, bi_list, bi_listT, bi_max2, bi_min2, Ss.sets, S.sets, Tg.is, List.mem_cons, List.not_mem_nil, or_false, or_true, false_or, true_or, List.mem_append, List.append_assoc, List.append_eq, d4]
  have pe := partE (Φ := lev fs Bx m) (sc := sc) (p := p6) (ws := ws2) (b := c) (o4 := o4) (o5 := o5) (o6 := some (.fz (il (steps ws2)))) (o7 := o5) (o8 := o8) (o9 := some (.fz (.int n))) (o10 := o10) (o11 := o11) (o12 := o12) (o15 := none) (o16 := o16) (o17 := none) (o18 := o18) (o19 := none) (o20 := o20) (x := x) (y := y)
  have a17 : exS (lev fs Bx m) (.setF 15 (.lc (.one 19) [19] (.rng2 (.int 1) (.int 60)) (.some (.and_ (.cmp .Eq (.bin .Mod (.bi .int (.cons (.nm 13) .nil)) (.nm 19)) (.int 0)) (.cmp .Eq (.bin .Mod (.bi .int (.cons (.nm 14) .nil)) (.nm 19)) (.int 0)))) (.nm 19))) (LT sc p6 ws2 c o4 o5 (some (.fz (il (steps ws2)))) o5 o8 (some (.fz (.int n))) o10 o11 o12 (some (.fz (.int x))) (some (.fz (.int y))) none o16 none o18 none o20) = .ok .nx (LT sc p6 ws2 c o4 o5 (some (.fz (il (steps ws2)))) o5 o8 (some (.fz (.int n))) o10 o11 o12 (some (.fz (.int x))) (some (.fz (.int y))) (some (.fz (.list ((partL x y).map PyData.int)))) o16 none o18 none o20) := by
    simp only [LT] at pe
    simp -implicitDefEqProofs only [LT, e_nm, e_int, e_str, e_bl, e_non, e_glb, e_bin, e_neg, e_cmp, t_cmp, chn_if, e_chn, t_chn, e_and, e_or, t_and, t_or, e_not, t_not, e_ite, e_lst, e_tup, e_idx, e_slc, e_call, e_bi, e_rl1, e_rl2, e_isi, e_me, e_mu, t_nm, t_bl, t_idx, t_call, t_bi, t_isi, t_lc, t_bin, ds_nil, ds_cons, os_nil, os_cons, oi_none, oi_some, c_none, c_some, i_op, as_nm, as_mv, x_nil, x_cons, x_set, x_setF, x_setT, x_par, x_sub, x_expr, x_ret, x_if, x_raise, x_pass, x_brk, x_cont, x_tryC, bind_ok, bind_exc, map_ok, map_exc, of_some, bind_ite, map_ite, endR_ite, dflT, asT, asD, frz, ofB, cmpB, takeSlot, moveSlot, slotT, Opd.see, sees, T.view, truthD, cmpD, eqD, scalD, binD, negD, isKd, callF, takeA, putA, startR, endR_rt, endR_nx, endR_exc, backs, evB, evT, evD, evO, List.map_cons, List.map_nil, List.length_cons, List.length_nil, List.cons_append, List.nil_append, List.append_nil, List.set_cons_zero, List.set_cons_succ, List.getElem?_cons_zero, List.getElem?_cons_succ, List.replicate_zero, List.replicate_succ, Option.join_some, Option.join_none, Option.bind_some, Option.bind_none, Option.map_some, Option.map_none, Nat.reduceAdd, Nat.reduceSub, Nat.sub_self, List.any_cons, List.any_nil, Bool.or_false, Bool.false_or, Bool.or_true, Bool.true_or, Bool.and_true, Bool.true_and, Bool.and_false, Bool.false_and, Bool.not_true, Bool.not_false, Bool.false_eq_true, reduceIte, reduceCtorEq, decide_eq_true_eq, Bool.not_eq_true', decide_eq_false_iff_not, sz_eq, Nat.reduceLeDiff, isOl, subFin, muFin, muD, setFin, setMany, parFin, idxD, slcD, bi_len, bi_lenT, bi_abs, bi_int, bi_list, bi_listT, bi_max2, bi_min2, Ss.sets, S.sets, Tg.is, List.mem_cons, List.not_mem_nil, or_false, or_true, false_or, true_or, List.mem_append, List.append_assoc, List.append_eq, pe]
  have a18 : exS (lev fs Bx m) (.ifS (.and_ (.cmp .Gt (.bin .Add (.nm 13) (.nm 14)) (.int 0)) (.not_ (.call "_law_same" (.cons (.call "common" (.cons (.nm 13) (.cons (.nm 14) .nil)) []) (.cons (.bi .maxL (.cons (.nm 15) .nil)) .nil)) []))) (.cons (.ret (.bl false)) .nil) .nil) (LT sc p6 ws2 c o4 o5 (some (.fz (il (steps ws2)))) o5 o8 (some (.fz (.int n))) o10 o11 o12 (some (.fz (.int x))) (some (.fz (.int y))) (some (.fz (.list ((partL x y).map PyData.int)))) o16 none o18 none o20) = .ok .nx (LT sc p6 ws2 c o4 o5 (some (.fz (il (steps ws2)))) o5 o8 (some (.fz (.int n))) o10 o11 o12 (some (.fz (.int x))) (some (.fz (.int y))) (some (.fz (.list ((partL x y).map PyData.int)))) o16 none o18 none o20) := by
    by_cases h0 : 0 < x + y
    · have h0' : (0 : Int) < (x : Int) + (y : Int) := by omega
      have pm := part_max (x := x) (y := y) (by omega) (by omega) h0
      have gc := s_common (B := Bx) (k := m) (x := x) (y := y) (by omega) (by have := lev_fuel (m - 1); omega)
      have si := s_same (B := Bx) (k := m) (n := 1) (d := .int (Nat.gcd x y : Nat)) (t1 := .fz (.int (Nat.gcd x y : Nat))) (t2 := .fz (.int (Nat.gcd x y : Nat))) (by omega) trivial rfl rfl
      simp -implicitDefEqProofs only [LT, e_nm, e_int, e_str, e_bl, e_non, e_glb, e_bin, e_neg, e_cmp, t_cmp, chn_if, e_chn, t_chn, e_and, e_or, t_and, t_or, e_not, t_not, e_ite, e_lst, e_tup, e_idx, e_slc, e_call, e_bi, e_rl1, e_rl2, e_isi, e_me, e_mu, t_nm, t_bl, t_idx, t_call, t_bi, t_isi, t_lc, t_bin, ds_nil, ds_cons, os_nil, os_cons, oi_none, oi_some, c_none, c_some, i_op, as_nm, as_mv, x_nil, x_cons, x_set, x_setF, x_setT, x_par, x_sub, x_expr, x_ret, x_if, x_raise, x_pass, x_brk, x_cont, x_tryC, bind_ok, bind_exc, map_ok, map_exc, of_some, bind_ite, map_ite, endR_ite, dflT, asT, asD, frz, ofB, cmpB, takeSlot, moveSlot, slotT, Opd.see, sees, T.view, truthD, cmpD, eqD, scalD, binD, negD, isKd, callF, takeA, putA, startR, endR_rt, endR_nx, endR_exc, backs, evB, evT, evD, evO, List.map_cons, List.map_nil, List.length_cons, List.length_nil, List.cons_append, List.nil_append, List.append_nil, List.set_cons_zero, List.set_cons_succ, List.getElem?_cons_zero, List.getElem?_cons_succ, List.replicate_zero, List.replicate_succ, Option.join_some, Option.join_none, Option.bind_some, Option.bind_none, Option.map_some, Option.map_none, Nat.reduceAdd, Nat.reduceSub, Nat.sub_self, List.any_cons, List.any_nil, Bool.or_false, Bool.false_or, Bool.or_true, Bool.true_or, Bool.and_true, Bool.true_and, Bool.and_false, Bool.false_and, Bool.not_true, Bool.not_false, Bool.false_eq_true, reduceIte, reduceCtorEq, decide_eq_true_eq, Bool.not_eq_true', decide_eq_false_iff_not, sz_eq, Nat.reduceLeDiff, isOl, subFin, muFin, muD, setFin, setMany, parFin, idxD, slcD, bi_len, bi_lenT, bi_abs, bi_int, bi_list, bi_listT, bi_max2, bi_min2, Ss.sets, S.sets, Tg.is, List.mem_cons, List.not_mem_nil, or_false, or_true, false_or, true_or, List.mem_append, List.append_assoc, List.append_eq, h0', pm, gc, si, decide_true]
    · have h0' : ¬ (0 : Int) < (x : Int) + (y : Int) := by omega
      simp -implicitDefEqProofs only [LT, e_nm, e_int, e_str, e_bl, e_non, e_glb, e_bin, e_neg, e_cmp, t_cmp, chn_if, e_chn, t_chn, e_and, e_or, t_and, t_or, e_not, t_not, e_ite, e_lst, e_tup, e_idx, e_slc, e_call, e_bi, e_rl1, e_rl2, e_isi, e_me, e_mu, t_nm, t_bl, t_idx, t_call, t_bi, t_isi, t_lc, t_bin, ds_nil, ds_cons, os_nil, os_cons, oi_none, oi_some, c_none, c_some, i_op, as_nm, as_mv, x_nil, x_cons, x_set, x_setF, x_setT, x_par, x_sub, x_expr, x_ret, x_if, x_raise, x_pass, x_brk, x_cont, x_tryC, bind_ok, bind_exc, map_ok, map_exc, of_some, bind_ite, map_ite, endR_ite, dflT, asT, asD, frz, ofB, cmpB, takeSlot, moveSlot, slotT, Opd.see, sees, T.view, truthD, cmpD, eqD, scalD, binD, negD, isKd, callF, takeA, putA, startR, endR_rt, endR_nx, endR_exc, backs, evB, evT, evD, evO, List.map_cons, List.map_nil, List.length_cons, List.length_nil, List.cons_append, List.nil_append, List.append_nil, List.set_cons_zero, List.set_cons_succ, List.getElem?_cons_zero, List.getElem?_cons_succ, List.replicate_zero, List.replicate_succ, Option.join_some, Option.join_none, Option.bind_some, Option.bind_none, Option.map_some, Option.map_none, Nat.reduceAdd, Nat.reduceSub, Nat.sub_self, List.any_cons, List.any_nil, Bool.or_false, Bool.false_or, Bool.or_true, Bool.true_or, Bool.and_true, Bool.true_and, Bool.and_false, Bool.false_and, Bool.not_true, Bool.not_false, Bool.false_eq_true, reduceIte, reduceCtorEq, decide_eq_true_eq, Bool.not_eq_true', decide_eq_false_iff_not, sz_eq, Nat.reduceLeDiff, isOl, subFin, muFin, muD, setFin, setMany, parFin, idxD, slcD, bi_len, bi_lenT, bi_abs, bi_int, bi_list, bi_listT, bi_max2, bi_min2, Ss.sets, S.sets, Tg.is, List.mem_cons, List.not_mem_nil, or_false, or_true, false_or, true_or, List.mem_append, List.append_assoc, List.append_eq, h0', decide_false]
  obtain ⟨ρ, a19⟩ := lastR (m := m) (sc := sc) (p := p6) (ws := ws2) (b := c) (o4 := o4) (o5 := o5) (o6 := some (.fz (il (steps ws2)))) (o7 := o5) (o8 := o8) (o9 := some (.fz (.int n))) (o10 := o10) (o11 := o11) (o12 := o12) (o13 := some (.fz (.int x))) (o14 := some (.fz (.int y))) (o15 := some (.fz (.list ((partL x y).map PyData.int)))) (o16 := o16) (o17 := none) (o18 := o18) (o19 := none) (o20 := o20) hp6 hm
  show endR f_law.body.sets _ (exSs (lev fs Bx m) (.cons _ (.cons _ (.cons _ (.cons _ (.cons _ (.cons _ (.cons _ (.cons _ (.cons _ (.cons _ (.cons _ (.cons _ (.cons _ (.cons _ (.cons _ (.cons _ (.cons _ (.cons _ (.cons _ _))))))))))))))))))) [some (.fz (.list (ns.map PyData.int))), none, none, none, none, none, none, none, none, none, none, none, none, none, none, none, none, none, none, none, none]) = _
  rw [seq_nx a0, seq_nx a1, seq_nx a2, seq_nx a3, seq_nx a4, seq_nx a5, seq_nx a6, seq_nx a7, seq_nx a8, seq_nx a9, seq_nx a10, seq_nx a11, seq_nx a12, seq_nx a13, seq_nx a14, seq_nx a15, seq_nx a16, seq_nx a17, seq_nx a18, a19]
  rfl
theorem plain (ns : List Int) (hns : ns.length ≤ 63) : ∃ fuel us, (lev prog.fs (prog.fx fuel hot) 26).call "law" [.fz (.list (ns.map PyData.int))] = .ok (.fz (.bool true)) us :=
  ⟨1000, _, plainK ns hns 26 (by decide)⟩
end L2.Eng.K58


open PySem PySem.W PySem.Calls PyProof.Rows in
set_option maxRecDepth 100000 in
set_option maxHeartbeats 0 in
theorem PySem.Challenge.cw_heraldboughs_k58_whole_mistakes_that_sho_holds : PySem.Challenge.rw_heraldboughs_k58_whole_mistakes_that_sho.Holds := by
  w_on; o_law
  refine HandSHeadRun.head_any (r := OpenLaw.row PySem.Challenge.rw_heraldboughs_k58_whole_mistakes_that_sho) (q := view (OpenLaw.row PySem.Challenge.rw_heraldboughs_k58_whole_mistakes_that_sho).prog [33]) (H := L2.Eng.K58.hk) (ob := L2.Eng.K58.ob) (M := 6000) (loose := L2.Eng.K58.names) (d := HandSHeadRun.topDef (OpenLaw.row PySem.Challenge.rw_heraldboughs_k58_whole_mistakes_that_sho).prog 33) (kwd := []) L2.Eng.K58.ob_eq
    (by kernel_rfl) (fun s => by kernel_rfl) L2.Eng.K58.run (by kernel_rfl) (by kernel_rfl) (by kernel_rfl) (by rfl) (by first | assumption | decide +kernel) (by decide +kernel) ⟨rfl, rfl, rfl, rfl, rfl, by decide +kernel⟩ ?hw ?hc
  case hw => w_witness2
  case hc =>
    exact L2.Eng.law_end (l := PySem.Challenge.rw_heraldboughs_k58_whole_mistakes_that_sho) (top := L2.Eng.K58.top) (hot := L2.Eng.K58.hot) (n := 25) (x := "script") rfl (by kernel_rfl) ⟨rfl, by decide, by decide⟩ (by kernel_rfl) L2.Eng.K58.ck L2.Eng.K58.bnd ⟨L2.Eng.K58.f_law, rfl, rfl, rfl, rfl⟩ (fun w K h mg pk X G base n f x d e => L2.Eng.K58.hotOk w K h mg pk X G base n f x d e) L2.Eng.K58.plain

