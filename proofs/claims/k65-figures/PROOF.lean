import PyProof.Rows.All
import Wide.All
import OpenK.AllK
import Wide.FinOn
import HandS.ForMost
import KE.SortData
import HandS.Conv
import HandS.RevRange
import HandS.Rev
import HandS.Deep
import HandS.Style
import HandS.Flow
import HandS.IsInst
import HandS.ForExc
import HandS.Text
import HandS.Replace
import HandS.Iter
import HandS.More
import PyProof.StrBlock2
import HandS.ExcCtx
import HandS.HotCalls
import HandS.ExcIs
import HandS.TryOnly
import HandS.RevTup
import HandS.RaiseMore
import KE.KTryMore
import HandS.Defaults
import HandS.Words
import HandS.Codes
import HandS.Head0
import HandS.Head1
import HandS.Head2
import HandS.HeadEnd
import HandS.HeadHook1
import HandS.HeadHook2
import PySem.Challenge.RW_heraldboughs_k65_passes_by_figures
set_option Elab.async false
set_option maxRecDepth 100000
set_option maxHeartbeats 4000000
set_option linter.all false
/-! EngA: data that stands frozen, things that are owned, and what a frame holds. -/
namespace L2.Eng
open PySem

abbrev D := PyData

mutual
inductive Rq (H : Hp) : V → D → Prop
  | non : Rq H .non .none
  | bl (b : Bool) : Rq H (.bl b) (.bool b)
  | int (i : Int) : Rq H (.int i) (.int i)
  | str (x : Str) : Rq H (.str x) (.str x)
  | lst {a : Addr} {xs : List V} {ds : List D} : Rd H a (.lst xs) → RqAll H xs ds → Rq H (.ref a) (.list ds)
  | tup {a : Addr} {xs : List V} {ds : List D} : H a = some (.tup xs) → RqAll H xs ds → Rq H (.ref a) (.tuple ds)
inductive RqAll (H : Hp) : List V → List D → Prop
  | nil : RqAll H [] []
  | cons {v : V} {vs : List V} {d : D} {ds : List D} : Rq H v d → RqAll H vs ds → RqAll H (v :: vs) (d :: ds)
end

theorem Rd.mono {H H' : Hp} (s : Same H H') {a : Addr} {u : HO} (h : Rd H a u) : Rd H' a u := by
  rcases h with h | ⟨o, h⟩
  · exact .inl (s _ _ h)
  · exact .inr ⟨o, s _ _ h⟩
mutual
theorem Rq.mono {H H' : Hp} (s : Same H H') : ∀ {v : V} {d : D}, Rq H v d → Rq H' v d
  | _, _, .non => .non
  | _, _, .bl b => .bl b
  | _, _, .int i => .int i
  | _, _, .str x => .str x
  | _, _, .lst r h => .lst (Rd.mono s r) (RqAll.mono s h)
  | _, _, .tup r h => .tup (s _ _ r) (RqAll.mono s h)
theorem RqAll.mono {H H' : Hp} (s : Same H H') : ∀ {vs : List V} {ds : List D}, RqAll H vs ds → RqAll H' vs ds
  | _, _, .nil => .nil
  | _, _, .cons a b => .cons (Rq.mono s a) (RqAll.mono s b)
end
theorem RqAll.length {H : Hp} : ∀ {vs : List V} {ds : List D}, RqAll H vs ds → vs.length = ds.length
  | _, _, .nil => rfl
  | _, _, .cons _ b => congrArg (· + 1) b.length
theorem RqAll.append {H : Hp} : ∀ {vs ws : List V} {ds es : List D}, RqAll H vs ds → RqAll H ws es → RqAll H (vs ++ ws) (ds ++ es)
  | _, _, _, _, .nil, h => h
  | _, _, _, _, .cons a b, h => .cons a (b.append h)
theorem RqAll.get {H : Hp} : ∀ {vs : List V} {ds : List D}, RqAll H vs ds → ∀ {i : Nat} {d : D}, ds[i]? = some d → ∃ v, vs[i]? = some v ∧ Rq H v d
  | _, _, .nil, i, d, e => by simp at e
  | _, _, .cons a b, 0, d, e => by simp at e; subst e; exact ⟨_, rfl, a⟩
  | _, _, .cons a b, i + 1, d, e => by
    obtain ⟨v, h1, h2⟩ := b.get (i := i) (d := d) (by simpa using e)
    exact ⟨v, by simpa using h1, h2⟩
theorem RqAll.getV {H : Hp} : ∀ {vs : List V} {ds : List D}, RqAll H vs ds → ∀ {i : Nat} {v : V}, vs[i]? = some v → ∃ d, ds[i]? = some d ∧ Rq H v d
  | _, _, .nil, i, d, e => by simp at e
  | _, _, .cons a b, 0, d, e => by simp at e; subst e; exact ⟨_, rfl, a⟩
  | _, _, .cons a b, i + 1, d, e => by
    obtain ⟨v, h1, h2⟩ := b.getV (i := i) (v := d) (by simpa using e)
    exact ⟨v, by simpa using h1, h2⟩
theorem RqAll.take {H : Hp} : ∀ {vs : List V} {ds : List D} (n : Nat), RqAll H vs ds → RqAll H (vs.take n) (ds.take n)
  | _, _, 0, _ => .nil
  | _, _, _ + 1, .nil => .nil
  | _, _, n + 1, .cons r t => .cons r (RqAll.take n t)
theorem RqAll.drop {H : Hp} : ∀ {vs : List V} {ds : List D} (n : Nat), RqAll H vs ds → RqAll H (vs.drop n) (ds.drop n)
  | _, _, 0, r => r
  | _, _, _ + 1, .nil => .nil
  | _, _, n + 1, .cons _ t => RqAll.drop n t
theorem RqAll.set {H : Hp} {v : V} {d : D} (r : Rq H v d) : ∀ {vs : List V} {ds : List D} (i : Nat), RqAll H vs ds → RqAll H (vs.set i v) (ds.set i d)
  | _, _, _, .nil => .nil
  | _, _, 0, .cons _ t => .cons r t
  | _, _, i + 1, .cons q t => .cons q (RqAll.set r i t)
theorem RqAll.eraseIdx {H : Hp} : ∀ {vs : List V} {ds : List D} (i : Nat), RqAll H vs ds → RqAll H (vs.eraseIdx i) (ds.eraseIdx i)
  | _, _, _, .nil => .nil
  | _, _, 0, .cons _ t => t
  | _, _, i + 1, .cons q t => .cons q (RqAll.eraseIdx i t)
theorem RqAll.reverse {H : Hp} : ∀ {vs : List V} {ds : List D}, RqAll H vs ds → RqAll H vs.reverse ds.reverse
  | _, _, .nil => .nil
  | _, _, .cons r t => by
    rw [List.reverse_cons, List.reverse_cons]
    exact t.reverse.append (.cons r .nil)

/-- a key of a dict as data: a number or a text; a tuple of such -/
def keyD : D → Option Key
  | .int i => some (.inl i)
  | .str x => some (.inr x)
  | _ => none
def keysD : List D → Option (List Key)
  | [] => some []
  | d :: r => match keyD d, keysD r with
    | some k, some ks => some (k :: ks)
    | _, _ => none
def tkD : D → Option (List Key)
  | .tuple ds => keysD ds
  | _ => none
/-- a dict's entries, by the kind of its keys -/
inductive DV where
  | k (vs : List (Key × V))
  | t (vs : List (List Key × V))
def DV.ho : DV → HO
  | .k vs => .dK vs
  | .t vs => .dT vs
inductive RqD (H : Hp) : Bool → DV → List (D × D) → Prop
  | k {vs : List (Key × V)} {ds : List (D × D)} : Paired (fun (p : Key × V) (q : D × D) => keyD q.1 = some p.1 ∧ Rq H p.2 q.2) vs ds → RqD H false (.k vs) ds
  | t {vs : List (List Key × V)} {ds : List (D × D)} : Paired (fun (p : List Key × V) (q : D × D) => tkD q.1 = some p.1 ∧ Rq H p.2 q.2) vs ds → RqD H true (.t vs) ds
theorem paired_mono {α β : Type} {P Q : α → β → Prop} (h : ∀ a b, P a b → Q a b) : ∀ {as : List α} {bs : List β}, Paired P as bs → Paired Q as bs
  | _, _, .nil => .nil
  | _, _, .cons a b => .cons (h _ _ a) (paired_mono h b)
theorem RqD.mono {H H' : Hp} (s : Same H H') {b : Bool} {u : DV} {ds : List (D × D)} (h : RqD H b u ds) : RqD H' b u ds := by
  cases h with
  | k h => exact .k (paired_mono (fun p q z => ⟨z.1, z.2.mono s⟩) h)
  | t h => exact .t (paired_mono (fun p q z => ⟨z.1, z.2.mono s⟩) h)

/-! ### what a slot holds -/
/-- fz: frozen data; ol: a list that this slot alone has, of frozen data; od: such a dict (its keys tuples or not); lk: such a dict while a loop walks it -/
inductive T where
  | fz (d : D)
  | ol (ds : List D)
  | od (b : Bool) (kvs : List (D × D))
  | lk (b : Bool) (kvs : List (D × D))

def T.view : T → Option D
  | .fz d => some d
  | .ol ds => some (.list ds)
  | .od _ _ => none
  | .lk _ _ => none

inductive HoldT (G H : Hp) : V → T → List Addr → Prop
  | fz {v : V} {d : D} : Rq G v d → HoldT G H v (.fz d) []
  | ol {a : Addr} {vs : List V} {ds : List D} : G a = none → H a = some (.lst vs) → RqAll G vs ds → HoldT G H (.ref a) (.ol ds) [a]
  | od {a : Addr} {b : Bool} {u : DV} {ds : List (D × D)} : G a = none → H a = some u.ho → RqD G b u ds → HoldT G H (.ref a) (.od b ds) [a]
  | lk {a : Addr} {b : Bool} {o : Obj} {u : DV} {ds : List (D × D)} : G a = some (.frz o u.ho) → H a = some (.frz o u.ho) → RqD G b u ds → HoldT G H (.ref a) (.lk b ds) [a]

inductive HoldL (G H : Hp) : List (V × T) → List Addr → Prop
  | nil : HoldL G H [] []
  | cons {v : V} {t : T} {f : List Addr} {r : List (V × T)} {fr : List Addr} : HoldT G H v t f → HoldL G H r fr → HoldL G H ((v, t) :: r) (f ++ fr)

section
variable {G G' H H' : Hp}
theorem HoldT.move {v : V} {t : T} {f : List Addr} (h : HoldT G H v t f) (sG : Same G G') (hG : ∀ a ∈ f, G a = none → G' a = none) (hH : ∀ a ∈ f, H' a = H a) : HoldT G' H' v t f := by
  cases h with
  | fz r => exact .fz (r.mono sG)
  | ol g e r => exact .ol (hG _ (by simp) g) ((hH _ (by simp)).trans e) (r.mono sG)
  | od g e r => exact .od (hG _ (by simp) g) ((hH _ (by simp)).trans e) (r.mono sG)
  | lk g e r => exact .lk (sG _ _ g) ((hH _ (by simp)).trans e) (r.mono sG)
theorem HoldT.fp {v : V} {t : T} {f : List Addr} (h : HoldT G H v t f) : ∀ a ∈ f, ∃ o, H a = some o := by
  cases h with
  | fz r => intro a h; cases h
  | ol g e r => intro a h; simp at h; subst h; exact ⟨_, e⟩
  | od g e r => intro a h; simp at h; subst h; exact ⟨_, e⟩
  | lk g e r => intro a h; simp at h; subst h; exact ⟨_, e⟩
theorem HoldL.move {L : List (V × T)} {f : List Addr} (h : HoldL G H L f) (sG : Same G G') : (∀ a ∈ f, G a = none → G' a = none) → (∀ a ∈ f, H' a = H a) → HoldL G' H' L f := by
  induction h with
  | nil => intro _ _; exact .nil
  | cons h _ ih =>
    intro hG hH
    exact .cons (h.move sG (fun a ha => hG a (List.mem_append_left _ ha)) fun a ha => hH a (List.mem_append_left _ ha)) (ih (fun a ha => hG a (List.mem_append_right _ ha)) fun a ha => hH a (List.mem_append_right _ ha))
theorem HoldL.fp {L : List (V × T)} {f : List Addr} (h : HoldL G H L f) : ∀ a ∈ f, ∃ o, H a = some o := by
  induction h with
  | nil => intro a h; cases h
  | cons h _ ih =>
    intro a ha
    rcases List.mem_append.mp ha with ha | ha
    · exact h.fp a ha
    · exact ih a ha
theorem HoldL.perm {L L' : List (V × T)} (p : L.Perm L') : ∀ {f : List Addr}, HoldL G H L f → ∃ f', HoldL G H L' f' ∧ f.Perm f' := by
  induction p with
  | nil => intro f h; exact ⟨f, h, .refl _⟩
  | cons x _ ih =>
    intro f h
    cases h with
    | cons h1 h2 =>
      obtain ⟨f', h3, q⟩ := ih h2
      exact ⟨_, .cons h1 h3, List.Perm.append_left _ q⟩
  | swap x y l =>
    intro f h
    cases h with
    | cons h1 h2 =>
      cases h2 with
      | cons h2 h3 =>
        refine ⟨_, .cons h2 (.cons h1 h3), ?_⟩
        rw [← List.append_assoc, ← List.append_assoc]
        exact List.Perm.append_right _ List.perm_append_comm
  | trans _ _ i1 i2 =>
    intro f h
    obtain ⟨f1, h1, p1⟩ := i1 h
    obtain ⟨f2, h2, p2⟩ := i2 h1
    exact ⟨f2, h2, p1.trans p2⟩

/-- the things of L are held, apart from one another -/
def Held (G H : Hp) (L : List (V × T)) : Prop := ∃ f, HoldL G H L f ∧ f.Nodup
theorem Held.perm {L L' : List (V × T)} (h : Held G H L) (p : L.Perm L') : Held G H L' := by
  obtain ⟨f, h, n⟩ := h
  obtain ⟨f', h', q⟩ := h.perm p
  exact ⟨f', h', q.nodup_iff.mp n⟩
theorem Held.tail {x : V × T} {L : List (V × T)} (h : Held G H (x :: L)) : Held G H L := by
  obtain ⟨f, h, n⟩ := h
  cases h with
  | cons h1 h2 => exact ⟨_, h2, (List.nodup_append.mp n).2.1⟩
theorem Held.right {L L' : List (V × T)} (h : Held G H (L ++ L')) : Held G H L' := by
  induction L with
  | nil => exact h
  | cons x r ih => exact ih h.tail
theorem Held.left {L L' : List (V × T)} (h : Held G H (L ++ L')) : Held G H L := (h.perm List.perm_append_comm).right
theorem Held.mid {A B : List (V × T)} {x : V × T} (h : Held G H (A ++ x :: B)) : Held G H (x :: (A ++ B)) := h.perm List.perm_middle
theorem Held.unmid {A B : List (V × T)} {x : V × T} (h : Held G H (x :: (A ++ B))) : Held G H (A ++ x :: B) := h.perm List.perm_middle.symm
theorem Held.fz {v : V} {d : D} {L : List (V × T)} (h : Held G H ((v, .fz d) :: L)) : Rq G v d := by
  obtain ⟨f, h, n⟩ := h
  cases h with
  | cons h1 h2 =>
    cases h1 with
    | fz r => exact r
theorem Held.addFz {v : V} {d : D} {L : List (V × T)} (h : Held G H L) (r : Rq G v d) : Held G H ((v, .fz d) :: L) := by
  obtain ⟨f, h, n⟩ := h
  exact ⟨[] ++ f, .cons (.fz r) h, n⟩
theorem Held.addAll {L : List (V × T)} (h : Held G H L) : ∀ {vs : List V} {ds : List D}, RqAll G vs ds → Held G H (vs.zip (ds.map T.fz) ++ L)
  | _, _, .nil => h
  | _, _, .cons a b => (Held.addAll h b).addFz a
/-- the frozen part grows by things that are not held -/
theorem Held.move {L : List (V × T)} (h : Held G H L) (sG : Same G G') (hG : ∀ a, G a = none → H a ≠ none → G' a = none) (hH : ∀ a, H a ≠ none → H' a = H a) : Held G' H' L := by
  obtain ⟨f, h, n⟩ := h
  refine ⟨f, h.move sG (fun a ha g => ?_) (fun a ha => ?_), n⟩
  · obtain ⟨o, e⟩ := h.fp a ha
    exact hG a g (by rw [e]; simp)
  · obtain ⟨o, e⟩ := h.fp a ha
    exact hH a (by rw [e]; simp)
theorem Same.updNew {p : Addr} {o : HO} (s : Same G H) (n : H p = none) : Same G (upd H p o) := fun b u e => by
  rw [upd_ne (ne_of_none (s _ _ e) n)]
  exact s _ _ e
theorem Same.updFree {p : Addr} {o : HO} (s : Same G H) (n : G p = none) : Same G (upd H p o) := fun b u e => by
  rw [upd_ne (ne_of_none e n)]
  exact s _ _ e
theorem Same.updOut {p : Addr} {o : HO} (n : G p = none) : Same G (upd G p o) := fun b u e => by
  rw [upd_ne (ne_of_none e n)]
  exact e
theorem Same.updIn {p : Addr} {o : HO} (s : Same G H) (e : H p = some o) : Same (upd G p o) H := fun b u h => by
  unfold upd at h
  split at h
  · next q => subst q; cases h; exact e
  · exact s _ _ h
theorem Same.updBoth {p : Addr} {o : HO} (s : Same G H) : Same (upd G p o) (upd H p o) := fun b u h => by
  unfold upd at h ⊢
  split at h
  · next q => rw [if_pos q]; exact h
  · next q => rw [if_neg q]; exact s _ _ h
/-- a new list, owned -/
theorem Held.newList {p : Addr} {vs : List V} {ds : List D} {L : List (V × T)} (h : Held G H L) (s : Same G H) (n : H p = none) (r : RqAll G vs ds) : Held G (upd H p (.lst vs)) ((.ref p, .ol ds) :: L) := by
  obtain ⟨f, h, nd⟩ := h
  have gp : G p = none := s.free n
  have np : p ∉ f := fun hp => by
    obtain ⟨o, e⟩ := h.fp p hp
    rw [n] at e; cases e
  exact ⟨[p] ++ f, .cons (.ol gp upd_same r) (h.move (Same.refl _) (fun a ha g => g) fun a ha => upd_ne fun q => np (q ▸ ha)), List.nodup_cons.mpr ⟨np, nd⟩⟩
theorem Held.newDict {p : Addr} {b : Bool} {u : DV} {ds : List (D × D)} {L : List (V × T)} (h : Held G H L) (s : Same G H) (n : H p = none) (r : RqD G b u ds) : Held G (upd H p u.ho) ((.ref p, .od b ds) :: L) := by
  obtain ⟨f, h, nd⟩ := h
  have gp : G p = none := s.free n
  have np : p ∉ f := fun hp => by
    obtain ⟨o, e⟩ := h.fp p hp
    rw [n] at e; cases e
  exact ⟨[p] ++ f, .cons (.od gp upd_same r) (h.move (Same.refl _) (fun a ha g => g) fun a ha => upd_ne fun q => np (q ▸ ha)), List.nodup_cons.mpr ⟨np, nd⟩⟩
/-- a new object that nobody holds -/
theorem Held.newAny {p : Addr} {o : HO} {L : List (V × T)} (h : Held G H L) (n : H p = none) : Held G (upd H p o) L :=
  h.move (Same.refl _) (fun _ g _ => g) fun a e => upd_ne fun q => e (by rw [q]; exact n)
/-- .. and is frozen -/
theorem Held.newFz {p : Addr} {o : HO} {L : List (V × T)} (h : Held G H L) (s : Same G H) (n : H p = none) : Held (upd G p o) (upd H p o) L :=
  h.move (Same.updOut (s.free n)) (fun a g e => by rw [upd_ne fun q => e (by rw [q]; exact n)]; exact g) fun a e => upd_ne fun q => e (by rw [q]; exact n)
/-- the owned list that is held first -/
theorem Held.ol {v : V} {ds : List D} {L : List (V × T)} (h : Held G H ((v, .ol ds) :: L)) : ∃ a vs, v = .ref a ∧ G a = none ∧ H a = some (.lst vs) ∧ RqAll G vs ds ∧
    (∀ vs' ds', RqAll G vs' ds' → Held G (upd H a (.lst vs')) ((.ref a, .ol ds') :: L)) ∧ Held (upd G a (.lst vs)) H L := by
  obtain ⟨f, h, nd⟩ := h
  cases h with
  | cons h1 h2 =>
    cases h1 with
    | @ol a vs _ g e r =>
      have np : ∀ b, b ∈ _ → b ≠ a := fun b hb q => by
        subst q
        exact (List.nodup_append.mp nd).2.2 _ (List.mem_singleton.mpr rfl) _ hb rfl
      refine ⟨a, vs, rfl, g, e, r, fun vs' ds' r' => ⟨[a] ++ _, .cons (.ol g upd_same r') (h2.move (Same.refl _) (fun b hb g => g) fun b hb => upd_ne (np b hb)), nd⟩, ?_⟩
      exact ⟨_, h2.move (Same.updOut g) (fun b hb g => by rw [upd_ne (np b hb)]; exact g) fun b hb => rfl, (List.nodup_append.mp nd).2.1⟩
/-- the owned dict that is held first: it may be changed, locked -/
theorem Held.od {v : V} {b : Bool} {ds : List (D × D)} {L : List (V × T)} (h : Held G H ((v, .od b ds) :: L)) : ∃ a u, v = .ref a ∧ G a = none ∧ H a = some (DV.ho u) ∧ RqD G b u ds ∧
    (∀ u' ds', RqD G b u' ds' → Held G (upd H a u'.ho) ((.ref a, .od b ds') :: L)) ∧ ∀ o, Held (upd G a (.frz o u.ho)) (upd H a (.frz o u.ho)) ((.ref a, .lk b ds) :: L) := by
  obtain ⟨f, h, nd⟩ := h
  cases h with
  | cons h1 h2 =>
    cases h1 with
    | @od a _ u _ g e r =>
      have np : ∀ b, b ∈ _ → b ≠ a := fun b hb q => by
        subst q
        exact (List.nodup_append.mp nd).2.2 _ (List.mem_singleton.mpr rfl) _ hb rfl
      exact ⟨a, u, rfl, g, e, r, fun u' ds' r' => ⟨[a] ++ _, .cons (.od g upd_same r') (h2.move (Same.refl _) (fun b hb g => g) fun b hb => upd_ne (np b hb)), nd⟩,
        fun o => ⟨[a] ++ _, .cons (.lk upd_same upd_same (r.mono (Same.updOut g))) (h2.move (Same.updOut g) (fun b hb g => by rw [upd_ne (np b hb)]; exact g) fun b hb => upd_ne (np b hb)), nd⟩⟩
/-- G without what stands at a -/
def drp (G : Hp) (a : Addr) : Hp := fun b => if b = a then none else G b
theorem drp_ne {a b : Addr} (h : b ≠ a) : drp G a b = G b := by unfold drp; rw [if_neg h]
theorem drp_same {a : Addr} : drp G a a = none := by unfold drp; rw [if_pos rfl]
theorem Rd.drp {a : Addr} {o : Obj} {u : DV} (ga : G a = some (.frz o u.ho)) {b : Addr} {xs : List V} (h : Rd G b (.lst xs)) : Rd (drp G a) b (.lst xs) := by
  have hb : b ≠ a := fun q => by
    subst q
    rcases h with h | ⟨o', h⟩
    · rw [ga] at h; cases h
    · rw [ga] at h
      cases u <;> cases h
  rcases h with h | ⟨o', h⟩
  · exact .inl ((drp_ne hb).trans h)
  · exact .inr ⟨o', (drp_ne hb).trans h⟩
mutual
theorem Rq.drp {a : Addr} {o : Obj} {u : DV} (ga : G a = some (.frz o u.ho)) : ∀ {v : V} {d : D}, Rq G v d → Rq (drp G a) v d
  | _, _, .non => .non
  | _, _, .bl b => .bl b
  | _, _, .int i => .int i
  | _, _, .str x => .str x
  | _, _, .lst r h => .lst (Rd.drp ga r) (RqAll.drp ga h)
  | _, _, .tup r h => .tup ((drp_ne fun q => by subst q; rw [ga] at r; cases r).trans r) (RqAll.drp ga h)
theorem RqAll.drp {a : Addr} {o : Obj} {u : DV} (ga : G a = some (.frz o u.ho)) : ∀ {vs : List V} {ds : List D}, RqAll G vs ds → RqAll (drp G a) vs ds
  | _, _, .nil => .nil
  | _, _, .cons x y => .cons (Rq.drp ga x) (RqAll.drp ga y)
end
theorem RqD.drp {a : Addr} {o : Obj} {u : DV} (ga : G a = some (.frz o u.ho)) {b : Bool} {w : DV} {ds : List (D × D)} (h : RqD G b w ds) : RqD (drp G a) b w ds := by
  cases h with
  | k h => exact .k (paired_mono (fun p q z => ⟨z.1, Rq.drp ga z.2⟩) h)
  | t h => exact .t (paired_mono (fun p q z => ⟨z.1, Rq.drp ga z.2⟩) h)
theorem HoldL.drp {a : Addr} {o : Obj} {u : DV} (ga : G a = some (.frz o u.ho)) {x : HO} {L : List (V × T)} {f : List Addr} (h : HoldL G H L f) : a ∉ f → HoldL (drp G a) (upd H a x) L f := by
  induction h with
  | nil => intro _; exact .nil
  | cons h1 _ ih =>
    intro hn
    refine .cons ?_ (ih fun q => hn (List.mem_append_right _ q))
    have ne : ∀ c, c ∈ _ → c ≠ a := fun c hc q => hn (List.mem_append_left _ (q ▸ hc))
    cases h1 with
    | fz r => exact .fz (Rq.drp ga r)
    | ol g e r => exact .ol ((drp_ne (ne _ (by simp))).trans g) ((upd_ne (ne _ (by simp))).trans e) (RqAll.drp ga r)
    | od g e r => exact .od ((drp_ne (ne _ (by simp))).trans g) ((upd_ne (ne _ (by simp))).trans e) (RqD.drp ga r)
    | lk g e r => exact .lk ((drp_ne (ne _ (by simp))).trans g) ((upd_ne (ne _ (by simp))).trans e) (RqD.drp ga r)
/-- the locked dict that is held first is unlocked -/
theorem Held.lk {v : V} {b : Bool} {ds : List (D × D)} {L : List (V × T)} (h : Held G H ((v, .lk b ds) :: L)) : ∃ a o u, v = .ref a ∧ G a = some (.frz o (DV.ho u)) ∧ RqD G b u ds ∧
    Held (drp G a) (upd H a u.ho) ((.ref a, .od b ds) :: L) := by
  obtain ⟨f, h, nd⟩ := h
  cases h with
  | cons h1 h2 =>
    cases h1 with
    | @lk a _ o u _ g e r =>
      have np : a ∉ _ := fun hb => (List.nodup_append.mp nd).2.2 _ (List.mem_singleton.mpr rfl) _ hb rfl
      exact ⟨a, o, u, rfl, g, r, [a] ++ _, .cons (.od drp_same upd_same (RqD.drp g r)) (h2.drp g np), nd⟩
theorem Same.drp {a : Addr} {x : HO} (s : Same G H) : Same (drp G a) (upd H a x) := fun b u e => by
  by_cases q : b = a
  · subst q
    rw [drp_same] at e
    cases e
  · rw [drp_ne q] at e
    rw [upd_ne q]
    exact s _ _ e
theorem Same.toDrp {a : Addr} (s : Same G G') (n : G a = none) : Same G (Eng.drp G' a) := fun b u e => by
  rw [drp_ne (ne_of_none e n)]
  exact s _ _ e
/-- what can be seen of the first thing that is held -/
theorem Held.view {v : V} {t : T} {d : D} {L : List (V × T)} (h : Held G H ((v, t) :: L)) (s : Same G H) (e : t.view = some d) : Rq H v d := by
  cases t with
  | fz d' => cases e; exact h.fz.mono s
  | ol ds =>
    cases e
    obtain ⟨a, vs, rfl, _, e, r, _⟩ := h.ol
    exact .lst (.inl e) (r.mono s)
  | od _ _ => cases e
  | lk _ _ => cases e
/-- it is frozen from now on -/
theorem Held.freeze {v : V} {t : T} {d : D} {L : List (V × T)} (h : Held G H ((v, t) :: L)) (s : Same G H) (e : t.view = some d) : ∃ G', Same G G' ∧ Same G' H ∧ Held G' H ((v, .fz d) :: L) := by
  cases t with
  | fz d' => cases e; exact ⟨G, Same.refl _, s, h⟩
  | ol ds =>
    cases e
    obtain ⟨a, vs, rfl, g, e, r, _, k⟩ := h.ol
    exact ⟨upd G a (.lst vs), Same.updOut g, Same.updIn s e, k.addFz (.lst (.inl upd_same) (r.mono (Same.updOut g)))⟩
  | od _ _ => cases e
  | lk _ _ => cases e
end

/-! ### slots -/
abbrev Rho := List (Option T)
def its : St → Rho → List (V × T)
  | some v :: σ, some t :: ρ => (v, t) :: its σ ρ
  | _ :: σ, _ :: ρ => its σ ρ
  | _, _ => []
def SlotsOk : St → Rho → Prop
  | [], [] => True
  | none :: σ, none :: ρ => SlotsOk σ ρ
  | some _ :: σ, none :: ρ => SlotsOk σ ρ
  | some _ :: σ, some _ :: ρ => SlotsOk σ ρ
  | _, _ => False
theorem SlotsOk.get : ∀ {σ : St} {ρ : Rho} {i : Nat} {t : T}, SlotsOk σ ρ → ρ[i]? = some (some t) → ∃ v, σ[i]? = some (some v) ∧
    (its σ ρ).Perm ((v, t) :: its σ (ρ.set i none)) ∧ SlotsOk σ (ρ.set i none)
  | [], [], i, t, _, h => by simp at h
  | none :: σ, none :: ρ, 0, t, _, h => by simp at h
  | some v :: σ, none :: ρ, 0, t, _, h => by simp at h
  | some v :: σ, some u :: ρ, 0, t, k, h => by
    simp at h; subst h
    exact ⟨v, rfl, .refl _, k⟩
  | none :: σ, none :: ρ, i + 1, t, k, h => by
    obtain ⟨v, a, b, c⟩ := SlotsOk.get (σ := σ) (ρ := ρ) (i := i) k (by simpa using h)
    exact ⟨v, by simpa using a, b, c⟩
  | some v :: σ, none :: ρ, i + 1, t, k, h => by
    obtain ⟨v, a, b, c⟩ := SlotsOk.get (σ := σ) (ρ := ρ) (i := i) k (by simpa using h)
    exact ⟨v, by simpa using a, b, c⟩
  | some w :: σ, some u :: ρ, i + 1, t, k, h => by
    obtain ⟨v, a, b, c⟩ := SlotsOk.get (σ := σ) (ρ := ρ) (i := i) k (by simpa using h)
    refine ⟨v, by simpa using a, ?_, c⟩
    exact (List.Perm.cons _ b).trans (List.Perm.swap _ _ _)
theorem SlotsOk.set : ∀ {σ : St} {ρ : Rho} {i : Nat} (v : V) (t : T), SlotsOk σ ρ → i < σ.length → SlotsOk (σ.set i (some v)) (ρ.set i (some t)) ∧
    (its (σ.set i (some v)) (ρ.set i (some t))).Perm ((v, t) :: its σ (ρ.set i none))
  | [], [], i, v, t, _, h => by simp at h
  | none :: σ, none :: ρ, 0, v, t, k, h => ⟨k, .refl _⟩
  | some _ :: σ, none :: ρ, 0, v, t, k, h => ⟨k, .refl _⟩
  | some _ :: σ, some u :: ρ, 0, v, t, k, h => ⟨k, .refl _⟩
  | none :: σ, none :: ρ, i + 1, v, t, k, h => SlotsOk.set (σ := σ) (ρ := ρ) (i := i) v t k (by simpa using h)
  | some _ :: σ, none :: ρ, i + 1, v, t, k, h => SlotsOk.set (σ := σ) (ρ := ρ) (i := i) v t k (by simpa using h)
  | some w :: σ, some u :: ρ, i + 1, v, t, k, h => by
    obtain ⟨a, b⟩ := SlotsOk.set (σ := σ) (ρ := ρ) (i := i) v t k (by simpa using h)
    exact ⟨a, (List.Perm.cons _ b).trans (List.Perm.swap _ _ _)⟩
/-- the thing at a slot is laid back there -/
theorem SlotsOk.put : ∀ {σ : St} {ρ : Rho} {i : Nat} {v : V} (t : T), SlotsOk σ ρ → σ[i]? = some (some v) → SlotsOk σ (ρ.set i (some t)) ∧
    (its σ (ρ.set i (some t))).Perm ((v, t) :: its σ (ρ.set i none))
  | [], [], i, v, t, _, h => by simp at h
  | none :: σ, none :: ρ, 0, v, t, k, h => by simp at h
  | some _ :: σ, none :: ρ, 0, v, t, k, h => by simp at h; subst h; exact ⟨k, .refl _⟩
  | some _ :: σ, some u :: ρ, 0, v, t, k, h => by simp at h; subst h; exact ⟨k, .refl _⟩
  | none :: σ, none :: ρ, i + 1, v, t, k, h => SlotsOk.put (σ := σ) (ρ := ρ) (i := i) t k (by simpa using h)
  | some _ :: σ, none :: ρ, i + 1, v, t, k, h => SlotsOk.put (σ := σ) (ρ := ρ) (i := i) t k (by simpa using h)
  | some w :: σ, some u :: ρ, i + 1, v, t, k, h => by
    obtain ⟨a, b⟩ := SlotsOk.put (σ := σ) (ρ := ρ) (i := i) t k (by simpa using h)
    exact ⟨a, (List.Perm.cons _ b).trans (List.Perm.swap _ _ _)⟩
theorem SlotsOk.length : ∀ {σ : St} {ρ : Rho}, SlotsOk σ ρ → σ.length = ρ.length
  | [], [], _ => rfl
  | none :: σ, none :: ρ, k => congrArg (· + 1) (SlotsOk.length (σ := σ) (ρ := ρ) k)
  | some _ :: σ, none :: ρ, k => congrArg (· + 1) (SlotsOk.length (σ := σ) (ρ := ρ) k)
  | some _ :: σ, some _ :: ρ, k => congrArg (· + 1) (SlotsOk.length (σ := σ) (ρ := ρ) k)

/-- the state: the frozen part G, the slots, what is held besides (τ) -/
structure Rel (G : Hp) (ρ : Rho) (τ : List (V × T)) (σ : St) (H : Hp) : Prop where
  same : Same G H
  slots : SlotsOk σ ρ
  held : Held G H (its σ ρ ++ τ)

section
variable {G G' H H' : Hp} {ρ : Rho} {τ : List (V × T)} {σ : St}
/-- the thing at slot i is taken out -/
theorem Rel.out (R : Rel G ρ τ σ H) {i : Nat} {t : T} (h : ρ[i]? = some (some t)) : ∃ v, σ[i]? = some (some v) ∧ Rel G (ρ.set i none) ((v, t) :: τ) σ H := by
  obtain ⟨v, a, b, c⟩ := R.slots.get h
  exact ⟨v, a, R.same, c, (R.held.perm (b.append_right _)).unmid⟩
/-- the thing is laid back at its slot -/
theorem Rel.back {i : Nat} {v : V} {t : T} (R : Rel G ρ ((v, t) :: τ) σ H) (h : σ[i]? = some (some v)) (n : ρ[i]? = some none) : Rel G (ρ.set i (some t)) τ σ H := by
  obtain ⟨a, b⟩ := SlotsOk.put t R.slots h
  refine ⟨R.same, a, Held.perm ?_ (b.append_right _).symm⟩
  have e : ρ.set i none = ρ := by
    apply List.ext_getElem?
    intro j
    by_cases q : i = j
    · subst q
      rw [n]
      have := (List.getElem?_eq_some_iff.mp n).1
      simp [this]
    · rw [List.getElem?_set_ne q]
  rw [e]
  exact R.held.mid
/-- a thing is stored at a slot -/
theorem Rel.store {i : Nat} {v : V} {t : T} (R : Rel G ρ ((v, t) :: τ) σ H) (h : i < σ.length) : Rel G (ρ.set i (some t)) τ (σ.set i (some v)) H := by
  obtain ⟨a, b⟩ := SlotsOk.set v t R.slots h
  refine ⟨R.same, a, Held.perm ?_ (b.append_right _).symm⟩
  have q : Held G H ((v, t) :: (its σ ρ ++ τ)) := R.held.mid
  show Held G H ((v, t) :: (its σ (ρ.set i none) ++ τ))
  cases e : ρ[i]? with
  | none =>
    have l : ρ.length ≤ i := List.getElem?_eq_none_iff.mp e
    rw [List.set_eq_of_length_le l]
    exact q
  | some o =>
    cases o with
    | none =>
      have e2 : ρ.set i none = ρ := by
        apply List.ext_getElem?
        intro j
        by_cases q : i = j
        · subst q
          rw [e]
          have := (List.getElem?_eq_some_iff.mp e).1
          simp [this]
        · rw [List.getElem?_set_ne q]
      rw [e2]
      exact q
    | some u =>
      obtain ⟨w, _, p, _⟩ := R.slots.get e
      have q2 : Held G H ((w, u) :: (v, t) :: (its σ (ρ.set i none) ++ τ)) := (q.perm (List.Perm.cons _ (p.append_right _))).perm (List.Perm.swap _ _ _)
      exact q2.tail
theorem Rel.len (R : Rel G ρ τ σ H) : σ.length = ρ.length := R.slots.length
end
end L2.Eng

/-! EngB: a small language of what the text does with data, and what it computes. -/
namespace L2.Eng
open PySem

structure Ex where
  c : Str
  fs : List (Str × D)

inductive R (α : Type) where
  | ok (a : α) (ρ : Rho)
  | exc (x : Ex) (ρ : Rho)
  | no
def R.bind {α β : Type} : R α → (α → Rho → R β) → R β
  | .ok a ρ, f => f a ρ
  | .exc x ρ, _ => .exc x ρ
  | .no, _ => .no
def R.map {α β : Type} (f : α → β) : R α → R β
  | .ok a ρ => .ok (f a) ρ
  | .exc x ρ => .exc x ρ
  | .no => .no
/-- a call's end: the value, the arguments as they stand behind it -/
inductive CR where
  | ok (t : T) (as : List T)
  | exc (x : Ex) (as : List T)
  | no
structure Fx where
  call : Str → List T → CR
  fuel : Nat
  sub : Str → Str → Option Bool
  hot : Str → Str → Option D
  isx : Str → Str → Option Bool

/-! ### operations on data -/
def truthD : D → Option Bool
  | .none => some false
  | .bool b => some b
  | .int i => some (i != 0)
  | .str s => if s.length ≤ sizeLine then some ((s.length : Int) != 0) else none
  | .list ds => some (!ds.isEmpty)
  | .tuple ds => some (!ds.isEmpty)
  | .dict _ => none
def scalD : D → D → Bool
  | .none, .none => true | .none, .int _ => true | .int _, .none => true | .none, .bool _ => true | .bool _, .none => true | .none, .str _ => true | .str _, .none => true
  | .int _, .int _ => true | .bool _, .bool _ => true | .str _, .str _ => true
  | .int _, .str _ => true | .str _, .int _ => true | .bool _, .str _ => true | .str _, .bool _ => true
  | _, _ => false
def eqD (d e : D) : Option Bool := if scalD d e || (SeqAt.shaped d && SeqAt.shaped e) then some (PyData.eqv d e) else none
def flatD : D → Bool
  | .none => true | .bool _ => true | .int _ => true | .str _ => true | _ => false
def inD (d : D) : D → Option Bool
  | .list ds => if SeqAt.shaped d && SeqAt.shaped (.list ds) then some (ds.any fun z => PyData.eqv z d) else none
  | .tuple ds => if flatD d && ds.all flatD then some (ds.any fun z => PyData.eqv z d) else none
  | .str j => match d with
    | .str i => some (!(Builtin.Str.occurrences j i 0 j.length 1).isEmpty)
    | _ => none
  | _ => none
def isNonD : D → Bool
  | .none => true
  | _ => false
def cmpD : CmpOp → D → D → Option Bool
  | .Eq, d, e => eqD d e
  | .NotEq, d, e => (eqD d e).map (!·)
  | .Lt, .int i, .int j => some (decide (i < j))
  | .LtE, .int i, .int j => some (decide (i ≤ j))
  | .Gt, .int i, .int j => some (decide (j < i))
  | .GtE, .int i, .int j => some (decide (j ≤ i))
  | .Lt, .str i, .str j => some (decide (i.cps.toList < j.cps.toList))
  | .Is, d, .none => some (isNonD d)
  | .IsNot, d, .none => some (!isNonD d)
  | .Is, .bool a, .bool b => some (decide (a = b))
  | .IsNot, .bool a, .bool b => some (!decide (a = b))
  | .In, d, e => inD d e
  | .NotIn, d, e => (inD d e).map (!·)
  | _, _, _ => none
def mulOk (i j : Int) : Bool := decide (-(2 ^ 64) < i ∧ i < 2 ^ 64) || decide (-(2 ^ 64) < j ∧ j < 2 ^ 64)
def binD : Operator → D → D → Option T
  | .Add, .int i, .int j => some (.fz (.int (i + j)))
  | .Sub, .int i, .int j => some (.fz (.int (i - j)))
  | .Mult, .int i, .int j => if mulOk i j then some (.fz (.int (i * j))) else none
  | .FloorDiv, .int i, .int j => if j ≠ 0 ∧ j.natAbs < 1073741824 then some (.fz (.int (i.fdiv j))) else none
  | .Mod, .int i, .int j => if j ≠ 0 then some (.fz (.int (i.fmod j))) else none
  | .Pow, .int i, .int j => if 0 ≤ j ∧ j ≤ 1000000 ∧ i.natAbs < 2 ^ 64 then some (.fz (.int (i ^ j.toNat))) else none
  | .Add, .str i, .str j => if i.length + j.length ≤ sizeLine then some (.fz (.str (i ++ j))) else none
  | .Mult, .str x, .int n => if x.length * n.toNat ≤ 16777216 ∧ -(2 ^ 62) ≤ n ∧ n < 2 ^ 62 then some (.fz (.str (Txt.mul x n))) else none
  | .Mult, .list ds, .int n => if ds.length * n.toNat ≤ sizeLine ∧ -(2 ^ 62) ≤ n ∧ n < 2 ^ 62 then some (.ol (List.replicate n.toNat ds).flatten) else none
  | .Add, .list ds, .list es => if ds.length + es.length ≤ sizeLine then some (.ol (ds ++ es)) else none
  | _, _, _ => none
def negD : D → Option D
  | .int i => some (.int (-i))
  | _ => none
def idxD : D → D → Option D
  | .list ds, .int i => atI ds i
  | .tuple ds, .int i => atI ds i
  | .str z, .int i => if z.length ≤ sizeLine then (atI z.cps.toList i).map fun c => .str ⟨#[c]⟩ else none
  | _, _ => none
def cutD (xs : List D) (lo hi : Option Int) : List D := (xs.drop (HT.sIx xs.length 0 lo)).take (HT.sIx xs.length xs.length hi - HT.sIx xs.length 0 lo)
def slcD : D → Option Int → Option Int → Option T
  | .list ds, lo, hi => some (.ol (cutD ds lo hi))
  | .str z, lo, hi => if z.length ≤ sizeLine then some (.fz (.str (cutS z lo hi))) else none
  | _, _, _ => none

inductive Bi where
  | len | abs | int | str | sum | list | sorted | max2 | min2 | maxL | minL
  deriving DecidableEq
def intsD : List D → Option (List Int)
  | [] => some []
  | .int i :: r => (intsD r).map (i :: ·)
  | _ :: _ => none
def sortD (ds : List D) : Option (List D) :=
  if ds.length ≤ sizeLine ∧ (ds.all fun d => ds.all fun e => PySem.W.alike d e) = true ∧ (ds.all fun d => decide (d.depth ≤ 64)) = true ∧
    ((ds.all fun d => match d with | .tuple (_ :: _) => true | _ => false) = true ∨ (ds.all fun d => match d with | .none => false | .tuple _ => false | _ => true) = true)
  then some (ds.mergeSort (PySem.W.dataLe false id)) else none
def maxI : Int → List Int → Int
  | m, [] => m
  | m, n :: r => maxI (if m < n then n else m) r
def minI : Int → List Int → Int
  | m, [] => m
  | m, n :: r => minI (if n < m then n else m) r
def rngD (i j : Int) : List D := (List.range (j - i).toNat).map fun k => .int (i + (k : Nat))
def biD : Bi → List D → Option T
  | .len, [.list ds] => some (.fz (.int ds.length))
  | .len, [.tuple ds] => some (.fz (.int ds.length))
  | .len, [.str s] => if s.length ≤ sizeLine then some (.fz (.int s.length)) else none
  | .abs, [.int i] => some (.fz (.int (if i < 0 then -i else i)))
  | .int, [.int i] => some (.fz (.int i))
  | .str, [.int i] => if i.natAbs.log2 < 1920 then some (.fz (.str (toString i))) else none
  | .sum, [.list ds] => (intsD ds).map fun ns => .fz (.int ns.sum)
  | .list, [.list ds] => some (.ol ds)
  | .list, [.tuple ds] => some (.ol ds)
  | .sorted, [.list ds] => (sortD ds).map .ol
  | .max2, [.int i, .int j] => some (.fz (.int (if j > i then j else i)))
  | .min2, [.int i, .int j] => some (.fz (.int (if j < i then j else i)))
  | .maxL, [.list ds] => (intsD ds).bind fun ns => match ns with
    | [] => none
    | n :: r => some (.fz (.int (maxI n r)))
  | .minL, [.list ds] => (intsD ds).bind fun ns => match ns with
    | [] => none
    | n :: r => some (.fz (.int (minI n r)))
  | _, _ => none
def rl1D : D → Option T
  | .int j => if -(2 ^ 62) ≤ j ∧ j ≤ 16777216 then some (.ol (rngD 0 j)) else none
  | _ => none
def rl2D : D → D → Option T
  | .int i, .int j => if -(2 ^ 62) ≤ i ∧ i < 2 ^ 62 ∧ -(2 ^ 62) ≤ j ∧ j < 2 ^ 62 ∧ (j - i).toNat ≤ 16777216 then some (.ol (rngD i j)) else none
  | _, _ => none
/-- list(reversed(a list)), list(reversed(range(n))) -/
def lrvD : D → Option T
  | .list ds => some (.ol ds.reverse)
  | _ => none
def lrrD : D → Option T
  | .int j => if -(2 ^ 62) ≤ j ∧ j ≤ 16777216 then some (.ol (rngD 0 j).reverse) else none
  | _ => none
/-! dicts -/
def keyOk (b : Bool) (d : D) : Bool := if b then (tkD d).isSome else (keyD d).isSome
def sameKey (b : Bool) (p q : D) : Bool := if b then decide (tkD p = tkD q) else decide (keyD p = keyD q)
def getKD (b : Bool) (kvs : List (D × D)) (k : D) : Option D := (kvs.find? fun p => sameKey b p.1 k).map (·.2)
def putKD (b : Bool) (kvs : List (D × D)) (k v : D) : List (D × D) := if kvs.any fun p => sameKey b p.1 k then kvs.map fun p => if sameKey b p.1 k then (p.1, v) else p else kvs ++ [(k, v)]
def dOf : T → Option (Bool × List (D × D))
  | .od b kvs => some (b, kvs)
  | .lk b kvs => some (b, kvs)
  | _ => none
def datD (q : Bool × List (D × D)) (k : D) : Option D := if keyOk q.1 k then getKD q.1 q.2 k else none
def dinD (q : Bool × List (D × D)) (k : D) : Option Bool := if keyOk q.1 k then some (getKD q.1 q.2 k).isSome else none
def dgeD (q : Bool × List (D × D)) (k e : D) : Option D := if keyOk q.1 k then some ((getKD q.1 q.2 k).getD e) else none
def pairsD : List D → Option (List (D × D))
  | [] => some []
  | .tuple [k, v] :: r => if (keyD k).isSome then (pairsD r).map ((k, v) :: ·) else none
  | _ :: _ => none
def mergeKD (kvs more : List (D × D)) : List (D × D) := more.foldl (fun acc p => putKD false acc p.1 p.2) kvs
def dprD : D → Option T
  | .list ds => (pairsD ds).map fun ps => .od false (mergeKD [] ps)
  | _ => none
inductive Kd where
  | int | bool | str | list | tuple
  deriving DecidableEq
def isKd : Kd → D → Bool
  | .int, .int _ => true
  | .int, .bool _ => true
  | .bool, .bool _ => true
  | .str, .str _ => true
  | .list, .list _ => true
  | .tuple, .tuple _ => true
  | _, _ => false
inductive Me where
  | index | count | join | split
  deriving DecidableEq
def meTy : Me → D → Bool
  | .index, .list _ => true
  | .index, .str _ => true
  | .count, .str _ => true
  | .join, .str _ => true
  | _, _ => false
def isLstD : D → Bool
  | .list _ => true
  | _ => false
def isStrD : D → Bool
  | .str _ => true
  | _ => false
def Me.py : Me → Str
  | .index => "index" | .count => "count" | .join => "join" | .split => "split"
def strsD : List D → Option (List Str)
  | [] => some []
  | .str x :: r => (strsD r).map (x :: ·)
  | _ :: _ => none
def isOl : Option T → Bool
  | some (.ol _) => true
  | _ => false
def idxOfD (d : D) (ds : List D) : Option Nat := ds.findIdx? fun y => PyData.eqv y d
def meD : Me → D → List D → Option T
  | .index, .list ds, [d] => if SeqAt.shaped d && SeqAt.shaped (.list ds) then (idxOfD d ds).map fun (j : Nat) => .fz (.int j) else none
  | .index, .str a, [.str b] => match Builtin.Str.occurrences a b 0 a.length 1 with
    | i :: _ => some (.fz (.int (i : Nat)))
    | [] => none
  | .count, .str a, [.str b] => some (.fz (.int (Txt.count a b)))
  | .join, .str a, [.list ds] => (strsD ds).bind fun ys => if (ys.map (·.length)).sum + ys.length * a.length ≤ 16777216 then some (.fz (.str (Txt.join a ys))) else none
  | _, _, _ => none
inductive Mu where
  | append | extend | pop | popAt | insert
  deriving DecidableEq
/-- the list behind it, the value -/
def muD : Mu → List D → List D → Option (List D × D)
  | .append, ds, [d] => if ds.length < sizeLine then some (ds ++ [d], .none) else none
  | .extend, ds, [.list es] => if ds.length + es.length ≤ sizeLine then some (ds ++ es, .none) else none
  | .pop, ds, [] => (ds[ds.length - 1]?).map fun d => (ds.dropLast, d)
  | .insert, ds, [.int i, d] => if ds.length < sizeLine ∧ 0 ≤ i ∧ i < 2 ^ 63 then some (ds.take i.toNat ++ [d] ++ ds.drop i.toNat, .none) else none
  | .popAt, ds, [.int i] => if -(2 ^ 63) ≤ i ∧ i < 2 ^ 63 then (seqIndex? i ds.length).bind fun k => (ds[k]?).map fun d => (ds.eraseIdx k, d) else none
  | _, _, _ => none

/-! ### the language -/
inductive Tg where
  | one (i : Nat)
  | tup (is : List Nat)
mutual
inductive E where
  | nm (i : Nat) | mv (i : Nat)
  | int (i : Int) | str (x : Str) | bl (b : Bool) | non
  | glb (x : Str) (d : D)
  | bin (op : Operator) (a b : E)
  | neg (a : E)
  | cmp (op : CmpOp) (a b : E)
  | chn (o1 o2 : CmpOp) (a b c : E)
  | and_ (a b : E) | or_ (a b : E) | not_ (a : E)
  | ite (c a b : E)
  | lst (es : Es) | tup (es : Es)
  | idx (a i : E)
  | slc (a : E) (lo hi : OE)
  | call (f : Str) (es : Es) (ds : List D)
  | bi (f : Bi) (es : Es)
  | rl1 (a : E) | rl2 (a b : E)
  | isi (a : E) (ks : List Kd)
  | me (m : Me) (o : E) (es : Es)
  | mu (m : Mu) (i : Nat) (es : Es)
  | lc (tg : Tg) (own : List Nat) (it : It) (c : OE) (elt : E)
  | lrv (a : E) | lrr (a : E)
  | dn (b : Bool) | d1 (k v : E) | dpr (a : E)
  | dat (a k : E) | din (neg : Bool) (k a : E) | dge (a k : E) (d : OE)
  | lcd (s i : Nat) (c : OE) (elt : E)
inductive Es where
  | nil | cons (e : E) (es : Es)
inductive OE where
  | none | some (e : E)
inductive It where
  | opd (e : E) | rng1 (a : E) | rng2 (a b : E) | revR1 (a : E) | revR2 (a b : E) | rev (e : E)
end
mutual
inductive S where
  | set (i : Nat) (e : E)
  | setF (i : Nat) (e : E)
  | setT (is : List Nat) (e : E)
  | par (i j : Nat) (a b : E)
  | sub (i : Nat) (k e : E)
  | dst (i : Nat) (k e : E)
  | ford (s i : Nat) (b : Ss)
  | expr (e : E)
  | ret (e : E) | retN
  | ifS (c : E) (a b : Ss)
  | whl (c : E) (b : Ss)
  | for_ (tg : Tg) (it : It) (b : Ss)
  | raise (c : Str) (e : E)
  | tryR (b : Ss) (hs : List (Str × D))
  | tryC (b : Ss) (h : Str) (i : Nat) (f : Str)
  | tryT (b : Ss) (h1 h2 : Str) (d : D)
  | tryI (b : Ss) (h : Str) (i : Nat) (c1 c2 : Str)
  | pass | brk | cont
inductive Ss where
  | nil | cons (s : S) (ss : Ss)
end

def Tg.is : Tg → List Nat
  | .one i => [i]
  | .tup is => is
mutual
/-- the slots that it stores to -/
def S.sets : S → List Nat
  | .set i _ => [i]
  | .setF i _ => [i]
  | .setT is _ => is
  | .par i j _ _ => [i, j]
  | .ifS _ a b => a.sets ++ b.sets
  | .whl _ b => b.sets
  | .for_ tg _ b => tg.is ++ b.sets
  | .ford s _ b => s :: b.sets
  | .tryR b _ => b.sets
  | .tryC b _ i _ => i :: b.sets
  | .tryT b _ _ _ => b.sets
  | .tryI b _ i _ _ => i :: b.sets
  | _ => []
def Ss.sets : Ss → List Nat
  | .nil => []
  | .cons s ss => s.sets ++ ss.sets
end
/-! ### what it computes -/
inductive Opd where
  | tmp (t : T)
  | sl (i : Nat)
def slotT (ρ : Rho) (i : Nat) : Option T := (ρ[i]?).join
def Opd.see (ρ : Rho) : Opd → Option D
  | .tmp t => t.view
  | .sl i => (slotT ρ i).bind T.view
def Opd.dic (ρ : Rho) : Opd → Option (Bool × List (D × D))
  | .tmp t => dOf t
  | .sl i => (slotT ρ i).bind dOf
def sees (ρ : Rho) : List Opd → Option (List D)
  | [] => some []
  | o :: r => (o.see ρ).bind fun d => (sees ρ r).map (d :: ·)
def R.of {α : Type} (o : Option α) (ρ : Rho) : R α := match o with
  | some a => .ok a ρ
  | none => .no
/-- slot i is frozen and read -/
def takeSlot (i : Nat) (ρ : Rho) : R T := match (slotT ρ i).bind T.view with
  | some d => .ok (.fz d) (ρ.set i (some (.fz d)))
  | none => .no
def moveSlot (i : Nat) (ρ : Rho) : R T := match slotT ρ i with
  | some t => .ok t (ρ.set i none)
  | none => .no
def frz (r : R T) : R D := r.bind fun t ρ => R.of t.view ρ
/-- arguments for a def: what is owned goes in, and comes back -/
def takeA : List Opd → Rho → Option (List T × Rho)
  | [], ρ => some ([], ρ)
  | .tmp t :: r, ρ => (takeA r ρ).map fun q => (t :: q.1, q.2)
  | .sl i :: r, ρ => match slotT ρ i with
    | some (.fz d) => (takeA r ρ).map fun q => (.fz d :: q.1, q.2)
    | some t => (takeA r (ρ.set i none)).map fun q => (t :: q.1, q.2)
    | none => none
def putA : List Opd → List T → List T → Rho → Rho
  | .sl i :: r, .fz _ :: ts, _ :: us, ρ => putA r ts us ρ
  | .sl i :: r, _ :: ts, u :: us, ρ => putA r ts us (ρ.set i (some u))
  | .tmp _ :: r, _ :: ts, _ :: us, ρ => putA r ts us ρ
  | _, _, _, ρ => ρ
def callF (Φ : Fx) (f : Str) (os : List Opd) (ds : List D) (ρ : Rho) : R T := match takeA os ρ with
  | some (ts, ρ') => match Φ.call f (ts ++ ds.map T.fz) with
    | .ok t us => .ok t (putA os ts us ρ')
    | .exc x us => .exc x (putA os ts us ρ')
    | .no => .no
  | none => .no
/-- where the items of a walk come from -/
inductive Src where
  | sl (k : Bool) (i n : Nat)
  | tmp (k : Bool) (ds : List D)
  | rng (lo c : Int) (n : Nat)
def Src.len : Src → Nat
  | .sl _ _ n => n
  | .tmp _ ds => ds.length
  | .rng _ _ n => n
def seqD : D → Option (Bool × List D)
  | .list ds => some (false, ds)
  | .tuple ds => some (true, ds)
  | _ => none
def seqK : Bool → D → Option (List D)
  | false, .list ds => some ds
  | true, .tuple ds => some ds
  | _, _ => none
def Src.item (j : Nat) (ρ : Rho) : Src → Option D
  | .sl k i n => (((slotT ρ i).bind T.view).bind (seqK k)).bind fun ds => if ds.length = n then ds[j]? else none
  | .tmp _ ds => ds[j]?
  | .rng lo c _ => some (.int (lo + j * c))
def opdSrc (x : Opd) (q : Bool × List D) : Src := match x with
  | .sl i => .sl q.1 i q.2.length
  | .tmp _ => .tmp q.1 q.2
def signsD (s : Str) : List D := s.cps.toList.map fun c => .str ⟨#[c]⟩
/-- a walk over an operand: a list's or a tuple's items, a text's signs -/
def srcD (x : Opd) (d : D) : Option Src := match d with
  | .str s => some (.tmp false (signsD s))
  | d => (seqD d).map (opdSrc x)
def Src.free (l : List Nat) : Src → Bool
  | .sl _ i _ => !decide (i ∈ l)
  | _ => true
def Src.fin (ρ : Rho) : Src → Bool
  | .sl k i n => match ((slotT ρ i).bind T.view).bind (seqK k) with
    | some ds => decide (ds.length = n)
    | none => false
  | _ => true
def setOne (i : Nat) (d : D) (ρ : Rho) : Rho := ρ.set i (some (.fz d))
def setMany : List Nat → List D → Rho → Option Rho
  | [], [], ρ => some ρ
  | i :: is, d :: ds, ρ => setMany is ds (ρ.set i (some (.fz d)))
  | _, _, _ => none
def Tg.put (tg : Tg) (d : D) (ρ : Rho) : Option Rho := match tg with
  | .one i => some (ρ.set i (some (.fz d)))
  | .tup is => match d with
    | .tuple ds => setMany is ds ρ
    | .list ds => setMany is ds ρ
    | _ => none
def wipeR (ρ : Rho) : List Nat → Rho
  | [] => ρ
  | i :: is => (wipeR ρ is).set i none
/-- the slots of is as they stood in ρ0 -/
def backR (ρ0 ρ : Rho) : List Nat → Rho
  | [] => ρ
  | i :: is => backR ρ0 (ρ.set i (slotT ρ0 i)) is
def rngOk (i j : Int) : Bool := decide (-(2 ^ 62) ≤ i ∧ i < 2 ^ 62 ∧ -(2 ^ 62) ≤ j ∧ j < 2 ^ 62)

def lcRun (own : List Nat) (tg : Tg) (src : Src) (c : Rho → R Bool) (elt : Rho → R D) : Nat → Nat → List D → Rho → R (List D)
  | 0, _, acc, ρ => if src.fin ρ then .ok acc ρ else .no
  | n + 1, j, acc, ρ => match src.item j ρ with
    | none => .no
    | some d => match tg.put d ρ with
      | none => .no
      | some ρ1 => match c ρ1 with
        | .ok true ρ2 => match elt ρ2 with
          | .ok y ρ3 => if acc.length < sizeLine then lcRun own tg src c elt n (j + 1) (acc ++ [y]) (wipeR ρ3 own) else .no
          | .exc x ρ3 => .exc x ρ3
          | .no => .no
        | .ok false ρ2 => lcRun own tg src c elt n (j + 1) acc (wipeR ρ2 own)
        | .exc x ρ2 => .exc x ρ2
        | .no => .no
/-- an error that comes out: the slots are set back -/
def R.lets {α : Type} (b : Rho → Rho) : R α → R α
  | .ok a ρ => .ok a ρ
  | .exc x ρ => .exc x (b ρ)
  | .no => .no
/-- no error comes out -/
def R.calm {α : Type} : R α → R α
  | .ok a ρ => .ok a ρ
  | .exc _ _ => .no
  | .no => .no

/-- a comprehension over the keys of the dict at slot i, which is locked meanwhile -/
def unlkR (i : Nat) (ρ : Rho) : Option Rho := match slotT ρ i with
  | some (.lk b kvs) => some (ρ.set i (some (.od b kvs)))
  | _ => none
def lcdRun (s i : Nat) (c : Rho → R Bool) (elt : Rho → R D) (ρ : Rho) : R Opd := match slotT ρ i with
  | some (.od false kvs) => if s = i then .no else
    (lcRun [s] (.one s) (.tmp false (kvs.map (·.1))) c elt kvs.length 0 [] ((ρ.set i (some (.lk false kvs))).set s none)).calm.bind fun ds ρ2 => match unlkR i (ρ2.set s (slotT ρ s)) with
      | some ρ3 => .ok (.tmp (.ol ds)) ρ3
      | none => .no
  | _ => .no
section
variable (Φ : Fx)
abbrev Two := (Rho → R Opd) × (Rho → R Bool)
/-- an expression's value, and its truth by its value -/
def dfl (o : Rho → R Opd) : Two := (o, fun ρ => (o ρ).bind fun x ρ1 => R.of ((x.see ρ1).bind truthD) ρ1)
/-- .. taken: what stands at a slot is frozen -/
def asT (e : E) (o : Rho → R Opd) (ρ : Rho) : R T := match e with
  | .nm i => takeSlot i ρ
  | .mv i => moveSlot i ρ
  | _ => (o ρ).bind fun x ρ1 => match x with
    | .tmp t => .ok t ρ1
    | .sl _ => .no
def asD (e : E) (o : Rho → R Opd) (ρ : Rho) : R D := frz (asT e o ρ)
def ofB (r : R Bool) : R Opd := r.map fun k => .tmp (.fz (.bool k))
def cmpB (op : CmpOp) (oa ob : Rho → R Opd) (ρ : Rho) : R Bool := (oa ρ).bind fun x ρ1 => (ob ρ1).bind fun y ρ2 => R.of ((x.see ρ2).bind fun d => (y.see ρ2).bind fun e => cmpD op d e) ρ2
def chnB (o1 o2 : CmpOp) (oa ob oc : Rho → R Opd) (ρ : Rho) : R Bool := (oa ρ).bind fun x ρ1 => (ob ρ1).bind fun y ρ2 =>
    match (x.see ρ2).bind fun d => (y.see ρ2).bind fun e => cmpD o1 d e with
    | none => .no
    | some false => .ok false ρ2
    | some true => (oc ρ2).bind fun z ρ3 => R.of ((y.see ρ3).bind fun e => (z.see ρ3).bind fun f => cmpD o2 e f) ρ3
def muFin (m : Mu) (i : Nat) (ds : List D) (ρ : Rho) : R Opd := match slotT ρ i with
  | some (.ol xs) => match muD m xs ds with
    | some (ys, d) => .ok (.tmp (.fz d)) (ρ.set i (some (.ol ys)))
    | none => .no
  | _ => .no
mutual
def ev2 : E → Two
  | .nm i => dfl fun ρ => match slotT ρ i with
    | some _ => .ok (.sl i) ρ
    | none => .no
  | .mv i => dfl fun ρ => .no
  | .int i => dfl fun ρ => .ok (.tmp (.fz (.int i))) ρ
  | .str x => dfl fun ρ => .ok (.tmp (.fz (.str x))) ρ
  | .bl b => dfl fun ρ => .ok (.tmp (.fz (.bool b))) ρ
  | .non => dfl fun ρ => .ok (.tmp (.fz .none)) ρ
  | .glb _ d => dfl fun ρ => .ok (.tmp (.fz d)) ρ
  | .bin op a b => dfl fun ρ => ((ev2 a).1 ρ).bind fun x ρ1 => ((ev2 b).1 ρ1).bind fun y ρ2 => R.of ((x.see ρ2).bind fun d => (y.see ρ2).bind fun e => (binD op d e).map Opd.tmp) ρ2
  | .neg a => dfl fun ρ => ((ev2 a).1 ρ).bind fun x ρ1 => R.of ((x.see ρ1).bind fun d => (negD d).map fun e => .tmp (.fz e)) ρ1
  | .cmp op a b => (fun ρ => ofB (cmpB op (ev2 a).1 (ev2 b).1 ρ), cmpB op (ev2 a).1 (ev2 b).1)
  | .chn o1 o2 a b c => (fun ρ => ofB (chnB o1 o2 (ev2 a).1 (ev2 b).1 (ev2 c).1 ρ), chnB o1 o2 (ev2 a).1 (ev2 b).1 (ev2 c).1)
  | .and_ a b => (fun ρ => (asT a (ev2 a).1 ρ).bind fun t ρ1 => match t.view.bind truthD with
    | none => .no
    | some false => .ok (.tmp t) ρ1
    | some true => (asT b (ev2 b).1 ρ1).map .tmp,
    fun ρ => ((ev2 a).2 ρ).bind fun k ρ1 => if k then (ev2 b).2 ρ1 else .ok false ρ1)
  | .or_ a b => (fun ρ => (asT a (ev2 a).1 ρ).bind fun t ρ1 => match t.view.bind truthD with
    | none => .no
    | some true => .ok (.tmp t) ρ1
    | some false => (asT b (ev2 b).1 ρ1).map .tmp,
    fun ρ => ((ev2 a).2 ρ).bind fun k ρ1 => if k then .ok true ρ1 else (ev2 b).2 ρ1)
  | .not_ a => (fun ρ => ((ev2 a).1 ρ).bind fun x ρ1 => R.of (((x.see ρ1).bind truthD).map fun k => .tmp (.fz (.bool (!k)))) ρ1,
    fun ρ => ((ev2 a).2 ρ).map (!·))
  | .ite c a b => dfl fun ρ => ((ev2 c).2 ρ).bind fun k ρ1 => if k then (asT a (ev2 a).1 ρ1).map .tmp else (asT b (ev2 b).1 ρ1).map .tmp
  | .lst es => dfl fun ρ => (evDs es ρ).bind fun ds ρ1 => if ds.length ≤ sizeLine then .ok (.tmp (.ol ds)) ρ1 else .no
  | .tup es => dfl fun ρ => (evDs es ρ).bind fun ds ρ1 => if ds.length ≤ sizeLine then .ok (.tmp (.fz (.tuple ds))) ρ1 else .no
  | .idx a i => dfl fun ρ => ((ev2 a).1 ρ).bind fun x ρ1 => ((ev2 i).1 ρ1).bind fun y ρ2 => R.of ((x.see ρ2).bind fun d => (y.see ρ2).bind fun e => (idxD d e).map fun f => .tmp (.fz f)) ρ2
  | .slc a lo hi => dfl fun ρ => ((ev2 a).1 ρ).bind fun x ρ1 => (evOI lo ρ1).bind fun l ρ2 => (evOI hi ρ2).bind fun h ρ3 => R.of ((x.see ρ3).bind fun d => (slcD d l h).map Opd.tmp) ρ3
  | .call f es ds => dfl fun ρ => (evOs es ρ).bind fun os ρ1 => (callF Φ f os ds ρ1).map .tmp
  | .bi f es => dfl fun ρ => (evOs es ρ).bind fun os ρ1 => R.of ((sees ρ1 os).bind fun ds => (biD f ds).map Opd.tmp) ρ1
  | .rl1 a => dfl fun ρ => ((ev2 a).1 ρ).bind fun x ρ1 => R.of ((x.see ρ1).bind fun d => (rl1D d).map Opd.tmp) ρ1
  | .rl2 a b => dfl fun ρ => ((ev2 a).1 ρ).bind fun x ρ1 => ((ev2 b).1 ρ1).bind fun y ρ2 => R.of ((x.see ρ2).bind fun d => (y.see ρ2).bind fun e => (rl2D d e).map Opd.tmp) ρ2
  | .isi a ks => dfl fun ρ => ((ev2 a).1 ρ).bind fun x ρ1 => R.of ((x.see ρ1).map fun d => .tmp (.fz (.bool (ks.any fun k => isKd k d)))) ρ1
  | .me m o es => dfl fun ρ => ((ev2 o).1 ρ).bind fun x ρ1 => if ((x.see ρ1).map (meTy m)).getD false then (evOs es ρ1).bind fun os ρ2 => R.of ((x.see ρ2).bind fun d => (sees ρ2 os).bind fun ds => (meD m d ds).map Opd.tmp) ρ2 else .no
  | .mu m i es => dfl fun ρ => if isOl (slotT ρ i) then (evDs es ρ).bind (muFin m i) else .no
  | .lc tg own it c elt => dfl fun ρ => (evI it ρ).bind fun src ρ1 =>
    ((lcRun own tg src (evC c) (asD elt (ev2 elt).1) src.len 0 [] (wipeR ρ1 own)).lets fun ρ2 => backR ρ1 (wipeR ρ2 own) own).bind fun ds ρ2 => .ok (.tmp (.ol ds)) (backR ρ1 ρ2 own)
  | .lrv a => dfl fun ρ => ((ev2 a).1 ρ).bind fun x ρ1 => R.of ((x.see ρ1).bind fun d => (lrvD d).map Opd.tmp) ρ1
  | .lrr a => dfl fun ρ => ((ev2 a).1 ρ).bind fun x ρ1 => R.of ((x.see ρ1).bind fun d => (lrrD d).map Opd.tmp) ρ1
  | .dn b => dfl fun ρ => .ok (.tmp (.od b [])) ρ
  | .d1 k v => dfl fun ρ => (asD k (ev2 k).1 ρ).bind fun x ρ1 => (asD v (ev2 v).1 ρ1).bind fun y ρ2 => if (keyD x).isSome then .ok (.tmp (.od false [(x, y)])) ρ2 else .no
  | .dpr a => dfl fun ρ => ((ev2 a).1 ρ).bind fun x ρ1 => R.of ((x.see ρ1).bind fun d => (dprD d).map Opd.tmp) ρ1
  | .dat a k => dfl fun ρ => ((ev2 a).1 ρ).bind fun x ρ1 => ((ev2 k).1 ρ1).bind fun y ρ2 => R.of ((x.dic ρ2).bind fun q => (y.see ρ2).bind fun e => (datD q e).map fun f => .tmp (.fz f)) ρ2
  | .din neg k a => (fun ρ => ofB (((ev2 k).1 ρ).bind fun y ρ1 => ((ev2 a).1 ρ1).bind fun x ρ2 => R.of ((y.see ρ2).bind fun e => (x.dic ρ2).bind fun q => (dinD q e).map fun r => if neg then !r else r) ρ2),
    fun ρ => ((ev2 k).1 ρ).bind fun y ρ1 => ((ev2 a).1 ρ1).bind fun x ρ2 => R.of ((y.see ρ2).bind fun e => (x.dic ρ2).bind fun q => (dinD q e).map fun r => if neg then !r else r) ρ2)
  | .dge a k d => dfl fun ρ => ((ev2 a).1 ρ).bind fun x ρ1 => if (x.dic ρ1).isSome then ((ev2 k).1 ρ1).bind fun y ρ2 => (evODf d ρ2).bind fun f ρ3 => R.of ((x.dic ρ3).bind fun q => (y.see ρ3).bind fun e => (dgeD q e f).map fun g => .tmp (.fz g)) ρ3 else .no
  | .lcd s i c elt => dfl fun ρ => lcdRun s i (evC c) (asD elt (ev2 elt).1) ρ
def evDs : Es → Rho → R (List D)
  | .nil, ρ => .ok [] ρ
  | .cons e es, ρ => (asD e (ev2 e).1 ρ).bind fun d ρ1 => (evDs es ρ1).map (d :: ·)
def evOs : Es → Rho → R (List Opd)
  | .nil, ρ => .ok [] ρ
  | .cons e es, ρ => ((ev2 e).1 ρ).bind fun o ρ1 => (evOs es ρ1).map (o :: ·)
def evOI : OE → Rho → R (Option Int)
  | .none, ρ => .ok none ρ
  | .some e, ρ => ((ev2 e).1 ρ).bind fun x ρ1 => R.of ((x.see ρ1).bind fun d => match d with | .int i => some (some i) | _ => none) ρ1
/-- a default that is handed; None else -/
def evODf : OE → Rho → R D
  | .none, ρ => .ok .none ρ
  | .some e, ρ => asD e (ev2 e).1 ρ
def evC : OE → Rho → R Bool
  | .none, ρ => .ok true ρ
  | .some e, ρ => (ev2 e).2 ρ
def evI : It → Rho → R Src
  | .opd e, ρ => ((ev2 e).1 ρ).bind fun x ρ1 => R.of ((x.see ρ1).bind (srcD x)) ρ1
  | .rng1 a, ρ => ((ev2 a).1 ρ).bind fun x ρ1 => R.of ((x.see ρ1).bind fun d => match d with | .int j => if rngOk 0 j then some (.rng 0 1 j.toNat) else none | _ => none) ρ1
  | .rng2 a b, ρ => ((ev2 a).1 ρ).bind fun x ρ1 => ((ev2 b).1 ρ1).bind fun y ρ2 => R.of ((x.see ρ2).bind fun d => (y.see ρ2).bind fun e => match d, e with | .int i, .int j => if rngOk i j then some (.rng i 1 (j - i).toNat) else none | _, _ => none) ρ2
  | .revR1 a, ρ => ((ev2 a).1 ρ).bind fun x ρ1 => R.of ((x.see ρ1).bind fun d => match d with | .int j => if rngOk 0 j then some (.rng ((j.toNat : Int) - 1) (-1) j.toNat) else none | _ => none) ρ1
  | .revR2 a b, ρ => .no
  | .rev e, ρ => (asD e (ev2 e).1 ρ).bind fun d ρ1 => R.of (match d with | .list ds => some (.tmp false ds.reverse) | _ => none) ρ1
end
abbrev evO (e : E) (ρ : Rho) : R Opd := (ev2 Φ e).1 ρ
abbrev evB (e : E) (ρ : Rho) : R Bool := (ev2 Φ e).2 ρ
abbrev evT (e : E) (ρ : Rho) : R T := asT e (ev2 Φ e).1 ρ
abbrev evD (e : E) (ρ : Rho) : R D := asD e (ev2 Φ e).1 ρ

inductive Fl where
  | nx | rt (t : T) | bk | ct
def forRun (tg : Tg) (src : Src) (body : Rho → R Fl) : Nat → Nat → Rho → R Fl
  | 0, _, ρ => if src.fin ρ then .ok .nx ρ else .no
  | n + 1, j, ρ => match src.item j ρ with
    | none => .no
    | some d => match tg.put d ρ with
      | none => .no
      | some ρ1 => match body ρ1 with
        | .ok .nx ρ2 => forRun tg src body n (j + 1) ρ2
        | .ok .ct ρ2 => forRun tg src body n (j + 1) ρ2
        | .ok .bk ρ2 => .ok .nx ρ2
        | .ok (.rt t) ρ2 => .ok (.rt t) ρ2
        | .exc x ρ2 => .exc x ρ2
        | .no => .no
def whileRun (c : Rho → R Bool) (body : Rho → R Fl) : Nat → Rho → R Fl
  | 0, _ => .no
  | n + 1, ρ => match c ρ with
    | .ok true ρ1 => match body ρ1 with
      | .ok .nx ρ2 => whileRun c body n ρ2
      | .ok .ct ρ2 => whileRun c body n ρ2
      | .ok .bk ρ2 => .ok .nx ρ2
      | .ok (.rt t) ρ2 => .ok (.rt t) ρ2
      | .exc x ρ2 => .exc x ρ2
      | .no => .no
    | .ok false ρ1 => .ok .nx ρ1
    | .exc x ρ1 => .exc x ρ1
    | .no => .no
def catchR (sub : Str → Str → Option Bool) (x : Ex) (ρ : Rho) : List (Str × D) → R Fl
  | [] => .exc x ρ
  | (h, d) :: r => match sub x.c h with
    | none => .no
    | some true => .ok (.rt (.fz d)) ρ
    | some false => catchR sub x ρ r
def catchT (sub : Str → Str → Option Bool) (x : Ex) (ρ : Rho) (h1 h2 : Str) (d : D) : R Fl := match sub x.c h1, sub x.c h2 with
  | some b1, some b2 => if (b1 || (b2 || false)) = true then .ok (.rt (.fz d)) ρ else .exc x ρ
  | _, _ => .no
def catchC (Φ : Fx) (h : Str) (i : Nat) (f : Str) : R Fl → R Fl
  | .exc x ρ => match Φ.sub x.c h with
    | none => .no
    | some false => .exc x ρ
    | some true => match Φ.hot f x.c, x.fs with
      | some d, [] => .ok (.rt (.fz d)) (ρ.set i none)
      | _, _ => .no
  | r => r
def catchI (Φ : Fx) (h : Str) (i : Nat) (c1 c2 : Str) : R Fl → R Fl
  | .exc x ρ => match Φ.sub x.c h with
    | none => .no
    | some false => .exc x ρ
    | some true => match Φ.isx x.c c1, Φ.isx x.c c2, x.fs with
      | some b1, some b2, [] => .ok (.rt (.fz (.bool (b1 && b2)))) (ρ.set i none)
      | _, _, _ => .no
  | r => r
def subFin (i : Nat) (d : D) (k : Option D) (ρ : Rho) : R Fl := match slotT ρ i, k with
  | some (.ol xs), some (.int n) => match ixN xs.length n with
    | some j => .ok .nx (ρ.set i (some (.ol (xs.set j d))))
    | none => .no
  | _, _ => .no
def dstFin (i : Nat) (d : D) (k : Option D) (ρ : Rho) : R Fl := match slotT ρ i, k with
  | some (.od b kvs), some e => if keyOk b e = true ∧ kvs.length < sizeLine then .ok .nx (ρ.set i (some (.od b (putKD b kvs e d)))) else .no
  | _, _ => .no
def isOd : Option T → Bool
  | some (.od _ _) => true
  | _ => false
/-- the dict at slot i is unlocked behind a loop -/
def unlkF (i : Nat) : R Fl → R Fl
  | .ok f ρ => match unlkR i ρ with
    | some ρ2 => .ok f ρ2
    | none => .no
  | r => r
def setFin (is : List Nat) (x : Option D) (ρ : Rho) : R Fl := match x with
  | some (.tuple ds) => match setMany is ds ρ with
    | some ρ2 => .ok .nx ρ2
    | none => .no
  | some (.list ds) => match setMany is ds ρ with
    | some ρ2 => .ok .nx ρ2
    | none => .no
  | _ => .no
def parFin (i j : Nat) (ds : List D) (ρ : Rho) : R Fl := match ds with
  | [d, e] => .ok .nx ((ρ.set i (some (.fz d))).set j (some (.fz e)))
  | _ => .no
mutual
def exS : S → Rho → R Fl
  | .set i e, ρ => (evT Φ e ρ).bind fun t ρ1 => .ok .nx (ρ1.set i (some t))
  | .setF i e, ρ => (evD Φ e ρ).bind fun d ρ1 => .ok .nx (ρ1.set i (some (.fz d)))
  | .setT is e, ρ => (evO Φ e ρ).bind fun x ρ1 => setFin is (x.see ρ1) ρ1
  | .par i j a b, ρ => (evDs Φ (.cons a (.cons b .nil)) ρ).bind (parFin i j)
  | .sub i k e, ρ => (evD Φ e ρ).bind fun d ρ1 => if isOl (slotT ρ1 i) then (evO Φ k ρ1).bind fun y ρ2 => subFin i d (y.see ρ2) ρ2 else .no
  | .dst i k e, ρ => (evD Φ e ρ).bind fun d ρ1 => if isOd (slotT ρ1 i) then (evO Φ k ρ1).bind fun y ρ2 => dstFin i d (y.see ρ2) ρ2 else .no
  | .ford s i b, ρ => match slotT ρ i with
    | some (.od false kvs) => if i ∈ s :: b.sets then .no else unlkF i (forRun (.one s) (.tmp false (kvs.map (·.1))) (exSs b) kvs.length 0 (ρ.set i (some (.lk false kvs))))
    | _ => .no
  | .expr e, ρ => (evO Φ e ρ).bind fun _ ρ1 => .ok .nx ρ1
  | .ret e, ρ => (evT Φ e ρ).map .rt
  | .retN, ρ => .ok (.rt (.fz .none)) ρ
  | .ifS c a b, ρ => (evB Φ c ρ).bind fun k ρ1 => if k then exSs a ρ1 else exSs b ρ1
  | .whl c b, ρ => whileRun (evB Φ c) (exSs b) Φ.fuel ρ
  | .for_ tg it b, ρ => (evI Φ it ρ).bind fun src ρ1 => if src.free (tg.is ++ b.sets) then forRun tg src (exSs b) src.len 0 ρ1 else .no
  | .raise c e, ρ => (evO Φ e ρ).bind fun _ ρ1 => .exc ⟨c, []⟩ ρ1
  | .tryR b hs, ρ => match exSs b ρ with
    | .exc x ρ1 => catchR Φ.sub x ρ1 hs
    | r => r
  | .tryC b h i f, ρ => catchC Φ h i f (exSs b ρ)
  | .tryT b h1 h2 d, ρ => match exSs b ρ with
    | .exc x ρ1 => catchT Φ.sub x ρ1 h1 h2 d
    | r => r
  | .tryI b h i c1 c2, ρ => catchI Φ h i c1 c2 (exSs b ρ)
  | .pass, ρ => .ok .nx ρ
  | .brk, ρ => .ok .bk ρ
  | .cont, ρ => .ok .ct ρ
def exSs : Ss → Rho → R Fl
  | .nil, ρ => .ok .nx ρ
  | .cons s ss, ρ => (exS s ρ).bind fun f ρ1 => match f with
    | .nx => exSs ss ρ1
    | g => .ok g ρ1
end
end
end L2.Eng

/-! EngC: the operations' rules, over what is seen of things that are held. -/
namespace L2.Eng
open PySem PySem.Spec PyProof.Rows

/-- what is seen of a thing that is held -/
def Vw (G H : Hp) (v : V) (d : D) : Prop := Rq G v d ∨ ∃ a vs ds, v = .ref a ∧ d = .list ds ∧ H a = some (.lst vs) ∧ RqAll G vs ds
theorem Held.vw {G H : Hp} {v : V} {t : T} {d : D} {L : List (V × T)} (h : Held G H ((v, t) :: L)) (e : t.view = some d) : Vw G H v d := by
  cases t with
  | fz d' => cases e; exact .inl h.fz
  | ol ds =>
    cases e
    obtain ⟨a, vs, rfl, _, e, r, _⟩ := h.ol
    exact .inr ⟨a, vs, ds, rfl, rfl, e, r⟩
  | od _ _ => cases e
  | lk _ _ => cases e
section
variable {G H : Hp} {v : V}
theorem Vw.rq {d : D} (s : Same G H) (h : Vw G H v d) : Rq H v d := by
  rcases h with h | ⟨a, vs, ds, rfl, rfl, e, r⟩
  · exact h.mono s
  · exact .lst (.inl e) (r.mono s)
theorem Rq.vInt {i : Int} (h : Rq G v (.int i)) : v = .int i := by cases h; rfl
theorem Rq.vBl {i : Bool} (h : Rq G v (.bool i)) : v = .bl i := by cases h; rfl
theorem Rq.vStr {i : Str} (h : Rq G v (.str i)) : v = .str i := by cases h; rfl
theorem Rq.vNon (h : Rq G v .none) : v = .non := by cases h; rfl
theorem Rq.lst' {ds : List D} (h : Rq G v (.list ds)) : ∃ a vs, v = .ref a ∧ Rd G a (.lst vs) ∧ RqAll G vs ds := by cases h with | lst r k => exact ⟨_, _, rfl, r, k⟩
theorem Rq.tup' {ds : List D} (h : Rq G v (.tuple ds)) : ∃ a vs, v = .ref a ∧ Rd G a (.tup vs) ∧ RqAll G vs ds := by cases h with | tup r k => exact ⟨_, _, rfl, .inl r, k⟩
theorem Rq.dict' {ds : List (D × D)} (h : Rq G v (.dict ds)) : False := by cases h
theorem Vw.int {i : Int} (h : Vw G H v (.int i)) : v = .int i := by
  rcases h with h | ⟨_, _, _, _, e, _⟩
  · exact h.vInt
  · cases e
theorem Vw.bl {i : Bool} (h : Vw G H v (.bool i)) : v = .bl i := by
  rcases h with h | ⟨_, _, _, _, e, _⟩
  · exact h.vBl
  · cases e
theorem Vw.str {i : Str} (h : Vw G H v (.str i)) : v = .str i := by
  rcases h with h | ⟨_, _, _, _, e, _⟩
  · exact h.vStr
  · cases e
theorem Vw.non (h : Vw G H v .none) : v = .non := by
  rcases h with h | ⟨_, _, _, _, e, _⟩
  · exact h.vNon
  · cases e
theorem Vw.lst {ds : List D} (s : Same G H) (h : Vw G H v (.list ds)) : ∃ a vs, v = .ref a ∧ Rd H a (.lst vs) ∧ RqAll G vs ds := by
  rcases h with h | ⟨a, vs, ds', rfl, e, e', r⟩
  · obtain ⟨a, vs, rfl, r, k⟩ := h.lst'
    exact ⟨a, vs, rfl, Rd.mono s r, k⟩
  · cases e
    exact ⟨a, vs, rfl, .inl e', r⟩
theorem Vw.tup {ds : List D} (s : Same G H) (h : Vw G H v (.tuple ds)) : ∃ a vs, v = .ref a ∧ Rd H a (.tup vs) ∧ RqAll G vs ds := by
  rcases h with h | ⟨_, _, _, _, e, _⟩
  · obtain ⟨a, vs, rfl, r, k⟩ := h.tup'
    exact ⟨a, vs, rfl, Rd.mono s r, k⟩
  · cases e
theorem Vw.dict {ds : List (D × D)} (h : Vw G H v (.dict ds)) : False := by
  rcases h with h | ⟨_, _, _, _, e, _⟩
  · exact h.dict'
  · cases e
end
theorem SqL.rd {K : PySem.W.Frag} {H : Hp} {a : Addr} {xs : List V} (h : Rd H a (.lst xs)) : SqL K H a xs := .inl h
theorem SqT.rd {K : PySem.W.Frag} {H : Hp} {a : Addr} {xs : List V} (h : Rd H a (.tup xs)) : SqT K H a xs := .inl h
mutual
theorem Rq.dp {K : PySem.W.Frag} {H : Hp} : ∀ {v : V} {d : D}, Rq H v d → Dp K H v d
  | _, _, .non => .non
  | _, _, .bl b => .bl b
  | _, _, .int i => .int i
  | _, _, .str x => .str x
  | _, _, .lst r h => .lst (SqL.rd r) (RqAll.dp h)
  | _, _, .tup r h => .tup (SqT.rd (.inl r)) (RqAll.dp h)
theorem RqAll.dp {K : PySem.W.Frag} {H : Hp} : ∀ {vs : List V} {ds : List D}, RqAll H vs ds → DpAll K H vs ds
  | _, _, .nil => .nil
  | _, _, .cons a b => .cons (Rq.dp a) (RqAll.dp b)
end

/-- a value that has come anew -/
inductive NewT (G H : Hp) : V → T → Hp → Prop
  | fz {v : V} {d : D} : Rq G v d → NewT G H v (.fz d) H
  | tup {p : Addr} {vs : List V} {ds : List D} : H p = none → RqAll G vs ds → NewT G H (.ref p) (.fz (.tuple ds)) (upd H p (.tup vs))
  | ol {p : Addr} {vs : List V} {ds : List D} : H p = none → RqAll G vs ds → NewT G H (.ref p) (.ol ds) (upd H p (.lst vs))
  | od {p : Addr} {b : Bool} {u : DV} {ds : List (D × D)} : H p = none → RqD G b u ds → NewT G H (.ref p) (.od b ds) (upd H p u.ho)
theorem Rel.new {G H H' : Hp} {ρ : Rho} {τ : List (V × T)} {σ : St} {v : V} {t : T} (R : Rel G ρ τ σ H) (n : NewT G H v t H') : ∃ G', Same G G' ∧ Rel G' ρ ((v, t) :: τ) σ H' := by
  cases n with
  | fz r => exact ⟨G, Same.refl _, R.same, R.slots, (R.held.addFz r).unmid⟩
  | @tup p vs ds hn r =>
    have g := R.same.free hn
    refine ⟨upd G p (.tup vs), Same.updOut g, Same.updBoth R.same, R.slots, ?_⟩
    exact ((R.held.newFz R.same hn).addFz (.tup upd_same (r.mono (Same.updOut g)))).unmid
  | @ol p vs ds hn r => exact ⟨G, Same.refl _, Same.updNew R.same hn, R.slots, (R.held.newList R.same hn r).unmid⟩
  | @od p b u ds hn r => exact ⟨G, Same.refl _, Same.updNew R.same hn, R.slots, (R.held.newDict R.same hn r).unmid⟩

section
variable {X : Cx} {pins : List (Addr × Obj)} {σ : St} {H : Hp} {s : Shared}
theorem Inv.lstR {l : Addr} {xs : List V} (I : Inv X pins σ H s) (h : Rd H l (.lst xs)) : xs.length ≤ sizeLine ∧ ∃ (its : List Value) (n : Nat), Vals xs its ∧ xs.length = its.length ∧ s.heap.get? l = some { cls := .type "list", data := .seq its.toArray n } := by
  obtain ⟨z, its, n, r, e⟩ := h.ok I.hok
  exact ⟨z, its, n, r, r.length, e⟩
theorem op_catR : OpR X (binaryOp .Add) (fun x y H Q => ∃ l b xs zs, x = .ref l ∧ y = .ref b ∧ Rd H l (.lst xs) ∧ Rd H b (.lst zs) ∧ xs.length + zs.length ≤ sizeLine ∧ ∀ p, H p = none → Q (.ref p) (upd H p (.lst (xs ++ zs)))) := by
  intro pins s σ H x y v u Q I rx ry h
  obtain ⟨l, b, xs, zs, rfl, rfl, hH, hB, hz, q⟩ := h
  cases rx
  cases ry
  obtain ⟨z, its, n, r, hl, e⟩ := Inv.lstR I hH
  obtain ⟨z2, its2, n2, r2, hl2, e2⟩ := Inv.lstR I hB
  refine PySem.P.add_list e e2 ?_ (by rw [List.size_toArray, List.size_toArray]; omega)
  have ea : its.toArray ++ its2.toArray = (its ++ its2).toArray := by simp
  rw [ea]
  exact ⟨.ref _, _, I.lnew (t' := s.toks) (r.append r2) (by rw [List.length_append]; omega), rfl, q _ I.fresh⟩

theorem op_mul_str : OpR X (binaryOp .Mult) (fun x y H Q => ∃ i n, x = .str i ∧ y = .int n ∧ (i.length * n.toNat ≤ 16777216 ∧ -(2 ^ 62) ≤ n ∧ n < 2 ^ 62) ∧ Q (.str (Txt.mul i n)) H) := by
  intro pins s σ H x y v u Q I rx ry h
  obtain ⟨i, n, rfl, rfl, ⟨hz, h1, h2⟩, q⟩ := h
  obtain ⟨t, rfl⟩ := rx
  obtain ⟨t', rfl⟩ := ry
  refine PySem.SB.mul (x := i) (n := n) ⟨?_, fun p1 p2 => ?_, fun _ _ => ?_⟩ (fun t'' k => ⟨.str (Txt.mul i n), H, I.tok _, ⟨_, rfl⟩, q⟩)
  · rw [decide_eq_false (show ¬ n < -(2 ^ 63 : Int) by omega), decide_eq_false (show ¬ n ≥ 2 ^ 63 by omega)]
    rfl
  · have hn : 0 < n := by omega
    have hle : (i.length : Int) ≤ (2 ^ 63 - 1) / n := by
      rw [Int.le_ediv_iff_mul_le hn]
      have e : (i.length : Int) * n = ((i.length * n.toNat : Nat) : Int) := by
        rw [Int.natCast_mul, Int.toNat_of_nonneg (by omega)]
      rw [e]
      omega
    omega
  · show decide (i.length * n.toNat > sizeLine) = false
    rw [decide_eq_false_iff_not]
    have : sizeLine = 16777216 := by decide
    omega
theorem op_repR : OpR X (binaryOp .Mult) (fun x y H Q => ∃ l k xs, x = .ref l ∧ y = .int k ∧ Rd H l (.lst xs) ∧ (xs.length * k.toNat ≤ sizeLine ∧ -(2 ^ 62) ≤ k ∧ k < 2 ^ 62) ∧ ∀ p, H p = none → Q (.ref p) (upd H p (.lst (List.replicate k.toNat xs).flatten))) := by
  intro pins s σ H x y v u Q I rx ry h
  obtain ⟨l, k, xs, rfl, rfl, hH, ⟨hz, h1, h2⟩, q⟩ := h
  cases rx
  obtain ⟨t, rfl⟩ := ry
  obtain ⟨z, its, n, r, hl, e⟩ := Inv.lstR I hH
  have hlen : its.toArray.size * k.toNat ≤ sizeLine := by rw [List.size_toArray, ← hl]; exact hz
  have hcap : ¬ its.toArray.size * k.toNat > (2 ^ 63 - 1) / 8 := by
    have : (sizeLine : Nat) ≤ (2 ^ 63 - 1) / 8 := by decide
    omega
  have hfit : ¬ (!Builtin.List.listFitsIndex k) = true := by
    rw [fitsIndex_both (by omega) (by omega)]
    exact Bool.false_ne_true
  have hlong : ¬ Builtin.List.listTooLong (its.toArray.size * k.toNat) = true := by
    rw [notLongL hlen]
    exact Bool.false_ne_true
  have hnew : List.foldl (fun x1 x2 => x1 ++ x2) #[] (List.replicate (if its.toArray.isEmpty = true then 0 else k.toNat) its.toArray) = (List.replicate k.toNat its).flatten.toArray := by
    have f0 : ∀ m : Nat, List.foldl (fun x1 x2 => x1 ++ x2) #[] (List.replicate m its.toArray) = (List.replicate m its).flatten.toArray := fun m => by
      have := foldl_rep its m []
      rw [List.nil_append] at this
      exact this
    rw [f0]
    cases its with
    | nil => simp
    | cons a r' => rw [if_neg (by simp)]
  refine wpAny_binaryOp_repeat_ref (T := "list") (U := "int") (by decide) ⟨_, e, rfl⟩ (fun s' => typeIs_int s' k t) noFill_list_mul F.fills_int_mul F.slot_int_rmul repeat_list F.slot_int_index.lookup
    (call_meets F.slot_int_rmul (typeIs_int s k t) F.entry_int_rmul (F.args_int_rmul_2 _ _) (int___rmul___int_list k t l its.toArray n)
      ⟨e, rfl, ⟨_, e, rfl⟩, call_meets F.slot_list_mul ⟨_, e, rfl⟩ F.entry_list_mul (F.args_list_mul_2 _ _) (AutoListH.list___mul___list_int_3 l its.toArray n k t hfit hcap hlong) ⟨e, ?_⟩⟩)
  rw [hnew]
  exact ⟨.ref _, _, I.lnew (t' := s.toks) (r.rep k.toNat) (by rw [PyProof.Rows.lm_len_rep_flat, Nat.mul_comm]; exact hz), rfl, q _ I.fresh⟩

theorem RqAll.rep {G : Hp} {vs : List V} {ds : List D} (h : RqAll G vs ds) : ∀ k : Nat, RqAll G (List.replicate k vs).flatten (List.replicate k ds).flatten
  | 0 => .nil
  | k + 1 => by
    rw [List.replicate_succ, List.replicate_succ, List.flatten_cons, List.flatten_cons]
    exact h.append (RqAll.rep h k)
/-- binary operators -/
def rBin (op : Operator) : R2 := fun x y H Q => ∃ G d e t, Same G H ∧ Vw G H x d ∧ Vw G H y e ∧ binD op d e = some t ∧ ∀ v H', NewT G H v t H' → Q v H'
theorem op_bin (op : Operator) : OpR X (binaryOp op) (rBin op) := by
  intro pins s σ H x y v u Q I rx ry ⟨G, d, e, t, sm, hx, hy, hb, q⟩
  have fzI : ∀ {i : Int}, t = .fz (.int i) → Q (.int i) H := fun {i} e => q _ _ (by subst e; exact .fz (.int i))
  have fzS : ∀ {i : Str}, t = .fz (.str i) → Q (.str i) H := fun {i} e => q _ _ (by subst e; exact .fz (.str i))
  cases d with
  | int i =>
    cases e with
    | int j =>
      have ex := hx.int
      have ey := hy.int
      subst ex ey
      cases op <;> simp only [binD] at hb <;> try contradiction
      case Add => exact op_add pins s σ H _ _ v u Q I rx ry ⟨i, j, rfl, rfl, fzI (Option.some.inj hb).symm⟩
      case Sub => exact op_sub pins s σ H _ _ v u Q I rx ry ⟨i, j, rfl, rfl, fzI (Option.some.inj hb).symm⟩
      case Mult =>
        split at hb
        · next h =>
          refine op_mul pins s σ H _ _ v u Q I rx ry ⟨i, j, rfl, rfl, ?_, fzI (Option.some.inj hb).symm⟩
          unfold mulOk at h
          simp only [Bool.or_eq_true, decide_eq_true_eq] at h
          exact h
        · cases hb
      case FloorDiv =>
        split at hb
        · next h => exact op_fdivN pins s σ H _ _ v u Q I rx ry ⟨i, j, rfl, rfl, h, fzI (Option.some.inj hb).symm⟩
        · cases hb
      case Mod =>
        split at hb
        · next h => exact op_modN pins s σ H _ _ v u Q I rx ry ⟨i, j, rfl, rfl, h, fzI (Option.some.inj hb).symm⟩
        · cases hb
      case Pow =>
        split at hb
        · next h => exact op_pow pins s σ H _ _ v u Q I rx ry ⟨i, j, rfl, rfl, h, fzI (Option.some.inj hb).symm⟩
        · cases hb
    | _ => cases op <;> simp [binD] at hb
  | str i =>
    cases e with
    | str j =>
      have ex := hx.str
      have ey := hy.str
      subst ex ey
      cases op <;> simp only [binD] at hb <;> try contradiction
      case Add =>
        split at hb
        · next h => exact op_add_str pins s σ H _ _ v u Q I rx ry ⟨i, j, rfl, rfl, h, fzS (Option.some.inj hb).symm⟩
        · cases hb
    | int j =>
      have ex := hx.str
      have ey := hy.int
      subst ex ey
      cases op <;> simp only [binD] at hb <;> try contradiction
      case Mult =>
        split at hb
        · next h => exact op_mul_str pins s σ H _ _ v u Q I rx ry ⟨i, j, rfl, rfl, h, fzS (Option.some.inj hb).symm⟩
        · cases hb
    | _ => cases op <;> simp [binD] at hb
  | list ds =>
    obtain ⟨a, vs, rfl, ra, ka⟩ := hx.lst sm
    cases e with
    | list es =>
      obtain ⟨b, ws, rfl, rb, kb⟩ := hy.lst sm
      cases op <;> simp only [binD] at hb <;> try contradiction
      case Add =>
        split at hb
        · next h =>
          refine op_catR pins s σ H _ _ v u Q I rx ry ⟨a, b, vs, ws, rfl, rfl, ra, rb, by rw [ka.length, kb.length]; exact h, fun p hp => q _ _ ?_⟩
          cases hb
          exact .ol hp (ka.append kb)
        · cases hb
    | int j =>
      have ey := hy.int
      subst ey
      cases op <;> simp only [binD] at hb <;> try contradiction
      case Mult =>
        split at hb
        · next h =>
          refine op_repR pins s σ H _ _ v u Q I rx ry ⟨a, j, vs, rfl, rfl, ra, by rw [ka.length]; exact h, fun p hp => q _ _ ?_⟩
          cases hb
          exact .ol hp (ka.rep j.toNat)
        · cases hb
    | _ => cases op <;> simp [binD] at hb
  | none => cases op <;> simp [binD] at hb
  | bool _ => cases op <;> cases e <;> simp [binD] at hb
  | tuple _ => cases op <;> simp [binD] at hb
  | dict _ => cases op <;> simp [binD] at hb
end
end L2.Eng

namespace L2.Eng
open PySem PySem.Spec PyProof.Rows

/-- a flat value by its data -/
def scV : D → Option V
  | .none => some .non | .bool b => some (.bl b) | .int i => some (.int i) | .str x => some (.str x) | _ => Option.none
theorem scV_flat {d : D} (f : flatD d = true) : ∃ x, scV d = some x := by
  cases d <;> first | exact ⟨_, rfl⟩ | cases f
section
variable {X : Cx} {G H : Hp} {v w : V}
theorem Vw.sc {d : D} {x : V} (h : Vw G H v d) (e : scV d = some x) : v = x := by
  cases d with
  | none => cases e; exact h.non
  | bool b => cases e; exact h.bl
  | int i => cases e; exact h.int
  | str x => cases e; exact h.str
  | list ds => cases e
  | tuple ds => cases e
  | dict _ => cases e
theorem Vw.cases' {d : D} (s : Same G H) (h : Vw G H v d) : (∃ x, scV d = some x ∧ v = x) ∨ (∃ a vs ds, d = .list ds ∧ v = .ref a ∧ Rd H a (.lst vs) ∧ RqAll G vs ds) ∨ ∃ a vs ds, d = .tuple ds ∧ v = .ref a ∧ Rd H a (.tup vs) ∧ RqAll G vs ds := by
  cases d with
  | none => exact .inl ⟨_, rfl, h.non⟩
  | bool b => exact .inl ⟨_, rfl, h.bl⟩
  | int i => exact .inl ⟨_, rfl, h.int⟩
  | str x => exact .inl ⟨_, rfl, h.str⟩
  | list ds => obtain ⟨a, vs, rfl, r, k⟩ := h.lst s; exact .inr (.inl ⟨a, vs, ds, rfl, rfl, r, k⟩)
  | tuple ds => obtain ⟨a, vs, rfl, r, k⟩ := h.tup s; exact .inr (.inr ⟨a, vs, ds, rfl, rfl, r, k⟩)
  | dict _ => exact h.dict.elim
theorem Vw.isNon {d : D} (s : Same G H) (h : Vw G H v d) : decide (v = .non) = isNonD d := by
  rcases h.cases' s with ⟨x, e, rfl⟩ | ⟨a, vs, ds, rfl, rfl, _⟩ | ⟨a, vs, ds, rfl, rfl, _⟩
  · cases d <;> simp only [scV] at e <;> first | (cases e; done) | (cases e; rfl)
  · rfl
  · rfl
theorem empty_eq {vs : List V} {ds : List D} (h : vs.length = ds.length) : (!vs.isEmpty) = !ds.isEmpty := by
  cases vs <;> cases ds <;> simp_all
theorem Vw.truth {K : PySem.W.Frag} {d : D} {k : Bool} (s : Same G H) (h : Vw G H v d) (e : truthD d = some k) : TruV K v H k := by
  rcases h.cases' s with ⟨x, q, rfl⟩ | ⟨a, vs, ds, rfl, rfl, r, k⟩ | ⟨a, vs, ds, rfl, rfl, r, k⟩
  · cases d with
    | str x =>
      cases q
      simp only [truthD] at e
      split at e
      · next z => cases e; exact ⟨z, rfl⟩
      · cases e
    | _ => cases q <;> cases e <;> rfl
  · cases e
    exact .inl ⟨vs, SqL.rd r, (empty_eq k.length).symm⟩
  · cases e
    exact .inr (.inl ⟨vs, SqT.rd r, (empty_eq k.length).symm⟩)
theorem flat_v {d : D} (h : Vw G H v d) (f : flatD d = true) : flatV v = true := by
  obtain ⟨x, e⟩ := scV_flat f
  cases h.sc e
  cases d <;> simp only [scV] at e <;> first | (cases e; done) | (cases e; rfl)
theorem eq_flat {d e : D} (h : Vw G H v d) (k : Vw G H w e) (f : flatD d = true) (g : flatD e = true) : eqV v w = PyData.eqv d e := by
  obtain ⟨x, ex⟩ := scV_flat f
  obtain ⟨y, ey⟩ := scV_flat g
  cases h.sc ex
  cases k.sc ey
  cases d <;> simp only [scV] at ex <;> first | (cases ex; done) | skip
  all_goals cases ex
  all_goals (cases e <;> simp only [scV] at ey <;> first | (cases ey; done) | skip)
  all_goals (cases ey; simp [eqV, PyData.eqv])
theorem eq_scal {d e : D} (h : Vw G H v d) (k : Vw G H w e) (f : scalD d e = true) : scal v w = true ∧ decide (v = w) = PyData.eqv d e := by
  have fd : flatD d = true := by cases d <;> first | rfl | (cases e <;> cases f)
  have fe : flatD e = true := by cases e <;> first | rfl | (cases d <;> cases f)
  obtain ⟨x, ex⟩ := scV_flat fd
  obtain ⟨y, ey⟩ := scV_flat fe
  cases h.sc ex
  cases k.sc ey
  cases d <;> simp only [scV] at ex <;> first | (cases ex; done) | skip
  all_goals cases ex
  all_goals (cases e <;> simp only [scV] at ey <;> first | (cases ey; done) | skip)
  all_goals first | (cases f; done) | (cases ey; refine ⟨rfl, ?_⟩; simp [PyData.eqv, Bool.beq_eq_decide_eq])
theorem any_flat {d : D} (h : Vw G H v d) (f : flatD d = true) : ∀ {vs : List V} {ds : List D}, RqAll G vs ds → ds.all flatD = true → vs.all flatV = true ∧ inV v vs = ds.any fun z => PyData.eqv z d
  | _, _, .nil, _ => ⟨rfl, rfl⟩
  | _, _, .cons (v := u) (vs := us) (d := c) (ds := cs) a b, g => by
    have g1 : flatD c = true ∧ cs.all flatD = true := by simpa using g
    obtain ⟨i1, i2⟩ := any_flat h f b g1.2
    have q : Vw G H u c := .inl a
    refine ⟨by rw [List.all_cons, flat_v q g1.1, i1]; rfl, ?_⟩
    show (eqV u v || inV v us) = _
    rw [List.any_cons, eq_flat q h g1.1 f, i2]
end

section
variable {X : Cx}
/-- a comparison -/
def rCmp (op : CmpOp) : R2 := fun x y H Q => ∃ G d e k, Same G H ∧ Vw G H x d ∧ Vw G H y e ∧ cmpD op d e = some k ∧ Q (.bl k) H
theorem op_cmp (hu : X.A.units + 65 < cLine) (op : CmpOp) : OpR X (compareOp op) (rCmp op) := by
  intro pins s σ H x y v u Q I rx ry ⟨G, d, e, k, sm, hx, hy, hb, q⟩
  have eqs : ∀ {b : Bool}, eqD d e = some b → (scal x y = true ∧ decide (x = y) = b) ∨ (Dp X.K H x d ∧ Dp X.K H y e ∧ SeqAt.shaped d = true ∧ SeqAt.shaped e = true ∧ PyData.eqv d e = b) := fun {b} he => by
    unfold eqD at he
    split at he
    · next h =>
      cases he
      rcases Bool.or_eq_true_iff.mp h with h | h
      · exact .inl (eq_scal hx hy h)
      · obtain ⟨h1, h2⟩ := Bool.and_eq_true_iff.mp h
        exact .inr ⟨(hx.rq sm).dp, (hy.rq sm).dp, h1, h2, rfl⟩
    · cases he
  have ins : ∀ {b : Bool}, inD d e = some b → (∃ i j, x = .str i ∧ y = .str j ∧ (!(Builtin.Str.occurrences j i 0 j.length 1).isEmpty) = b) ∨
      (∃ ds, e = .list ds ∧ Dp X.K H x d ∧ Dp X.K H y (.list ds) ∧ SeqAt.shaped d = true ∧ SeqAt.shaped (.list ds) = true ∧ (ds.any fun z => PyData.eqv z d) = b) ∨
      ∃ p xs, y = .ref p ∧ SqT X.K H p xs ∧ flatV x = true ∧ xs.all flatV = true ∧ inV x xs = b := fun {b} he => by
    cases e with
    | list ds =>
      simp only [inD] at he
      split at he
      · next h =>
        cases he
        obtain ⟨h1, h2⟩ := Bool.and_eq_true_iff.mp h
        exact .inr (.inl ⟨ds, rfl, (hx.rq sm).dp, (hy.rq sm).dp, h1, h2, rfl⟩)
      · cases he
    | tuple ds =>
      simp only [inD] at he
      split at he
      · next h =>
        cases he
        obtain ⟨h1, h2⟩ := Bool.and_eq_true_iff.mp h
        obtain ⟨a, vs, rfl, r, kk⟩ := hy.tup sm
        obtain ⟨f1, f2⟩ := any_flat hx h1 kk h2
        exact .inr (.inr ⟨a, vs, rfl, SqT.rd r, flat_v hx h1, f1, f2⟩)
      · cases he
    | str j =>
      cases d with
      | str i =>
        cases he
        exact .inl ⟨i, j, hx.str, hy.str, rfl⟩
      | _ => simp [inD] at he
    | _ => simp [inD] at he
  cases op with
  | Eq =>
    rcases eqs hb with ⟨h1, rfl⟩ | ⟨h1, h2, h3, h4, rfl⟩
    · exact op_eq pins s σ H x y v u Q I rx ry ⟨h1, q⟩
    · exact op_eqD (by omega) pins s σ H x y v u Q I rx ry ⟨d, e, h1, h2, h3, h4, q⟩
  | NotEq =>
    simp only [cmpD] at hb
    cases he : eqD d e with
    | none => rw [he] at hb; cases hb
    | some b =>
      rw [he] at hb
      cases hb
      rcases eqs he with ⟨h1, rfl⟩ | ⟨h1, h2, h3, h4, rfl⟩
      · exact op_ne pins s σ H x y v u Q I rx ry ⟨h1, q⟩
      · exact op_neD (by omega) pins s σ H x y v u Q I rx ry ⟨d, e, h1, h2, h3, h4, q⟩
  | In =>
    rcases ins hb with ⟨i, j, rfl, rfl, rfl⟩ | ⟨ds, rfl, h1, h2, h3, h4, rfl⟩ | ⟨p, xs, rfl, h1, h2, h3, rfl⟩
    · exact op_in_str pins s σ H _ _ v u Q I rx ry ⟨i, j, rfl, rfl, q⟩
    · exact op_inD hu pins s σ H _ _ v u Q I rx ry ⟨d, ds, h1, h2, h3, h4, q⟩
    · exact op_in_seq pins s σ H _ _ v u Q I rx ry ⟨p, xs, rfl, .inr h1, h2, h3, q⟩
  | NotIn =>
    simp only [cmpD] at hb
    cases he : inD d e with
    | none => rw [he] at hb; cases hb
    | some b =>
      rw [he] at hb
      cases hb
      rcases ins he with ⟨i, j, rfl, rfl, rfl⟩ | ⟨ds, rfl, h1, h2, h3, h4, rfl⟩ | ⟨p, xs, rfl, h1, h2, h3, rfl⟩
      · exact op_notIn_str pins s σ H _ _ v u Q I rx ry ⟨i, j, rfl, rfl, q⟩
      · exact op_notInD hu pins s σ H _ _ v u Q I rx ry ⟨d, ds, h1, h2, h3, h4, q⟩
      · exact op_notIn_seq pins s σ H _ _ v u Q I rx ry ⟨p, xs, rfl, .inr h1, h2, h3, q⟩
  | Is =>
    cases e with
    | none =>
      cases d <;> cases hb
      all_goals exact op_isN pins s σ H x y v u Q I rx ry ⟨hy.non, by rw [hx.isNon sm]; exact q⟩
    | bool b =>
      cases d <;> cases hb
      exact op_isBl pins s σ H x y v u Q I rx ry ⟨_, _, hx.bl, hy.bl, q⟩
    | _ => cases d <;> simp [cmpD] at hb
  | IsNot =>
    cases e with
    | none =>
      cases d <;> cases hb
      all_goals exact op_notN pins s σ H x y v u Q I rx ry ⟨hy.non, by rw [hx.isNon sm]; exact q⟩
    | bool b =>
      cases d <;> cases hb
      exact op_notBl pins s σ H x y v u Q I rx ry ⟨_, _, hx.bl, hy.bl, q⟩
    | _ => cases d <;> simp [cmpD] at hb
  | Lt =>
    cases d <;> cases e <;> simp only [cmpD] at hb <;> try contradiction
    · cases hb; exact op_lt pins s σ H x y v u Q I rx ry ⟨_, _, hx.int, hy.int, q⟩
    · cases hb; exact op_lt_str pins s σ H x y v u Q I rx ry ⟨_, _, hx.str, hy.str, q⟩
  | LtE =>
    cases d <;> cases e <;> simp only [cmpD] at hb <;> try contradiction
    cases hb; exact op_le pins s σ H x y v u Q I rx ry ⟨_, _, hx.int, hy.int, q⟩
  | Gt =>
    cases d <;> cases e <;> simp only [cmpD] at hb <;> try contradiction
    cases hb; exact op_gt pins s σ H x y v u Q I rx ry ⟨_, _, hx.int, hy.int, q⟩
  | GtE =>
    cases d <;> cases e <;> simp only [cmpD] at hb <;> try contradiction
    cases hb; exact op_ge pins s σ H x y v u Q I rx ry ⟨_, _, hx.int, hy.int, q⟩
end
end L2.Eng

namespace L2.Eng
open PySem PySem.Spec PyProof.Rows

def VwAll (G H : Hp) : List V → List D → Prop := Paired (Vw G H)
theorem VwAll.one {G H : Hp} {xs : List V} {d : D} (h : VwAll G H xs [d]) : ∃ x, xs = [x] ∧ Vw G H x d := by
  cases h with
  | cons a b => cases b; exact ⟨_, rfl, a⟩
theorem VwAll.two {G H : Hp} {xs : List V} {d e : D} (h : VwAll G H xs [d, e]) : ∃ x y, xs = [x, y] ∧ Vw G H x d ∧ Vw G H y e := by
  cases h with
  | cons a b => cases b with
    | cons b c => cases c; exact ⟨_, _, rfl, a, b⟩
theorem RqAll.atI' {G : Hp} {vs : List V} {ds : List D} (h : RqAll G vs ds) {i : Int} {d : D} (e : atI ds i = some d) : ∃ v, atI vs i = some v ∧ Rq G v d := by
  unfold atI at e ⊢
  rw [h.length]
  cases q : ixN ds.length i with
  | none => rw [q] at e; cases e
  | some j =>
    rw [q] at e
    exact h.get e
section
variable {X : Cx}
theorem CallR.of {f : Value} {r r' : List V → Hp → VK → Prop} (h : CallR X f r) (i : ∀ xs H Q, r' xs H Q → r xs H Q) : CallR X f r' := fun pins s σ H xs us Q I rv q => h pins s σ H xs us Q I rv (i _ _ _ q)

/-! ### subscripts -/
def rIdx : R2 := fun x y H Q => ∃ G d e f, Same G H ∧ Vw G H x d ∧ Vw G H y e ∧ idxD d e = some f ∧ ∀ v, Rq G v f → Q v H
theorem ix_data : IxR X rIdx := by
  intro va sl pins s σ H x y v u Q I rx ry ⟨G, d, e, f, sm, hx, hy, he, q⟩ hs
  cases d with
  | list ds =>
    cases e with
    | int i =>
      obtain ⟨a, vs, rfl, r, k⟩ := hx.lst sm
      obtain ⟨w, e1, e2⟩ := k.atI' he
      exact ix_list va sl pins s σ H _ _ v u Q I rx ry ⟨a, vs, i, w, rfl, hy.int, SqL.rd r, e1, q w e2⟩ hs
    | _ => simp [idxD] at he
  | tuple ds =>
    cases e with
    | int i =>
      obtain ⟨a, vs, rfl, r, k⟩ := hx.tup sm
      obtain ⟨w, e1, e2⟩ := k.atI' he
      exact ix_tup va sl pins s σ H _ _ v u Q I rx ry ⟨a, vs, i, w, rfl, hy.int, SqT.rd r, e1, q w e2⟩ hs
    | _ => simp [idxD] at he
  | str z =>
    cases e with
    | int i =>
      simp only [idxD] at he
      split at he
      · next hz =>
        cases hc : atI z.cps.toList i with
        | none => rw [hc] at he; cases he
        | some c =>
          rw [hc] at he
          cases he
          exact ix_str va sl pins s σ H _ _ v u Q I rx ry ⟨z, i, c, hx.str, hy.int, hz, hc, q _ (.str _)⟩ hs
      · cases he
    | _ => simp [idxD] at he
  | _ => cases e <;> simp [idxD] at he
theorem cut_rq {G : Hp} {vs : List V} {ds : List D} (h : RqAll G vs ds) (lo hi : Option Int) : RqAll G (cutV vs lo hi) (cutD ds lo hi) := by
  unfold cutV cutD
  rw [h.length]
  exact (h.drop _).take _
def rSlc : V → Option Int → Option Int → Hp → VK → Prop := fun x lo hi H Q => ∃ G d t, Same G H ∧ Vw G H x d ∧ slcD d lo hi = some t ∧ ∀ v H', NewT G H v t H' → Q v H'
theorem sl_data : SlR X rSlc := by
  intro pins s σ H x v vl vu lo hi sl Q I rx hs pl pu ⟨G, d, t, sm, hx, he, q⟩
  cases d with
  | list ds =>
    cases he
    obtain ⟨a, vs, rfl, r, k⟩ := hx.lst sm
    exact sl_list pins s σ H _ v vl vu lo hi sl Q I rx hs pl pu ⟨a, vs, rfl, SqL.rd r, fun p hp => q _ _ (.ol hp (cut_rq k lo hi))⟩
  | str z =>
    simp only [slcD] at he
    split at he
    · next hz =>
      cases he
      exact sl_str pins s σ H _ v vl vu lo hi sl Q I rx hs pl pu ⟨z, hx.str, hz, q _ _ (.fz (.str _))⟩
    · cases he
  | _ => simp [slcD] at he

/-! ### sorted -/
theorem eachVals {G H : Hp} : ∀ {vs : List V} {us : List Value} {ds : List D}, Vals vs us → RqAll G vs ds → PySem.W.EachIs (fun u (p : V × D) => RelV p.1 u ∧ Rq G p.1 p.2) us (vs.zip ds)
  | _, _, _, .nil, .nil => .nil
  | _, _, _, .cons r t, .cons a b => .cons ⟨r, a⟩ (eachVals (H := H) t b)
theorem eachOut {G : Hp} : ∀ {us : List Value} {ps : List (V × D)}, PySem.W.EachIs (fun u (p : V × D) => RelV p.1 u ∧ Rq G p.1 p.2) us ps → Vals (ps.map Prod.fst) us ∧ RqAll G (ps.map Prod.fst) (ps.map Prod.snd)
  | _, _, .nil => ⟨.nil, .nil⟩
  | _, _, .cons h t => ⟨.cons h.1 (eachOut t).1, .cons h.2 (eachOut t).2⟩
theorem zip_snd {vs : List V} {ds : List D} (h : vs.length = ds.length) : (vs.zip ds).map Prod.snd = ds := List.map_snd_zip (by omega)
theorem call_sortedD (hu : X.A.units + 68 < cLine) : CallR X (.builtin "sorted") (fun xs H Q => ∃ G ds es, Same G H ∧ VwAll G H xs [.list ds] ∧ sortD ds = some es ∧ ∀ p vs, H p = none → RqAll G vs es → Q (.ref p) (upd H p (.lst vs))) := by
  intro pins s σ H xs us Q I rv ⟨G, ds, es, sm, ha, he, q⟩
  obtain ⟨x, rfl, hx⟩ := ha.one
  obtain ⟨a, vs, rfl, r, k⟩ := hx.lst sm
  unfold sortD at he
  split at he
  · next hc =>
    cases he
    obtain ⟨c1, c2, c3, c4⟩ := hc
    obtain ⟨its, rvs, hl, hz⟩ := I.list (SqL.rd (K := X.K) r)
    rw [Vals.ref1 rv]
    have hsnd := zip_snd k.length
    have e := eachVals (H := H) rvs k
    have hal : PySem.W.AllAlike ((vs.zip ds).map Prod.snd) := by
      rw [hsnd]
      intro d hd d' hd'
      exact List.all_eq_true.mp (List.all_eq_true.mp c2 d hd) d' hd'
    have hk : PySem.W.Sortable ((vs.zip ds).map Prod.snd) := by
      rw [hsnd]
      rcases c4 with c4 | c4
      · refine .inl fun d hd => ?_
        have z := List.all_eq_true.mp c4 d hd
        match d, z with
        | .tuple (x :: r), _ => exact ⟨x, r, rfl⟩
      · refine .inr fun d hd => ?_
        have z := List.all_eq_true.mp c4 d hd
        cases d <;> first | exact Bool.noConfusion z | (refine ⟨?_, ?_⟩ <;> simp)
    refine PySem.W.sorted_data (enc := Prod.snd) (bs := vs.zip ds) (R := fun u (p : V × D) => RelV p.1 u ∧ Rq G p.1 p.2) hl.isList e ?_ hal hk (by rw [List.length_zip]; omega) (fun b hb => ?_) fun out ho eo => ?_
    · exact e.mono fun u p h => (h.2.mono sm).dp.reads I _ _ _ h.1
    · have hd : b.2 ∈ ds := by rw [← hsnd]; exact List.mem_map_of_mem hb
      have z := of_decide_eq_true (List.all_eq_true.mp c3 b.2 hd)
      have : b.2.depth ≤ 64 := z
      omega
    · obtain ⟨o1, o2⟩ := eachOut eo
      have es : ((vs.zip ds).mergeSort (PySem.W.dataLe false Prod.snd)).map Prod.snd = ds.mergeSort (PySem.W.dataLe false id) := by
        have q1 := PySem.W.sort_maps (r := PySem.W.dataLe false (Prod.snd : V × D → D)) (s := PySem.W.dataLe false (id : D → D)) Prod.snd (l := vs.zip ds) (fun _ _ _ _ => rfl)
        rw [hsnd] at q1
        exact q1
      rw [es] at o2
      obtain ⟨ep, he'⟩ := PyProof.Rows.sortedAll_at s.heap its out.toArray
      refine ⟨.ref _, upd H (s.heap.objs.size + 1) (.lst (((vs.zip ds).mergeSort (PySem.W.dataLe false Prod.snd)).map Prod.fst)), I.laid (t' := s.toks) (fun _ _ h => PyProof.Rows.sortedAll_old h) (Nat.le_succ _) ⟨?_, out, ep, o1, he'⟩, rfl, q _ _ (I.hok.fresh (Nat.le_succ _)) o2⟩
      rw [o1.length, ho, List.length_zip]
      omega
  · cases he
/-! ### built-ins -/
theorem ints_v {G H : Hp} : ∀ {ds : List D} {vs : List V} {ns : List Int}, RqAll G vs ds → intsD ds = some ns → vs = ns.map V.int
  | [], _, ns, .nil, e => by cases e; rfl
  | .int i :: r, _, ns, .cons a b, e => by
    simp only [intsD] at e
    cases q : intsD r with
    | none => rw [q] at e; cases e
    | some m =>
      rw [q] at e
      cases e
      rw [List.map_cons, a.vInt, ints_v (H := H) b q]
  | .none :: r, _, ns, .cons a b, e => by simp [intsD] at e
  | .bool _ :: r, _, ns, .cons a b, e => by simp [intsD] at e
  | .str _ :: r, _, ns, .cons a b, e => by simp [intsD] at e
  | .list _ :: r, _, ns, .cons a b, e => by simp [intsD] at e
  | .tuple _ :: r, _, ns, .cons a b, e => by simp [intsD] at e
  | .dict _ :: r, _, ns, .cons a b, e => by simp [intsD] at e
theorem maxI_is : ∀ {r : List Int} {n m : Int}, m ∈ n :: r → (∀ k ∈ n :: r, k ≤ m) → maxI n r = m
  | [], n, m, h, _ => by simp at h; exact h.symm
  | k :: r, n, m, h, a => by
    unfold maxI
    have hn := a n (by simp)
    have hk := a k (by simp)
    refine maxI_is ?_ fun j hj => ?_
    · rcases List.mem_cons.mp h with rfl | h
      · rw [if_neg (by omega)]; simp
      · rcases List.mem_cons.mp h with rfl | h
        · by_cases q : n < m
          · rw [if_pos q]; simp
          · rw [if_neg q]; have : n = m := by omega
            simp [this]
        · exact List.mem_cons_of_mem _ h
    · rcases List.mem_cons.mp hj with rfl | hj
      · split <;> assumption
      · exact a j (by simp [hj])
theorem minI_is : ∀ {r : List Int} {n m : Int}, m ∈ n :: r → (∀ k ∈ n :: r, m ≤ k) → minI n r = m
  | [], n, m, h, _ => by simp at h; exact h.symm
  | k :: r, n, m, h, a => by
    unfold minI
    have hn := a n (by simp)
    have hk := a k (by simp)
    refine minI_is ?_ fun j hj => ?_
    · rcases List.mem_cons.mp h with rfl | h
      · rw [if_neg (by omega)]; simp
      · rcases List.mem_cons.mp h with rfl | h
        · by_cases q : m < n
          · rw [if_pos q]; simp
          · rw [if_neg q]; have : n = m := by omega
            simp [this]
        · exact List.mem_cons_of_mem _ h
    · rcases List.mem_cons.mp hj with rfl | hj
      · split <;> assumption
      · exact a j (by simp [hj])
def Bi.val : Bi → Value
  | .len => .builtin "len" | .abs => .builtin "abs" | .int => .type "int" | .str => .type "str" | .sum => .builtin "sum" | .list => .type "list" | .sorted => .builtin "sorted"
  | .max2 => .builtin "max" | .min2 => .builtin "min" | .maxL => .builtin "max" | .minL => .builtin "min"
def rBi (b : Bi) : List V → Hp → VK → Prop := fun xs H Q => ∃ G ds t, Same G H ∧ VwAll G H xs ds ∧ biD b ds = some t ∧ ∀ v H', NewT G H v t H' → Q v H'
theorem call_bi (hc : X.calm = true) (hu : X.A.units + 68 < cLine) (b : Bi) : CallR X b.val (rBi b) := by
  intro pins s σ H xs us Q I rv ⟨G, ds, t, sm, ha, he, q⟩
  have fzI : ∀ {i : Int}, t = .fz (.int i) → Q (.int i) H := fun {i} e => q _ _ (by subst e; exact .fz (.int i))
  cases b with
  | len =>
    match ds, he with
    | [.list es], he =>
      obtain ⟨x, rfl, hx⟩ := ha.one
      obtain ⟨a, vs, rfl, r, k⟩ := hx.lst sm
      cases he
      exact call_len pins s σ H _ us Q I rv ⟨_, vs.length, rfl, .inl ⟨vs, SqL.rd r, rfl⟩, by rw [k.length]; exact fzI rfl⟩
    | [.tuple es], he =>
      obtain ⟨x, rfl, hx⟩ := ha.one
      obtain ⟨a, vs, rfl, r, k⟩ := hx.tup sm
      cases he
      exact call_len pins s σ H _ us Q I rv ⟨_, vs.length, rfl, .inr ⟨vs, SqT.rd r, rfl⟩, by rw [k.length]; exact fzI rfl⟩
    | [.str z], he =>
      obtain ⟨x, rfl, hx⟩ := ha.one
      simp only [biD] at he
      split at he
      · next hz =>
        cases he
        exact call_len pins s σ H _ us Q I rv ⟨_, z.length, rfl, by rw [hx.str]; exact ⟨hz, rfl⟩, fzI rfl⟩
      · cases he
  | abs =>
    match ds, he with
    | [.int i], he =>
      obtain ⟨x, rfl, hx⟩ := ha.one
      cases he
      exact call_abs pins s σ H _ us Q I rv ⟨i, by rw [hx.int], fzI rfl⟩
  | int =>
    match ds, he with
    | [.int i], he =>
      obtain ⟨x, rfl, hx⟩ := ha.one
      cases he
      exact call_int1 pins s σ H _ us Q I rv (.inl ⟨i, by rw [hx.int], fzI rfl⟩)
  | str =>
    match ds, he with
    | [.int i], he =>
      obtain ⟨x, rfl, hx⟩ := ha.one
      simp only [biD] at he
      split at he
      · next hz =>
        cases he
        exact call_str_int pins s σ H _ us Q I rv ⟨i, by rw [hx.int], hz, q _ _ (.fz (.str _))⟩
      · cases he
  | sum =>
    match ds, he with
    | [.list es], he =>
      obtain ⟨x, rfl, hx⟩ := ha.one
      obtain ⟨a, vs, rfl, r, k⟩ := hx.lst sm
      simp only [biD] at he
      cases hn : intsD es with
      | none => rw [hn] at he; cases he
      | some ns =>
        rw [hn] at he
        cases he
        exact cr_sum hc pins s σ H _ us Q I rv ⟨a, ns, rfl, by rw [← ints_v (H := H) k hn]; exact SqL.rd r, fzI rfl⟩
  | list =>
    match ds, he with
    | [.list es], he =>
      obtain ⟨x, rfl, hx⟩ := ha.one
      obtain ⟨a, vs, rfl, r, k⟩ := hx.lst sm
      cases he
      exact call_list_of pins s σ H _ us Q I rv ⟨a, vs, rfl, .inl (SqL.rd r), fun l hl => q _ _ (.ol hl k)⟩
    | [.tuple es], he =>
      obtain ⟨x, rfl, hx⟩ := ha.one
      obtain ⟨a, vs, rfl, r, k⟩ := hx.tup sm
      cases he
      exact call_list_of pins s σ H _ us Q I rv ⟨a, vs, rfl, .inr (SqT.rd r), fun l hl => q _ _ (.ol hl k)⟩
  | sorted =>
    match ds, he with
    | [.list es], he =>
      simp only [biD] at he
      cases hn : sortD es with
      | none => rw [hn] at he; cases he
      | some fs =>
        rw [hn] at he
        cases he
        exact call_sortedD hu pins s σ H _ us Q I rv ⟨G, es, fs, sm, ha, hn, fun p vs hp k => q _ _ (.ol hp k)⟩
  | max2 =>
    match ds, he with
    | [.int i, .int j], he =>
      obtain ⟨x, y, rfl, hx, hy⟩ := ha.two
      cases he
      exact call_max2 hc pins s σ H _ us Q I rv ⟨i, j, by rw [hx.int, hy.int], fzI rfl⟩
  | min2 =>
    match ds, he with
    | [.int i, .int j], he =>
      obtain ⟨x, y, rfl, hx, hy⟩ := ha.two
      cases he
      exact call_min2 hc pins s σ H _ us Q I rv ⟨i, j, by rw [hx.int, hy.int], fzI rfl⟩
  | maxL =>
    match ds, he with
    | [.list es], he =>
      obtain ⟨x, rfl, hx⟩ := ha.one
      obtain ⟨a, vs, rfl, r, k⟩ := hx.lst sm
      simp only [biD] at he
      cases hn : intsD es with
      | none => rw [hn] at he; cases he
      | some ns =>
        rw [hn] at he
        cases ns with
        | nil => cases he
        | cons n ns =>
          cases he
          refine cr_max hc pins s σ H _ us Q I rv ⟨a, n :: ns, rfl, by rw [← ints_v (H := H) k hn]; exact SqL.rd r, by simp, fun m h1 h2 => ?_⟩
          rw [← maxI_is h1 h2]
          exact fzI rfl
  | minL =>
    match ds, he with
    | [.list es], he =>
      obtain ⟨x, rfl, hx⟩ := ha.one
      obtain ⟨a, vs, rfl, r, k⟩ := hx.lst sm
      simp only [biD] at he
      cases hn : intsD es with
      | none => rw [hn] at he; cases he
      | some ns =>
        rw [hn] at he
        cases ns with
        | nil => cases he
        | cons n ns =>
          cases he
          refine cr_min hc pins s σ H _ us Q I rv ⟨a, n :: ns, rfl, by rw [← ints_v (H := H) k hn]; exact SqL.rd r, by simp, fun m h1 h2 => ?_⟩
          rw [← minI_is h1 h2]
          exact fzI rfl
end
end L2.Eng

namespace L2.Eng
open PySem PySem.Spec PyProof.Rows

/-! ### isinstance -/
def tyD : D → String
  | .none => "NoneType" | .bool _ => "bool" | .int _ => "int" | .str _ => "str" | .list _ => "list" | .tuple _ => "tuple" | .dict _ => "dict"
def Kd.nm : Kd → String
  | .int => "int" | .bool => "bool" | .str => "str" | .list => "list" | .tuple => "tuple"
theorem kitB_at (k : Kd) (d : D) : kitB (tyD d) k.nm = some (isKd k d) ∨ ∃ kvs, d = .dict kvs := by
  have all : ∀ k : Kd, kitB "NoneType" k.nm = some false ∧ kitB "bool" k.nm = some (decide (k = .int ∨ k = .bool)) ∧ kitB "int" k.nm = some (decide (k = .int)) ∧ kitB "str" k.nm = some (decide (k = .str)) ∧ kitB "list" k.nm = some (decide (k = .list)) ∧ kitB "tuple" k.nm = some (decide (k = .tuple)) := by
    intro k
    cases k <;> decide +kernel
  obtain ⟨a1, a2, a3, a4, a5, a6⟩ := all k
  cases d with
  | none => left; rw [show tyD .none = "NoneType" from rfl, a1]; cases k <;> rfl
  | bool b => left; rw [show tyD (.bool b) = "bool" from rfl, a2]; cases k <;> rfl
  | int b => left; rw [show tyD (.int b) = "int" from rfl, a3]; cases k <;> rfl
  | str b => left; rw [show tyD (.str b) = "str" from rfl, a4]; cases k <;> rfl
  | list b => left; rw [show tyD (.list b) = "list" from rfl, a5]; cases k <;> rfl
  | tuple b => left; rw [show tyD (.tuple b) = "tuple" from rfl, a6]; cases k <;> rfl
  | dict b => exact .inr ⟨b, rfl⟩
theorem Vw.ty {K : PySem.W.Frag} {G H : Hp} {v : V} {d : D} (s : Same G H) (h : Vw G H v d) : TyX K H v (.type (tyD d)) := by
  cases d with
  | none => rw [h.non]; exact .base .non
  | bool b => rw [h.bl]; exact .base (.bl b)
  | int i => rw [h.int]; exact .base (.int i)
  | str x => rw [h.str]; exact .base (.str x)
  | list ds =>
    obtain ⟨a, vs, rfl, r, k⟩ := h.lst s
    rcases r with r | ⟨o, r⟩
    · exact .base (.lst r)
    · exact .base (.frz r)
  | tuple ds =>
    obtain ⟨a, vs, rfl, r, k⟩ := h.tup s
    rcases r with r | ⟨o, r⟩
    · exact .base (.tup r)
    · exact .fTuple r
  | dict _ => exact h.dict.elim
theorem Vw.kit {K : PySem.W.Frag} {G H : Hp} {v : V} {d : D} (k : Kd) (h : Vw G H v d) : PySem.W.kitOne K (.type (tyD d)) (.type k.nm) = some (isKd k d) := by
  rcases kitB_at k d with e | ⟨kvs, rfl⟩
  · exact kit_ty e
  · exact h.dict.elim
theorem Vw.kits {K : PySem.W.Frag} {G H : Hp} {v : V} {d : D} (h : Vw G H v d) : ∀ ks : List Kd, PySem.W.kitAny K (.type (tyD d)) (ks.map fun k => .type k.nm) = some (ks.any fun k => isKd k d)
  | [] => rfl
  | k :: ks => by
    rw [List.any_cons]
    refine kitAny_cons (h.kit k) (fun e => ?_) (fun e => ?_)
    · rw [e, Vw.kits h ks]; rfl
    · rw [e]; rfl
/-! ### methods -/
section
variable {X : Cx}
theorem mt_idx (hu : X.A.units + 68 < cLine) : MtR X "list.index" (fun x xs H Q => ∃ G ds d j, Same G H ∧ Vw G H x (.list ds) ∧ VwAll G H xs [d] ∧ SeqAt.shaped d = true ∧ SeqAt.shaped (.list ds) = true ∧ idxOfD d ds = some j ∧ Q (.int (j : Nat)) H) := by
  intro pins s σ H x xs v us Q I rx rxs ⟨G, ds, d, j, sm, hx, ha, h1, h2, hj, q⟩
  obtain ⟨y, rfl, hy⟩ := ha.one
  obtain ⟨a, vs, rfl, r, k⟩ := hx.lst sm
  unfold idxOfD at hj
  obtain ⟨hlt, hz, hno⟩ := List.findIdx?_eq_some_iff_getElem.mp hj
  refine mt_indexD (by omega) pins s σ H _ _ v us Q I rx rxs ⟨a, y, d, ds, j, ds[j], rfl, rfl, (hx.rq sm).dp, (hy.rq sm).dp, h2, h1, List.getElem?_eq_getElem hlt, hz, fun m z hm hz' => ?_, q⟩
  have hml : m < ds.length := by omega
  rw [List.getElem?_eq_getElem hml] at hz'
  cases hz'
  have := hno m hm
  simpa using this
def Me.sid : Me → String
  | .index => "str.index" | .count => "str.count" | .join => "str.join" | .split => "str.split"
theorem strs_rq {G : Hp} : ∀ {vs : List V} {ds : List D} {ys : List Str}, RqAll G vs ds → strsD ds = some ys → vs = ys.map V.str
  | [], [], ys, _, e => by cases e; rfl
  | v :: vs, d :: ds, ys, .cons r rs, e => by
    cases d <;> simp only [strsD] at e <;> try contradiction
    rename_i x
    cases h : strsD ds with
    | none => rw [h] at e; cases e
    | some zs =>
      rw [h] at e
      cases e
      rw [r.vStr, strs_rq rs h]
      rfl
/-- a method of a text -/
theorem mt_str (m : Me) : MtR X m.sid (fun x xs H Q => ∃ G a ds e, Same G H ∧ x = .str a ∧ VwAll G H xs ds ∧ m ≠ .split ∧ meD m (.str a) ds = some (.fz e) ∧ ∀ v, scV e = some v → Q v H) := by
  intro pins s σ H x xs v us Q I rx rxs ⟨G, a, ds, e, sm, hx, ha, hm, hd, q⟩
  subst hx
  cases m with
  | split => exact absurd rfl hm
  | index =>
    match ds, hd with
    | [.str b], hd =>
      obtain ⟨y, rfl, hy⟩ := ha.one
      cases hy.str
      simp only [meD] at hd
      split at hd
      · rename_i i rest ho
        cases hd
        exact mt_sindex pins s σ H _ _ v us Q I rx rxs ⟨a, b, i, rest, rfl, rfl, ho, q _ rfl⟩
      · cases hd
  | count =>
    match ds, hd with
    | [.str b], hd =>
      obtain ⟨y, rfl, hy⟩ := ha.one
      cases hy.str
      simp only [meD] at hd
      cases hd
      exact mt_count pins s σ H _ _ v us Q I rx rxs ⟨a, b, rfl, rfl, q _ rfl⟩
  | join =>
    match ds, hd with
    | [.list es], hd =>
      obtain ⟨y, rfl, hy⟩ := ha.one
      obtain ⟨p, vs, rfl, r, k⟩ := hy.lst sm
      simp only [meD] at hd
      cases hs : strsD es with
      | none => rw [hs] at hd; cases hd
      | some ys =>
        rw [hs] at hd
        simp only [Option.bind_some] at hd
        split at hd
        · next hz =>
          cases hd
          have ev := strs_rq k hs
          subst ev
          exact mt_join pins s σ H _ _ v us Q I rx rxs ⟨a, p, ys, rfl, rfl, .inl (SqL.rd r), hz, q _ rfl⟩
        · cases hd
def Mu.id : Mu → String
  | .append => "list.append" | .extend => "list.extend" | .pop => "list.pop" | .popAt => "list.pop" | .insert => "list.insert"
theorem RqAll.dropLast {G : Hp} {vs : List V} {ds : List D} (h : RqAll G vs ds) : RqAll G vs.dropLast ds.dropLast := by
  rw [List.dropLast_eq_take, List.dropLast_eq_take, h.length]
  exact h.take _
/-- extend by a list that can be read -/
theorem mt_extR : MtM X "list.extend" (fun x ws H Q => ∃ p b xs zs, x = .ref p ∧ ws = [.ref b] ∧ H p = some (.lst xs) ∧ Rd H b (.lst zs) ∧ xs.length + zs.length ≤ sizeLine ∧ Q .non (upd H p (.lst (xs ++ zs)))) := by
  intro pins s σ H x ws v us Q I rx rv ⟨p, b, xs, zs, ex, ew, hp, hb, hz, q⟩
  subst ex ew
  cases rx
  obtain ⟨w, ew, rw1⟩ := rv.one
  subst ew
  cases rw1
  obtain ⟨_, i1, n1, r1, l1, e1⟩ := Inv.lstR I (Rd.of hp)
  obtain ⟨_, i2, n2, r2, l2, e2⟩ := Inv.lstR I hb
  have small : i1.toArray.size + i2.toArray.size ≤ sizeLine := by simp only [List.size_toArray]; omega
  have notLong : ¬ (!i1.toArray.isEmpty && Builtin.List.listTooLong (i1.toArray.size + i2.toArray.size)) = true := by rw [notLongL small, Bool.and_false]; decide
  have meets := AutoSeq1.list_extend_list_list_0 p i1.toArray n1 b i2.toArray n2 notLong (by simp only [List.size_toArray]; omega) (by omega)
  refine call_meets F.slot_list_extend ⟨_, e1, rfl⟩ F.entry_list_extend (F.args_list_extend_2 _ _) meets ⟨e1, e2, .non, _, ?_, rfl, q⟩
  exact I.lset (its' := i1 ++ i2) hp e1 (by simp) (r1.append r2) (by rw [List.length_append]; omega)
/-- a method that changes the list at a -/
def rMu (m : Mu) : V → List V → Hp → VK → Prop := fun x xs H Q => ∃ G ds es a vs ys d, Same G H ∧ x = .ref a ∧ H a = some (.lst vs) ∧ RqAll G vs ds ∧ RqAll G xs es ∧ muD m ds es = some (ys, d) ∧
  ∀ v ws, RqAll G ws ys → Rq G v d → Q v (upd H a (.lst ws))
theorem rq_one {G : Hp} {xs : List V} {d : D} (h : RqAll G xs [d]) : ∃ x, xs = [x] ∧ Rq G x d := by
  cases h with
  | cons a b => cases b; exact ⟨_, rfl, a⟩
theorem mt_mu (m : Mu) : MtR X m.id (rMu m) := by
  intro pins s σ H x xs v us Q I rx rxs ⟨G, ds, es, a, vs, ys, d, sm, hx, ha, k, ke, hm, q⟩
  subst hx
  cases m with
  | append =>
    match es, hm with
    | [e], hm =>
      obtain ⟨y, rfl, hy⟩ := rq_one ke
      simp only [muD] at hm
      split at hm
      · next hl =>
        cases hm
        exact mt_append pins s σ H _ _ v us Q I rx rxs ⟨a, vs, y, rfl, rfl, ha, by rw [k.length]; exact hl, q _ _ (k.append (.cons hy .nil)) .non⟩
      · cases hm
  | extend =>
    match es, hm with
    | [.list e], hm =>
      obtain ⟨y, rfl, hy⟩ := rq_one ke
      obtain ⟨b, ws, rfl, r, kb⟩ := hy.lst'
      simp only [muD] at hm
      split at hm
      · next hl =>
        cases hm
        exact mt_extR pins s σ H _ _ v us Q I rx rxs ⟨a, b, vs, ws, rfl, rfl, ha, Rd.mono sm r, by rw [k.length, kb.length]; exact hl, q _ _ (k.append kb) .non⟩
      · cases hm
  | pop =>
    match es, hm with
    | [], hm =>
      cases ke
      simp only [muD] at hm
      cases hd : ds[ds.length - 1]? with
      | none => rw [hd] at hm; cases hm
      | some z =>
        rw [hd] at hm
        cases hm
        obtain ⟨w, e1, e2⟩ := k.get hd
        exact mt_pop pins s σ H _ _ v us Q I rx rxs ⟨a, vs, w, rfl, rfl, ha, by rw [k.length]; exact e1, q _ _ k.dropLast e2⟩
  | popAt =>
    match es, hm with
    | [.int i], hm =>
      obtain ⟨y, rfl, hy⟩ := rq_one ke
      cases hy.vInt
      simp only [muD] at hm
      split at hm
      · next hl =>
        cases hs : seqIndex? i ds.length with
        | none => rw [hs] at hm; cases hm
        | some j =>
          rw [hs] at hm
          simp only [Option.bind_some] at hm
          cases hd : ds[j]? with
          | none => rw [hd] at hm; cases hm
          | some z =>
            rw [hd] at hm
            cases hm
            obtain ⟨w, e1, e2⟩ := k.get hd
            exact mt_popAt pins s σ H _ _ v us Q I rx rxs ⟨a, vs, i, j, w, rfl, rfl, ha, hl.1, hl.2, by rw [k.length]; exact hs, e1, q _ _ (k.eraseIdx j) e2⟩
      · cases hm
  | insert =>
    match es, hm with
    | [.int i, z], hm =>
      cases ke with
      | cons r1 ke =>
        cases ke with
        | cons r2 ke =>
          cases ke
          cases r1.vInt
          simp only [muD] at hm
          split at hm
          · next hl =>
            cases hm
            exact mt_insert pins s σ H _ _ v us Q I rx rxs ⟨a, vs, i, _, rfl, rfl, ha, by rw [k.length]; exact hl.1, hl.2.1, hl.2.2, q _ _ (((k.take _).append (.cons r2 .nil)).append (k.drop _)) .non⟩
          · cases hm
end
end L2.Eng

/-! EngD1: readings by what the small language computes. -/
namespace L2.Eng
open PySem PySem.Spec PyProof.Rows

/-! ### results as wishes -/
def wpR {α : Type} (r : R α) (P : α → Rho → Prop) (E : Ex → Rho → Prop) : Prop := match r with
  | .ok a ρ => P a ρ
  | .exc x ρ => E x ρ
  | .no => False
theorem wpR_bind {α β : Type} {r : R α} {f : α → Rho → R β} {P : β → Rho → Prop} {E : Ex → Rho → Prop} : wpR (r.bind f) P E = wpR r (fun a ρ => wpR (f a ρ) P E) E := by
  cases r <;> rfl
theorem wpR_map {α β : Type} {r : R α} {f : α → β} {P : β → Rho → Prop} {E : Ex → Rho → Prop} : wpR (r.map f) P E = wpR r (fun a ρ => P (f a) ρ) E := by
  cases r <;> rfl
theorem wpR_of {α : Type} {o : Option α} {ρ : Rho} {P : α → Rho → Prop} {E : Ex → Rho → Prop} (h : wpR (R.of o ρ) P E) : ∃ a, o = some a ∧ P a ρ := by
  cases o with
  | none => exact h.elim
  | some a => exact ⟨a, rfl, h⟩
theorem wpR.mono {α : Type} {r : R α} {P P' : α → Rho → Prop} {E E' : Ex → Rho → Prop} (h : wpR r P E) (hP : ∀ a ρ, P a ρ → P' a ρ) (hE : ∀ x ρ, E x ρ → E' x ρ) : wpR r P' E' := by
  cases r with
  | ok a ρ => exact hP _ _ h
  | exc x ρ => exact hE _ _ h
  | no => exact h

/-! ### forgetting what is held -/
theorem HoldL.sub {G H : Hp} {L L' : List (V × T)} (s : L'.Sublist L) : ∀ {f : List Addr}, HoldL G H L f → ∃ f', HoldL G H L' f' ∧ f'.Sublist f := by
  induction s with
  | slnil => intro f h; exact ⟨f, h, .refl _⟩
  | cons a _ ih =>
    intro f h
    cases h with
    | cons h1 h2 =>
      obtain ⟨f', h3, q⟩ := ih h2
      exact ⟨f', h3, q.trans (List.sublist_append_right _ _)⟩
  | cons_cons a _ ih =>
    intro f h
    cases h with
    | cons h1 h2 =>
      obtain ⟨f', h3, q⟩ := ih h2
      exact ⟨_, .cons h1 h3, (List.Sublist.refl _).append q⟩
theorem Held.sub {G H : Hp} {L L' : List (V × T)} (h : Held G H L) (s : L'.Sublist L) : Held G H L' := by
  obtain ⟨f, h, n⟩ := h
  obtain ⟨f', h', q⟩ := h.sub s
  exact ⟨f', h', n.sublist q⟩
theorem Rel.sub {G H : Hp} {ρ : Rho} {τ τ' : List (V × T)} {σ : St} (R : Rel G ρ τ σ H) (s : τ'.Sublist τ) : Rel G ρ τ' σ H :=
  ⟨R.same, R.slots, R.held.sub ((List.Sublist.refl _).append s)⟩
theorem Rel.perm {G H : Hp} {ρ : Rho} {τ τ' : List (V × T)} {σ : St} (R : Rel G ρ τ σ H) (s : τ.Perm τ') : Rel G ρ τ' σ H :=
  ⟨R.same, R.slots, R.held.perm (List.Perm.append_left _ s)⟩
theorem Rel.first {G H : Hp} {ρ : Rho} {τ : List (V × T)} {x : V × T} {σ : St} (R : Rel G ρ (x :: τ) σ H) : Held G H [x] :=
  R.held.mid.sub (List.Sublist.cons_cons _ (List.nil_sublist _))
theorem Rel.tmp {G H : Hp} {ρ : Rho} {A τ : List (V × T)} {x : V × T} {σ : St} (R : Rel G ρ (A ++ x :: τ) σ H) : Held G H [x] :=
  (R.perm List.perm_middle).first
theorem Rel.slot {G H : Hp} {ρ : Rho} {τ : List (V × T)} {σ : St} (R : Rel G ρ τ σ H) {i : Nat} {t : T} (h : ρ[i]? = some (some t)) : ∃ v, σ[i]? = some (some v) ∧ Held G H [(v, t)] := by
  obtain ⟨v, e, R1⟩ := R.out h
  exact ⟨v, e, R1.first⟩
/-- the thing on top is frozen -/
theorem Rel.freeze {G H : Hp} {ρ : Rho} {τ : List (V × T)} {σ : St} {v : V} {t : T} {d : D} (R : Rel G ρ ((v, t) :: τ) σ H) (e : t.view = some d) : ∃ G', Same G G' ∧ Rel G' ρ ((v, .fz d) :: τ) σ H := by
  obtain ⟨G', s1, s2, h⟩ := R.held.mid.freeze R.same e
  exact ⟨G', s1, s2, R.slots, h.unmid⟩
theorem Rel.fz {G H : Hp} {ρ : Rho} {τ : List (V × T)} {σ : St} {v : V} {d : D} (R : Rel G ρ ((v, .fz d) :: τ) σ H) : Rq G v d := R.held.mid.fz
theorem Rel.addFz {G H : Hp} {ρ : Rho} {τ : List (V × T)} {σ : St} {v : V} {d : D} (R : Rel G ρ τ σ H) (r : Rq G v d) : Rel G ρ ((v, .fz d) :: τ) σ H := ⟨R.same, R.slots, (R.held.addFz r).unmid⟩

/-! ### operands -/
def Opd.push (o : Opd) (v : V) (τ : List (V × T)) : List (V × T) := match o with
  | .tmp t => (v, t) :: τ
  | .sl _ => τ
def Opd.at_ (o : Opd) (v : V) (σ : St) : Prop := match o with
  | .tmp _ => True
  | .sl i => σ[i]? = some (some v)
theorem Opd.sub (o : Opd) (v : V) (τ : List (V × T)) : τ.Sublist (o.push v τ) := by
  cases o with
  | tmp t => exact List.sublist_cons_self _ _
  | sl i => exact .refl _
theorem slotT_some {ρ : Rho} {i : Nat} {t : T} (h : slotT ρ i = some t) : ρ[i]? = some (some t) := by
  unfold slotT at h
  cases e : ρ[i]? with
  | none => rw [e] at h; cases h
  | some o => rw [e] at h; cases o with
    | none => cases h
    | some u => cases h; rfl
theorem Opd.vw {G H : Hp} {ρ : Rho} {A τ : List (V × T)} {σ : St} {o : Opd} {v : V} {d : D} (R : Rel G ρ (A ++ o.push v τ) σ H) (a : o.at_ v σ) (e : o.see ρ = some d) : Vw G H v d := by
  cases o with
  | tmp t => exact (Rel.tmp R).vw e
  | sl i =>
    simp only [Opd.see] at e
    cases q : slotT ρ i with
    | none => rw [q] at e; cases e
    | some t =>
      rw [q] at e
      obtain ⟨w, e1, h⟩ := R.slot (slotT_some q)
      rw [show σ[i]? = some (some v) from a] at e1
      cases e1
      exact h.vw e

/-! ### exceptions -/
/-- x lies as an exception of the class cls, its own dict at d -/
def ExOk (K : PySem.W.Frag) (mg : Str → Option Value) (x : Ex) (cls : Value) (d : Option Addr) (G : Hp) (H : Hp) : Prop :=
  mg x.c = some cls ∧ ((x.fs = [] ∧ d = none) ∨ ∃ a f y v, x.fs = [(f, y)] ∧ d = some a ∧ H a = some (.xd [(f, v)]) ∧ Rq G v y)
section
variable (X : Cx) (W : WX)
def ExP (G : Hp) (τ : List (V × T)) (σ : St) (x : Ex) (ρ : Rho) : Prop := ∀ cls d G' H', ExOk X.K X.mg x cls d G' H' → Same G G' → Rel G' ρ τ σ H' → W cls d σ H'
end
section
variable {X : Cx} {W : WX}
theorem ExP.mono {G G1 : Hp} {τ τ1 : List (V × T)} {σ : St} {x : Ex} {ρ : Rho} (h : ExP X W G τ σ x ρ) (s : Same G G1) (t : τ.Sublist τ1) : ExP X W G1 τ1 σ x ρ := fun cls d G' H' e s' R => h cls d G' H' e (s.trans s') (R.sub t)
end
/-! ### readings -/
section
variable (X : Cx) (W : WX)
def tO (f : Rho → R Opd) : TE := fun σ H Q => ∃ G ρ τ, Rel G ρ τ σ H ∧ wpR (f ρ) (fun o ρ' => ∀ v G' H', Same G G' → Rel G' ρ' (o.push v τ) σ H' → o.at_ v σ → Q v H') (ExP X W G τ σ)
def tT (f : Rho → R T) : TE := fun σ H Q => ∃ G ρ τ, Rel G ρ τ σ H ∧ wpR (f ρ) (fun t ρ' => ∀ v G' H', Same G G' → Rel G' ρ' ((v, t) :: τ) σ H' → Q v H') (ExP X W G τ σ)
def tD (f : Rho → R D) : TE := fun σ H Q => ∃ G ρ τ, Rel G ρ τ σ H ∧ wpR (f ρ) (fun d ρ' => ∀ v G' H', Same G G' → Rel G' ρ' τ σ H' → Rq G' v d → Q v H') (ExP X W G τ σ)
def tK (f : Rho → R Bool) : TT := fun σ H Q => ∃ G ρ τ, Rel G ρ τ σ H ∧ wpR (f ρ) (fun k ρ' => ∀ G' H', Same G G' → Rel G' ρ' τ σ H' → Q k H') (ExP X W G τ σ)
def pushes : List Opd → List V → List (V × T) → List (V × T)
  | o :: os, v :: vs, τ => pushes os vs (o.push v τ)
  | _, _, τ => τ
def ats : List Opd → List V → St → Prop
  | [], [], _ => True
  | o :: os, v :: vs, σ => o.at_ v σ ∧ ats os vs σ
  | _, _, _ => False
def tOs (f : Rho → R (List Opd)) : TA := fun σ H Q => ∃ G ρ τ, Rel G ρ τ σ H ∧ wpR (f ρ) (fun os ρ' => ∀ vs G' H', Same G G' → Rel G' ρ' (pushes os vs τ) σ H' → ats os vs σ → Q vs H') (ExP X W G τ σ)
def tDs (f : Rho → R (List D)) : TA := fun σ H Q => ∃ G ρ τ, Rel G ρ τ σ H ∧ wpR (f ρ) (fun ds ρ' => ∀ vs G' H', Same G G' → Rel G' ρ' τ σ H' → RqAll G' vs ds → Q vs H') (ExP X W G τ σ)
def tOI (f : Rho → R (Option Int)) : TO := fun σ H Q => ∃ G ρ τ, Rel G ρ τ σ H ∧ wpR (f ρ) (fun o ρ' => ∀ G' H', Same G G' → Rel G' ρ' τ σ H' → Q o H') (ExP X W G τ σ)
end
section
variable {X : Cx} {W : WX} {G H : Hp} {ρ : Rho} {τ : List (V × T)} {σ : St}
theorem _root_.L2.PE.weak {e : Expr} {t t' : TE} (h : PE X e t) (w : ∀ σ H Q, t' σ H Q → t σ H Q) : PE X e t' := ⟨fun pins s σ H Q I q => h.run pins s σ H Q I (w _ _ _ q)⟩
theorem _root_.L2.PT.weak {e : Expr} {t t' : TT} (h : PT X e t) (w : ∀ σ H Q, t' σ H Q → t σ H Q) : PT X e t' := ⟨fun pins s σ H Q I q => h.run pins s σ H Q I (w _ _ _ q)⟩
theorem _root_.L2.PW.weak {e : Expr} {t t' : TT} (h : PW X e t) (w : ∀ σ H Q, t' σ H Q → t σ H Q) : PW X e t' := ⟨fun wh pins s σ H Q I q => h.run wh pins s σ H Q I (w _ _ _ q)⟩
theorem _root_.L2.PA.weak {e : List Expr} {t t' : TA} (h : PA X e t) (w : ∀ σ H Q, t' σ H Q → t σ H Q) : PA X e t' := ⟨fun p pins s σ H Q I q => h.run p pins s σ H Q I (w _ _ _ q)⟩
theorem _root_.L2.PO.weak {e : Option Expr} {t t' : TO} (h : PO X e t) (w : ∀ σ H Q, t' σ H Q → t σ H Q) : PO X e t' := ⟨fun pins s σ H Q I q => h.run pins s σ H Q I (w _ _ _ q)⟩
theorem tO.step {f : Rho → R Opd} {P : Opd → Rho → Prop} {E : Ex → Rho → Prop} {K : VK} (R : Rel G ρ τ σ H) (h : wpR (f ρ) P E) (hE : ∀ x ρ', E x ρ' → ExP X W G τ σ x ρ')
    (k : ∀ o ρ' v G' H', P o ρ' → Same G G' → Rel G' ρ' (o.push v τ) σ H' → o.at_ v σ → K v H') : tO X W f σ H K :=
  ⟨G, ρ, τ, R, h.mono (fun o ρ' p v G' H' s1 R1 a => k o ρ' v G' H' p s1 R1 a) hE⟩
theorem tT.step {f : Rho → R T} {P : T → Rho → Prop} {E : Ex → Rho → Prop} {K : VK} (R : Rel G ρ τ σ H) (h : wpR (f ρ) P E) (hE : ∀ x ρ', E x ρ' → ExP X W G τ σ x ρ')
    (k : ∀ t ρ' v G' H', P t ρ' → Same G G' → Rel G' ρ' ((v, t) :: τ) σ H' → K v H') : tT X W f σ H K :=
  ⟨G, ρ, τ, R, h.mono (fun o ρ' p v G' H' s1 R1 => k o ρ' v G' H' p s1 R1) hE⟩
theorem tD.step {f : Rho → R D} {P : D → Rho → Prop} {E : Ex → Rho → Prop} {K : VK} (R : Rel G ρ τ σ H) (h : wpR (f ρ) P E) (hE : ∀ x ρ', E x ρ' → ExP X W G τ σ x ρ')
    (k : ∀ d ρ' v G' H', P d ρ' → Same G G' → Rel G' ρ' τ σ H' → Rq G' v d → K v H') : tD X W f σ H K :=
  ⟨G, ρ, τ, R, h.mono (fun o ρ' p v G' H' s1 R1 q => k o ρ' v G' H' p s1 R1 q) hE⟩
theorem tK.step {f : Rho → R Bool} {P : Bool → Rho → Prop} {E : Ex → Rho → Prop} {K : Bool → Hp → Prop} (R : Rel G ρ τ σ H) (h : wpR (f ρ) P E) (hE : ∀ x ρ', E x ρ' → ExP X W G τ σ x ρ')
    (k : ∀ b ρ' G' H', P b ρ' → Same G G' → Rel G' ρ' τ σ H' → K b H') : tK X W f σ H K :=
  ⟨G, ρ, τ, R, h.mono (fun o ρ' p G' H' s1 R1 => k o ρ' G' H' p s1 R1) hE⟩
theorem tOs.step {f : Rho → R (List Opd)} {P : List Opd → Rho → Prop} {E : Ex → Rho → Prop} {K : List V → Hp → Prop} (R : Rel G ρ τ σ H) (h : wpR (f ρ) P E) (hE : ∀ x ρ', E x ρ' → ExP X W G τ σ x ρ')
    (k : ∀ os ρ' vs G' H', P os ρ' → Same G G' → Rel G' ρ' (pushes os vs τ) σ H' → ats os vs σ → K vs H') : tOs X W f σ H K :=
  ⟨G, ρ, τ, R, h.mono (fun o ρ' p vs G' H' s1 R1 a => k o ρ' vs G' H' p s1 R1 a) hE⟩
theorem tDs.step {f : Rho → R (List D)} {P : List D → Rho → Prop} {E : Ex → Rho → Prop} {K : List V → Hp → Prop} (R : Rel G ρ τ σ H) (h : wpR (f ρ) P E) (hE : ∀ x ρ', E x ρ' → ExP X W G τ σ x ρ')
    (k : ∀ ds ρ' vs G' H', P ds ρ' → Same G G' → Rel G' ρ' τ σ H' → RqAll G' vs ds → K vs H') : tDs X W f σ H K :=
  ⟨G, ρ, τ, R, h.mono (fun o ρ' p vs G' H' s1 R1 a => k o ρ' vs G' H' p s1 R1 a) hE⟩
theorem tOI.step {f : Rho → R (Option Int)} {P : Option Int → Rho → Prop} {E : Ex → Rho → Prop} {K : Option Int → Hp → Prop} (R : Rel G ρ τ σ H) (h : wpR (f ρ) P E) (hE : ∀ x ρ', E x ρ' → ExP X W G τ σ x ρ')
    (k : ∀ b ρ' G' H', P b ρ' → Same G G' → Rel G' ρ' τ σ H' → K b H') : tOI X W f σ H K :=
  ⟨G, ρ, τ, R, h.mono (fun o ρ' p G' H' s1 R1 => k o ρ' G' H' p s1 R1) hE⟩
theorem pushes_sub : ∀ (os : List Opd) (vs : List V) (τ : List (V × T)), τ.Sublist (pushes os vs τ)
  | o :: os, v :: vs, τ => (Opd.sub o v τ).trans (pushes_sub os vs _)
  | [], _, τ => by cases ‹List V› <;> exact .refl _
  | _ :: _, [], τ => .refl _
theorem pushes_app : ∀ (os : List Opd) (vs : List V) (τ : List (V × T)), ∃ A, pushes os vs τ = A ++ τ
  | o :: os, v :: vs, τ => by
    obtain ⟨A, e⟩ := pushes_app os vs (o.push v τ)
    cases o with
    | tmp t => exact ⟨A ++ [(v, t)], by unfold pushes; rw [e]; unfold Opd.push; simp⟩
    | sl i => exact ⟨A, by unfold pushes; rw [e]; rfl⟩
  | [], vs, τ => ⟨[], by cases vs <;> rfl⟩
  | _ :: _, [], τ => ⟨[], rfl⟩
theorem sees_vw : ∀ {os : List Opd} {vs : List V} {τ : List (V × T)} {A : List (V × T)} {ds : List D}, Rel G ρ (A ++ pushes os vs τ) σ H → ats os vs σ → sees ρ os = some ds → VwAll G H vs ds
  | [], [], _, _, ds, _, _, e => by cases e; exact .nil
  | o :: os, v :: vs, τ, A, ds, R, a, e => by
    unfold sees at e
    cases q : o.see ρ with
    | none => rw [q] at e; cases e
    | some d =>
      rw [q] at e
      cases q2 : sees ρ os with
      | none => simp [q2] at e
      | some es =>
        simp [q2] at e
        subst e
        obtain ⟨B, eB⟩ := pushes_app os vs (o.push v τ)
        refine .cons ?_ (sees_vw R a.2 q2)
        refine Opd.vw (A := A ++ B) (τ := τ) ?_ a.1 q
        rw [List.append_assoc, ← eB]
        exact R
  | [], _ :: _, _, _, _, _, a, _ => a.elim
  | _ :: _, [], _, _, _, _, a, _ => a.elim
end
end L2.Eng

/-! EngD2: which text an expression of the small language stands for. -/
namespace L2.Eng
open PySem PySem.Spec PyProof.Rows

def dEq : D → D → Bool
  | .none, .none => true
  | .bool a, .bool b => a == b
  | .int a, .int b => a == b
  | .str a, .str b => a == b
  | _, _ => false
def dEqs : List D → List D → Bool
  | [], [] => true
  | a :: as, b :: bs => dEq a b && dEqs as bs
  | _, _ => false
theorem dEq_eq {d e : D} (h : dEq d e = true) : d = e := by
  cases d <;> cases e <;> simp_all [dEq]
theorem dEqs_eq : ∀ {ds es : List D}, dEqs ds es = true → ds = es
  | [], [], _ => rfl
  | a :: as, b :: bs, h => by
    have h' : dEq a b = true ∧ dEqs as bs = true := by simpa [dEqs] using h
    rw [dEq_eq h'.1, dEqs_eq h'.2]
  | [], _ :: _, h => by simp [dEqs] at h
  | _ :: _, [], h => by simp [dEqs] at h

/-- what the text's top has: its defs with how many parameters and the last ones' defaults, its numbers and texts, the built-in names that are still the built-in ones -/
structure Tbl where
  fns : List (Str × Nat × List D)
  gls : List (Str × D)
  bls : List Str
  excs : List Str
  hds : List Str
structure Ctx where
  N : List Str
  sc : Scope
  tb : Tbl
def visB (sc : Scope) (x : Str) : Bool := match sc.names.lookup x with
  | some .local => true | some .cell => true | some .free => true | _ => false
def locB (sc : Scope) (x : Str) : Bool := match sc.names.lookup x with
  | some .local => true | some .cell => true | _ => false
def glbB (sc : Scope) (x : Str) : Bool := match sc.names.lookup x with
  | some .globalImplicit => true | _ => false
def noDbg (x : Str) : Bool := !(x == ("__debug__" : Str)) && !(x == ("__classdict__" : Str)) && !decide (x = ("__name__" : Str))
def Ctx.nameOk (c : Ctx) (i : Nat) (x : Str) : Bool := decide (c.N[i]? = some x) && visB c.sc x && noDbg x
def Ctx.storeOk (c : Ctx) (i : Nat) (x : Str) : Bool := decide (c.N[i]? = some x) && locB c.sc x
def Ctx.bltOk (c : Ctx) (x : Str) : Bool := glbB c.sc x && noDbg x && decide (x ∈ c.tb.bls)
def noStar : Expr → Bool
  | .Starred .. => false
  | _ => true
def noSet : Expr → Bool
  | .Set .. => false
  | _ => true
def noSlice : Expr → Bool
  | .Slice .. => false
  | _ => true
def noCall0 : Expr → Bool
  | .Call (.Name _ _) [] [] _ => false
  | _ => true
def plainT : Expr → Bool
  | .UnaryOp .Not _ _ => false
  | .BoolOp .. => false
  | .IfExp .. => false
  | .Compare .. => false
  | _ => true
def Bi.nm : Bi → Str
  | .len => "len" | .abs => "abs" | .int => "int" | .str => "str" | .sum => "sum" | .list => "list" | .sorted => "sorted"
  | .max2 => "max" | .min2 => "min" | .maxL => "max" | .minL => "min"
def Kd.py : Kd → Str
  | .int => "int" | .bool => "bool" | .str => "str" | .list => "list" | .tuple => "tuple"
def Mu.py : Mu → Str
  | .append => "append" | .extend => "extend" | .pop => "pop" | .popAt => "pop" | .insert => "insert"
def Mu.ar : Mu → Nat
  | .append => 1 | .extend => 1 | .pop => 0 | .popAt => 1 | .insert => 2
def Es.len : Es → Nat
  | .nil => 0
  | .cons _ es => es.len + 1
def Ctx.fnOk (c : Ctx) (f : Str) (n : Nat) (ds : List D) : Bool := match c.tb.fns.lookup f with
  | some (np, dfl) => decide (n + ds.length = np) && decide (ds.length ≤ dfl.length) && dEqs ds (dfl.drop (dfl.length - ds.length)) && ds.all flatD
  | none => false
def ckKs (c : Ctx) : List Kd → List Expr → Bool
  | [], [] => true
  | k :: ks, .Name x _ :: es => decide (x = k.py) && c.bltOk x && ckKs c ks es
  | _, _ => false
def ckTgs (c : Ctx) : List Nat → List Expr → Bool
  | [], [] => true
  | i :: is, .Name x _ :: es => c.storeOk i x && ckTgs c is es
  | _, _ => false
def ckTg (c : Ctx) : Tg → Expr → Bool
  | .one i, .Name x _ => c.storeOk i x
  | .tup is, .Tuple es _ _ => ckTgs c is es
  | _, _ => false
/-- may stand as a test -/
def tOk : E → Bool
  | .ite _ _ _ => false
  | .and_ a b => tOk a && tOk b
  | .or_ a b => tOk a && tOk b
  | .not_ a => tOk a
  | _ => true
mutual
def ckE (c : Ctx) : E → Expr → Bool
  | .nm i, .Name x _ => c.nameOk i x
  | .mv i, .Name x _ => c.nameOk i x
  | .int i, .Constant (.int j) _ _ => decide (i = j)
  | .str x, .Constant (.str y) _ _ => decide (x = y)
  | .bl b, .Constant (.bool d) _ _ => b == d
  | .non, .Constant .none _ _ => true
  | .glb x d, .Name y _ => decide (x = y) && glbB c.sc x && noDbg x && flatD d && (match c.tb.gls.lookup x with | some e => dEq d e | none => false)
  | .bin op a b, .BinOp x o y _ => decide (op = o) && ckE c a x && ckE c b y
  | .neg a, .UnaryOp .USub x _ => ckE c a x
  | .cmp op a b, .Compare x [o] [y] _ => decide (op = o) && ckE c a x && ckE c b y && noSet y
  | .chn o1 o2 a b d, .Compare x [p1, p2] [y, z] _ => decide (o1 = p1) && decide (o2 = p2) && ckE c a x && ckE c b y && ckE c d z && noSet z
  | .and_ a b, .BoolOp .And (x :: y :: r) pos => ckE c a x && (match r with | [] => ckE c b y | z :: r' => ckE c b (.BoolOp .And (y :: z :: r') pos))
  | .or_ a b, .BoolOp .Or (x :: y :: r) pos => ckE c a x && (match r with | [] => ckE c b y | z :: r' => ckE c b (.BoolOp .Or (y :: z :: r') pos))
  | .not_ a, .UnaryOp .Not x _ => ckE c a x
  | .ite t a b, .IfExp x y z _ => tOk t && ckE c t x && ckE c a y && ckE c b z
  | .lst es, .List xs _ => ckEs c es xs
  | .tup es, .Tuple xs _ _ => ckEs c es xs
  | .idx a i, .Subscript x y _ => ckE c a x && ckE c i y && noSlice y
  | .slc a lo hi, .Subscript x (.Slice l h none _) _ => ckE c a x && ckOE c lo l && ckOE c hi h
  | .call f es ds, .Call (.Name x _) as [] _ => decide (x = f) && glbB c.sc x && noDbg x && ckEs c es as && c.fnOk f es.len ds
  | .bi b es, .Call (.Name x _) (a :: as) [] _ => decide (x = b.nm) && c.bltOk x && ckEs c es (a :: as)
  | .rl1 e, .Call (.Name x _) [.Call (.Name r _) [a] [] _] [] _ => decide (x = ("list" : Str)) && c.bltOk x && decide (r = ("range" : Str)) && c.bltOk r && ckE c e a && noStar a
  | .rl2 e f, .Call (.Name x _) [.Call (.Name r _) [a, b] [] _] [] _ => decide (x = ("list" : Str)) && c.bltOk x && decide (r = ("range" : Str)) && c.bltOk r && ckE c e a && noStar a && ckE c f b && noStar b
  | .isi a ks, .Call (.Name x _) [y, z] [] _ => decide (x = ("isinstance" : Str)) && c.bltOk x && ckE c a y && noStar y && (match ks, z with
    | [k], .Name n _ => decide (n = k.py) && c.bltOk n
    | ks, .Tuple es _ _ => ckKs c ks es && decide (ks.length < 100)
    | _, _ => false)
  | .me m o es, .Call (.Attribute x n apos) (a :: as) [] cpos => decide (m ≠ .split) && decide (n = m.py) && ckE c o x && noCall0 x && decide (as = []) && (apos.endLine == cpos.line) && ckEs c es (a :: as)
  | .mu m i es, .Call (.Attribute (.Name x _) n apos) as [] cpos => decide (n = m.py) && c.nameOk i x && decide (as.length = m.ar) && (apos.endLine == cpos.line) && ckEs c es as
  | .lc tg own it cd elt, .ListComp ee [⟨te, ie, ifs, 0⟩] scope _ =>
    blkC c.N c.sc scope (own.filterMap fun i => (c.N[i]?).map fun x => (x, i)) && decide ((own.filterMap fun i => (c.N[i]?).map fun x => (x, i)).map (·.2) = own) && ckTg ⟨c.N, scope, c.tb⟩ tg te && decide own.Nodup && tg.is.all (fun i => decide (i ∈ own)) && noSet ie &&
      ckI c it ie && ckE ⟨c.N, scope, c.tb⟩ elt ee && ckC ⟨c.N, scope, c.tb⟩ cd ifs
  | .lrv e, .Call (.Name x _) [.Call (.Name r _) [a] [] _] [] _ => decide (x = ("list" : Str)) && c.bltOk x && decide (r = ("reversed" : Str)) && c.bltOk r && ckE c e a && noStar a
  | .lrr e, .Call (.Name x _) [.Call (.Name r _) [.Call (.Name g _) [a] [] _] [] _] [] _ => decide (x = ("list" : Str)) && c.bltOk x && decide (r = ("reversed" : Str)) && c.bltOk r && decide (g = ("range" : Str)) && c.bltOk g && ckE c e a && noStar a
  | .dn _, .Dict [] [] _ => true
  | .d1 k v, .Dict [some x] [y] _ => ckE c k x && ckE c v y
  | .dpr e, .Call (.Name x _) [a] [] _ => decide (x = ("dict" : Str)) && c.bltOk x && ckE c e a && noStar a
  | .dat a k, .Subscript x y _ => ckE c a x && ckE c k y && noSlice y
  | .din neg k a, .Compare x [o] [y] _ => decide (o = if neg then .NotIn else .In) && ckE c k x && ckE c a y && noSet y
  | .dge a k d, .Call (.Attribute x n apos) (u :: as) [] cpos => decide (n = ("get" : Str)) && ckE c a x && noCall0 x && (apos.endLine == cpos.line) && ckE c k u && noStar u && ckOD c d as
  | .lcd s i cd elt, .ListComp ee [⟨.Name te _, .Name ie _, ifs, 0⟩] scope _ =>
    blkC c.N c.sc scope ([s].filterMap fun i => (c.N[i]?).map fun x => (x, i)) && decide (([s].filterMap fun i => (c.N[i]?).map fun x => (x, i)).map (·.2) = [s]) && (Ctx.storeOk ⟨c.N, scope, c.tb⟩ s te) && c.nameOk i ie &&
      ckE ⟨c.N, scope, c.tb⟩ elt ee && ckC ⟨c.N, scope, c.tb⟩ cd ifs
  | _, _ => false
def ckEs (c : Ctx) : Es → List Expr → Bool
  | .nil, [] => true
  | .cons e es, x :: xs => ckE c e x && noStar x && ckEs c es xs
  | _, _ => false
def ckOE (c : Ctx) : OE → Option Expr → Bool
  | .none, none => true
  | .some e, some x => ckE c e x
  | _, _ => false
def ckOD (c : Ctx) : OE → List Expr → Bool
  | .none, [] => true
  | .some e, [x] => ckE c e x && noStar x
  | _, _ => false
def ckC (c : Ctx) : OE → List Expr → Bool
  | .none, [] => true
  | .some e, [x] => tOk e && ckE c e x
  | _, _ => false
def ckI (c : Ctx) : It → Expr → Bool
  | .opd e, x => ckE c e x
  | .rng1 e, x => match x with
    | .Call (.Name r _) [a] [] _ => decide (r = ("range" : Str)) && c.bltOk r && ckE c e a && noStar a
    | _ => false
  | .rng2 e f, x => match x with
    | .Call (.Name r _) [a, b] [] _ => decide (r = ("range" : Str)) && c.bltOk r && ckE c e a && noStar a && ckE c f b && noStar b
    | _ => false
  | .revR1 e, x => match x with
    | .Call (.Name q _) [.Call (.Name r _) [a] [] _] [] _ => decide (q = ("reversed" : Str)) && c.bltOk q && decide (r = ("range" : Str)) && c.bltOk r && ckE c e a && noStar a
    | _ => false
  | .rev e, x => match x with
    | .Call (.Name q _) [a] [] _ => decide (q = ("reversed" : Str)) && c.bltOk q && ckE c e a && noStar a
    | _ => false
  | _, _ => false
end
end L2.Eng

/-! EngDB: an error that leaves a list comprehension. -/
namespace L2.Eng
open PySem PySem.Spec PyProof.Rows
/-- what a comprehension's block is to reach; an error comes out by the block's own env -/
def cpE (M : Model) (A : Around) (E : Value → Shared → Prop) (use : Option (Value → Sem Unit)) (Qf : Value → Shared → Prop) (acc : Value) (ce : Env) (r : Result) (t : Shared) : Prop :=
  match r with
  | .ok f => compPost M A E use Qf acc ce.locals (.ok f) t
  | .error x => ∃ m, t.heap.Ns ce.locals m ∧ ∀ g, Heap.SameBut ce.locals t.heap g → wpAny M A (PySem.passOn "comprehension.variables-let-go" x ce : Sem Value) (fun _ _ => False) E { t with heap := g }
theorem comp_ruleE {M : Model} {A : Around} {E : Value → Shared → Prop} {s : Shared} {env : Env} {ex : Expr} {scp : Scope} {pos : Pos} {mk fst : Sem Value} {c0 : Comprehension} {cr : List Comprehension} {clo : List (Str × Addr)} {use : Option (Value → Sem Unit)} {Qf : Value → Shared → Prop}
    (k1 : clausesOf ex = c0 :: cr) (k2 : ∀ x, foldedSetIterable c0.iter env x = pure x) (k3 : closureFor scp env = pure clo) (k4 : scp.kind = .function) (k5 : ∀ y ∈ scp.names, y.2 = .local → scp.names.lookup y.1 = some .local)
    (w : wpAny M A fst (fun x sa => wpAny M A (pyIter x) (fun it sb => wpAny M A mk (fun acc sc => wpAny M A (newFunctionEnv scp env.globals clo [] env.qual none .none (some env)) (fun ce sd =>
      codeAny M A (.compStart ex 0 it acc { ce with scope := relabel scp env }) (cpE M A E use Qf acc { ce with scope := relabel scp env }) sd) E sc) E sb) E sa) E s) :
    wpAny M A (comprehension ex scp env pos mk false fst use) Qf E s := by
  unfold comprehension
  rw [k3, k1]
  have up : ∀ {α : Type} {t : Sem α} {P Q : α → Shared → Prop} {u : Shared}, wpAny M A t P E u → (∀ a v, P a v → Q a v) → wpAny M A t Q E u := fun z f => wpAny_mono z f fun _ _ q => q
  refine wpAny_bind (up w fun x sa wa => wpAny_bind (wpAny_standAt (wpAny_bind (wpAny_of_eq (k2 x) (wpAny_bind (wpAny_holding (up wa fun it sb wb => wpAny_standIf (wpAny_bind (up wb fun acc sc wc => wpAny_bind (wpAny_pure (wpAny_bind (up wc fun ce sd wd => ?_))))))))))))
  dsimp only
  have lk : ∀ y ∈ (scp.names.filter fun y => (y.2 == .local || y.2 == .cell) && y.1 != (".0" : Str)).reverse, y.2 = .local → Env.kindOf { ce with scope := relabel scp env } y.1 = some .local :=
    fun y hy e => lookup_relabel_local (k5 y (List.mem_filter.mp (List.mem_reverse.mp hy)).1 e)
  have lk' : ∀ y ∈ (scp.names.filter fun y => (y.2 == .local || y.2 == .cell) && y.1 != (".0" : Str)).reverse.drop 1 ++ (scp.names.filter fun y => (y.2 == .local || y.2 == .cell) && y.1 != (".0" : Str)).reverse.take 1,
      y.2 = .local → Env.kindOf { ce with scope := relabel scp env } y.1 = some .local := fun y hy e => (List.mem_append.mp hy).elim (fun z => lk y (List.mem_of_mem_drop z) e) fun z => lk y (List.mem_of_mem_take z) e
  refine wpAny_holding (wpAny_bind (wpAny_attempt (wpAny_holding (wpAny_run (codeAny_mono wd fun r t ht => ?_)))))
  cases r with
  | ok f =>
    have ht : compPost M A E use Qf acc ce.locals (.ok f) t := ht
    cases use with
    | none =>
      obtain ⟨m, n, q⟩ := ht
      exact wpAny_bind (wpAny_holding (wpAny_comp_letGo (cenv := { ce with scope := relabel scp env }) k4 _ t m lk n fun g _ _ sb => wpAny_pure (q g sb)))
    | some u =>
      refine wpAny_bind (wpAny_rule (wpAny_bind (wpAny_holding (up ht fun _ t2 ht2 => ?_))))
      obtain ⟨m, n, q⟩ := ht2
      exact wpAny_bind (wpAny_comp_letGo (cenv := { ce with scope := relabel scp env }) k4 _ t2 m lk' n fun g _ _ sb => wpAny_pure (q g sb))
  | error x =>
    obtain ⟨m, n, q⟩ := ht
    exact wpAny_bind (wpAny_holding (wpAny_comp_letGo (cenv := { ce with scope := relabel scp env }) k4 _ t m lk n fun g _ _ sb => up (q g sb) fun _ _ z => z.elim))

/-- the block of a comprehension, with a wish of its own about errors -/
abbrev bblk (X : Cx) (s : Shared) (H : Hp) (scope : Scope) (ce : Env) (fp : List Addr) (xb : Value → Shared → Prop) : Cx := (X.blk s H scope ce fp).wish xb
/-- an error that is held at the frame L -/
def XEL (X : Cx) (W : WX) (L : Addr) (u : Value) (t : Shared) : Prop :=
  ∃ (a : Addr) (B : Heap) (sI : Shared) (pins : List (Addr × Obj)) (σ : St) (H : Hp) (cls : Value) (d : Option Addr), u = .ref a ∧ Inv X pins σ H sI ∧ (∀ b o, sI.heap.get? b = some o → b ∉ frs X.stack → B.get? b = some o) ∧
    sI.heap.UpToSlots t.heap ∧ HandSPX.HeldZ B X.stack a (L2N.Zn cls d) L t.heap ∧ H a = none ∧ t.os = sI.os ∧ AllBare t.gens ∧ W cls d σ H
/-- errors that are held at the def's frame are taken -/
def Air (X : Cx) (W : WX) : Prop := ∃ (fe : Env) (out : List Env) (L : Addr), X.stack = fe :: out ∧ fe.frame = some L ∧ X.env.frame = some L ∧ ∀ u t, XEL X W L u t → X.xe u t
theorem air_def {X : Cx} {W : WX} (hs : X.stack = X.env :: X.outer) (hf : X.env.frame = some X.env.locals) (tk : L2N.Takes X W) : Air X W :=
  ⟨X.env, X.outer, X.env.locals, hs, hf, hf, fun u t ⟨a, B, sI, pins, σ, H, cls, d, e, I, nb, up, hd, na, os, ag, w⟩ => tk u t ⟨a, B, sI, pins, σ, H, cls, d, e, I, nb, up, .inr (.inr hd), na, os, ag, w⟩⟩
theorem noteF {e : Value} {env env' : Env} (h : env.frame = env'.frame) : noteFrame e env = noteFrame e env' := by
  unfold noteFrame PySem.frameOf
  rw [h]
section
open HandSPX
variable {M : Model} {A : Around} {E : Value → Shared → Prop} {s : Shared} {fe : Env} {out : List Env} {L : Addr} {B : Heap} {a : Addr} {Z : Obj → Prop} {Q : Unit → Shared → Prop}
/-- held at another place, then noted by the frame -/
theorem note_held {C : Addr} (hZ : PXN.Steady1 Z) (hfr : A.frames = some (fe :: out)) (hf : fe.frame = some L) (hh : HeldZ B (fe :: out) a Z C s.heap)
    (hQ : ∀ g, HeldZ B (fe :: out) a Z L g → s.heap.UpToSlots g → Q () { s with heap := g }) : wpAny M A (noteFrame (.ref a) fe) Q E s := by
  by_cases hCL : rawInt C = rawInt L
  · obtain ⟨c1, c2, c3, c4⟩ := hh
    rw [hCL] at c4
    exact againZ hf c4 (hQ s.heap ⟨c1, c2, c3, c4⟩ (Heap.UpToSlots.refl _))
  obtain ⟨kB, nB, ff, oa, fs, T, oT, gs, ga, za, da, v1, nT, neT, gT, dT, v3⟩ := hh
  have oth : ∀ b, b ≠ T → (s.heap.update T (Obj.mapFields (·.setIfInBounds 3 Value.none))).get? b = s.heap.get? b := fun b z => Heap.get?_update_other _ _ (Ne.symm z)
  have nrec : ∀ b o, s.heap.get? b = some o → (∀ vs, o.data ≠ .fields vs) → b ≠ T := fun b o e nf q => by
    rw [q, gT] at e
    cases e
    exact nf gs dT
  unfold noteFrame
  simp only [hf]
  refine wpAny_bind (wpAny_field ga da v1 ?_)
  rw [if_pos (show (Value.ref T != Value.none) = true from by simp)]
  refine wpAny_bind (wpAny_field gT dT v3 ?_)
  rw [if_neg (show ¬ ((rawInt C == rawInt L) = true) from fun z => hCL (by simpa using z))]
  refine wpAny_bind (wpAny_setField gT dT (Array.getElem?_eq_some_iff.mp v3).1 ?_)
  refine PXN.wpAny_entryZ hZ hfr (ff.of_keeps fun b o e nf => ⟨o, (oth b (nrec b o e nf)).trans e, rfl⟩) hf ((oth a (Ne.symm neT)).trans ga) (fun b o e => (oth b fun q => by rw [q, nT] at e; cases e).trans (kB b o e)) nB da (Array.getElem?_eq_some_iff.mp v1).1 za fun g hN => ?_
  obtain ⟨y1, y2, y3, y4⟩ := hN
  exact hQ g ⟨y1, nB, y2, y3⟩ fun b o e nf => y4 b o ((oth b (nrec b o e nf)).trans e) nf
/-- whatever its state, then noted by the frame -/
theorem note_any {C : Addr} (hZ : PXN.Steady1 Z) (hfr : A.frames = some (fe :: out)) (hf : fe.frame = some L) (x : Sky B (fe :: out) a Z C s.heap)
    (hQ : ∀ g, HeldZ B (fe :: out) a Z L g → s.heap.UpToSlots g → Q () { s with heap := g }) : wpAny M A (noteFrame (.ref a) fe) Q E s := by
  rcases x with ⟨hB, hn, hl, oe, vs, he, hz, hd, h1⟩ | fl | hd
  · exact PXN.look_newZ hZ hfr hl hf he hB hn hd h1 hz hQ
  · exact PXN.looks_onZ hZ hfr hf fl hQ
  · exact note_held hZ hfr hf hd hQ
end
theorem frames_but {B g h : Heap} {C : Addr} : ∀ {l : List Env}, h.FunFrames B l → (∀ L ∈ frs l, L ≠ C) → (∀ b o, b ≠ C → h.get? b = some o → g.get? b = some o) → g.FunFrames (PySem.W.hideAll B [C]) l
  | [], _, _, _ => trivial
  | env :: l, ⟨hk, ⟨L, o, hf, hb, ho, hd⟩, hr⟩, hn, k => by
    have hL : L ≠ C := hn L (List.mem_filterMap.mpr ⟨env, List.mem_cons_self, hf⟩)
    refine ⟨hk, ⟨L, o, hf, ?_, k L o hL ho, hd⟩, frames_but hr (fun b hm => hn b ?_) k⟩
    · cases q : (PySem.W.hideAll B [C]).get? L with
      | none => rfl
      | some o' =>
        have z := PySem.W.of_hideAll _ q
        rw [hb] at z
        cases z
    · obtain ⟨e, he, q⟩ := List.mem_filterMap.mp hm
      exact List.mem_filterMap.mpr ⟨e, List.mem_cons_of_mem _ he, q⟩
section
variable {X : Cx} {pins pins' : List (Addr × Obj)} {σ σ2 : St} {H3 H' : Hp} {s3 sI t : Shared} {B : Heap} {W : WX} {scope : Scope} {ce : Env} {fp : List Addr} {xb : Value → Shared → Prop} {fe : Env} {out : List Env} {L a : Addr} {cls : Value} {d : Option Addr}
/-- noted by the frame, it leaves the block -/
theorem bx_err (hx : X.env.frame = some L) (tk : ∀ u t, XEL X W L u t → X.xe u t) (I3 : Inv X pins σ H3 s3) (f3 : ∀ b ∈ fp, FpOk X pins H3 b) (cL : ce.locals = s3.heap.objs.size) (cf : ce.frame = X.env.frame)
    (I' : Inv (bblk X s3 H3 scope ce fp xb) pins' σ2 H' sI) (nb : ∀ b o, sI.heap.get? b = some o → b ∉ frs X.stack → B.get? b = some o) (up : sI.heap.UpToSlots t.heap)
    (hd : HandSPX.HeldZ B X.stack a (L2N.Zn cls d) L t.heap) (na : H' a = none) (os : t.os = sI.os) (ag : AllBare t.gens) (w : W cls d σ H') :
    ∃ m, t.heap.Ns ce.locals m ∧ ∀ g, Heap.SameBut ce.locals t.heap g → wpAny (model X.prog X.w) X.A (PySem.passOn "comprehension.variables-let-go" (.ref a) ce : Sem Value) (fun _ _ => False) X.xe { t with heap := g } := by
  have J : Inv X pins σ H' sI := I3.call' (ch := fp) I'.os I'.base I'.hok I'.bare fun b hb => ⟨(f3 b hb).2.2.2.1, (f3 b hb).2.1, (f3 b hb).2.2.2.2.1, (f3 b hb).2.2.2.2.2⟩
  have nC : H' ce.locals = none := I'.free
  obtain ⟨m, hn, _⟩ := I'.loc
  have hn : sI.heap.Ns ce.locals m := hn
  have hnt := up.ns hn
  have F : FpOk X pins H' ce.locals := I3.fpOk (Nat.le_of_eq cL.symm) nC
  obtain ⟨q0, q1, q2, q3, q4, q5⟩ := F
  refine ⟨m, hnt, fun g sb => ?_⟩
  obtain ⟨oC, es, ep, gC, dC, _⟩ := hnt
  obtain ⟨kB, nB, ff, oa, fs, T, oT, gs, ga, za, da, v1, nT, neT, gT, dT, v3⟩ := hd
  have aC : a ≠ ce.locals := fun z => by
    rw [z, gC] at ga
    cases ga
    rw [dC] at da
    cases da
  have TC : T ≠ ce.locals := fun z => by
    rw [z, gC] at gT
    cases gT
    rw [dC] at dT
    cases dT
  have hide : ∀ {h : Heap} {b : Addr} {o : Obj}, (PySem.W.hideAll h [ce.locals]).get? b = some o → b ≠ ce.locals ∧ h.get? b = some o := fun {h b o} e => by
    refine ⟨fun z => ?_, PySem.W.of_hideAll _ e⟩
    rw [z, PySem.W.hideAll_none _ (List.mem_singleton_self _)] at e
    cases e
  have hide' : ∀ {h : Heap} {b : Addr} {o : Obj}, b ≠ ce.locals → h.get? b = some o → (PySem.W.hideAll h [ce.locals]).get? b = some o := fun {h b o} z e => PySem.W.hideAll_get _ e fun hm => z (List.mem_singleton.mp hm)
  have hideN : ∀ {b : Addr}, B.get? b = none → (PySem.W.hideAll B [ce.locals]).get? b = none := fun {b} e => by
    cases q : (PySem.W.hideAll B [ce.locals]).get? b with
    | none => rfl
    | some o =>
      have z := (hide q).2
      rw [e] at z
      cases z
  have keep : ∀ b o, b ≠ ce.locals → t.heap.get? b = some o → g.get? b = some o := fun b o z e => (sb.2 b z).trans e
  have fC : ∀ K ∈ frs X.stack, K ≠ ce.locals := fun K hK z => by
    rcases List.mem_cons.mp (J.stkSub K hK) with e | e
    · exact q1 (z.symm.trans e)
    · exact q2 (by rw [← z]; exact e)
  have held : HandSPX.HeldZ (PySem.W.hideAll B [ce.locals]) X.stack a (L2N.Zn cls d) L g :=
    ⟨fun b o e => keep b o (hide e).1 (kB b o (hide e).2), hideN nB, frames_but ff fC keep, oa, fs, T, oT, gs, keep a oa aC ga, za, da, v1, hideN nT, neT, keep T oT TC gT, dT, v3⟩
  unfold PySem.passOn
  refine wpAny_bind (wpAny_field (keep a oa aC ga) da v1 ?_)
  rw [if_neg (show ¬ ((Value.ref T == Value.none) = true) from by simp)]
  have fin : wpAny (model X.prog X.w) X.A (setFlight (.ref a) ce.frame) (fun _ s4 => wpAny (model X.prog X.w) X.A (throw (.ref a) : Sem Value) (fun _ _ => False) X.xe s4) X.xe { t with heap := g } := by
    rw [cf, hx]
    refine HandSPX.setFlight_onZ held fun h4 hh4 up4 => wpAny_throw (tk _ _ ?_)
    refine ⟨a, PySem.W.hideAll B [ce.locals], { sI with heap := PySem.W.hideAll sI.heap [ce.locals] }, pins, σ, H', cls, d, rfl, J.turned (t' := sI.toks) (fun b o z e => hide' z e) q0 q1 q3 q4 q5, fun b o e hb => hide' (hide e).1 (nb b o (hide e).2 hb), ?_, hh4, na, os, ag, w⟩
    intro b o e nf
    obtain ⟨sl, e2⟩ := up b o (hide e).2 nf
    obtain ⟨sl2, e3⟩ := up4 b { o with slots := sl } (keep b _ (hide e).1 e2) nf
    exact ⟨sl2, e3⟩
  first
    | exact wpAny_bind (wpAny_pure (wpAny_bind fin))
    | exact wpAny_bind fin
end
end L2.Eng

/-! EngDC: a comprehension whose block may let an error out. -/
namespace L2.Eng
open PySem PySem.Spec PyProof.Rows
section
variable {X : Cx}
/-- what holds of every block of X over a scope -/
def BlkQ (X : Cx) (W1 : WX) (scope : Scope) (P : Cx → Prop) : Prop := ∀ (s : Shared) (H : Hp) (C : Addr) (cl : List (Str × Addr)) (fp : List Addr) (xb : Value → Shared → Prop),
  L2N.Takes (bblk X s H scope (compEnvC scope cl C X.env) fp xb) W1 → Air (bblk X s H scope (compEnvC scope cl C X.env) fp xb) W1 → P (bblk X s H scope (compEnvC scope cl C X.env) fp xb)
theorem thnE {α : Type} {t : Sem α} {Q Q' : α → Shared → Prop} {M : Model} {A : Around} {E E' : Value → Shared → Prop} {s : Shared} (e : E = E') (h : wpAny M A t Q E s) (hQ : ∀ a s, Q a s → Q' a s) : wpAny M A t Q' E' s := by
  subst e
  exact thn h hQ
theorem bx_air {pins : List (Addr × Obj)} {σ : St} {H3 : Hp} {s3 : Shared} {W : WX} {scope : Scope} {ce : Env} {fp : List Addr} {xb : Value → Shared → Prop} {use : Option (Value → Sem Unit)} {Qf : Value → Shared → Prop} {acc : Value}
    (air : Air X W) (I3 : Inv X pins σ H3 s3) (f3 : ∀ b ∈ fp, FpOk X pins H3 b) (cL : ce.locals = s3.heap.objs.size) (cf : ce.frame = X.env.frame)
    (hxb : xb = notedBy (model X.prog X.w) X.A ce fun e s' => cpE (model X.prog X.w) X.A X.xe use Qf acc ce (.error e) s') :
    L2N.Takes (bblk X s3 H3 scope ce fp xb) (fun cls d _ H' => W cls d σ H') ∧ Air (bblk X s3 H3 scope ce fp xb) (fun cls d _ H' => W cls d σ H') := by
  obtain ⟨fe, out, L, hs, hf, hx, tk⟩ := air
  have hfr : X.A.frames = some (fe :: out) := by rw [I3.ok.frames, hs]
  have go : ∀ {a : Addr} {B : Heap} {sI t : Shared} {pins' : List (Addr × Obj)} {σ2 : St} {H' : Hp} {cls : Value} {d : Option Addr} {C : Addr}, Inv (bblk X s3 H3 scope ce fp xb) pins' σ2 H' sI → (∀ b o, sI.heap.get? b = some o → b ∉ frs X.stack → B.get? b = some o) → sI.heap.UpToSlots t.heap →
      Sky B X.stack a (L2N.Zn cls d) C t.heap → H' a = none → t.os = sI.os → AllBare t.gens → W cls d σ H' → xb (.ref a) t := fun {a B sI t pins' σ2 H' cls d C} I' nb up sky na os ag w => by
    rw [hxb]
    show wpAny _ _ (noteFrame (.ref a) ce) _ _ _
    rw [noteF (cf.trans (hx.trans hf.symm))]
    rw [hs] at sky
    refine note_any L2N.Zn.steady hfr hf sky fun g hh up2 => ?_
    exact bx_err (t := { t with heap := g }) hx tk I3 f3 cL cf I' nb (up.trans up2) (by rw [hs]; exact hh) na os ag w
  refine ⟨fun u t ⟨a, B, sI, pins', σ2, H', cls, d, e, I', nb, up, sky, na, os, ag, w⟩ => ?_, fe, out, L, hs, hf, cf.trans hx, fun u t ⟨a, B, sI, pins', σ2, H', cls, d, e, I', nb, up, hd, na, os, ag, w⟩ => ?_⟩
  · subst e
    exact go I' nb up sky na os ag w
  · subst e
    exact go I' nb up (.inr (.inr hd)) na os ag w
/-- a comprehension whose block may let an error out -/
theorem bx_core {pins : List (Addr × Obj)} {s : Shared} {σ : St} {H : Hp} {Q : VK} {W : WX} {elt tg iter : Expr} {ifs : List Expr} {scope : Scope} {own : List (Str × Nat)} {pos pos' : Pos} {wi : TI} {g : TG} {tt : TT} {te : TE} {use : Option (Value → Sem Unit)} {Qf : Value → Shared → Prop}
    (hc : X.calm = true) (air : Air X W) (hN : X.N.Nodup) (I : Inv X pins σ H s) (hi : PI X tg iter wi) (ok : BlkOk X.N X.env.scope scope own)
    (hg : BlkQ X (fun cls d _ H' => W cls d σ H') scope fun X' => PG X' tg g) (ht : BlkQ X (fun cls d _ H' => W cls d σ H') scope fun X' => PTs X' ifs tt) (he : BlkQ X (fun cls d _ H' => W cls d σ H') scope fun X' => PE X' elt te)
    (hs : ∀ x, foldedSetIterable iter X.env x = pure x) (h : tLc wi g tt te (own.map (·.2)) σ H Q)
    (hRR : ∀ D C s' m H', Inv X pins σ H' s' → Q (.ref D) H' → s'.heap.Ns C m → FpOk X pins H' C → compPost (model X.prog X.w) X.A X.xe use Qf (.ref D) C (.ok .next) s') :
    wpAny (model X.prog X.w) X.A (comprehension (.ListComp elt [⟨tg, iter, ifs, 0⟩] scope pos) scope X.env pos' (newList []) false (eval iter X.env) use) Qf X.xe s := by
  have hclo : ∀ y ∈ scope.names, y.2 = .free → ∃ c, X.env.cells.lookup y.1 = some c := fun y hy e => by
    rcases ok.free y hy e with k | k
    · exact I.ok.has _ (.inl k)
    · exact I.ok.has _ (.inr k)
  refine comp_ruleE (use := use) rfl hs (closure_ok hclo) ok.kind (fun y hy e => by rw [ok.uniq y hy, e])
    (thn (hi.run pins s σ H _ I h) fun xv ub hx => thn hx fun itv uc h2 => ?_)
  obtain ⟨it, fp, tn, J, H2, e, Jc, T, sB, f2, q⟩ := h2
  subst e
  refine wpAny_newObj_type (newEnv_comp ?_) (by show 0 ≤ sizeLine; decide)
  generalize hD : uc.heap.objs.size = D
  have hDn : H2 D = none := Jc.hok.fresh (Nat.le_of_eq hD)
  obtain ⟨Wt, ⟨k0, v0⟩, round_⟩ := q D hDn
  -- the new list
  generalize hs3 : ({ uc with heap := uc.heap.push { cls := .type "list", data := .seq ([] : List Value).toArray } } : Shared) = ud
  have Jd : Inv X pins σ (upd H2 D (.lst [])) ud := by
    rw [← hs3]
    refine Jc.laid (t' := uc.toks) (fun b o e => Heap.get?_push_of_some _ e) (Nat.le_of_eq hD) ⟨Nat.zero_le _, [], 0, .nil, ?_⟩
    rw [← hD]
    exact Heap.get?_push_size _ rfl
  have h3 : ud.heap = uc.heap.push { cls := .type "list", data := .seq ([] : List Value).toArray } := by rw [← hs3]
  have small : ∀ b ∈ fp, b < uc.heap.objs.size := fun b hb => by
    obtain ⟨o, e, _⟩ := T.obj _ _ sB b hb
    exact Heap.lt_size e
  have f3 : ∀ b ∈ fp, FpOk X pins (upd H2 D (.lst [])) b ∧ b < ud.heap.objs.size := fun b hb => by
    have hlt := small b hb
    refine ⟨⟨?_, (f2 b hb).2⟩, by rw [h3, Heap.size_push]; exact Nat.lt_succ_of_lt hlt⟩
    rw [upd_ne (by rw [← hD]; exact Nat.ne_of_lt hlt)]
    exact (f2 b hb).1
  have sC : tn 0 ud.heap := T.keep _ _ _ sB fun b _ o e => by rw [h3]; exact Heap.get?_push_of_some _ e
  have Je := block_start Jd ok hN f3
  have pg := fun xb => hg ud (upd H2 D (.lst [])) ud.heap.objs.size (cellsFrom (ud.heap.objs.size + 1) scope.names (cloFrom X.env.cells scope.names [])) fp xb
  have pt := fun xb => ht ud (upd H2 D (.lst [])) ud.heap.objs.size (cellsFrom (ud.heap.objs.size + 1) scope.names (cloFrom X.env.cells scope.names [])) fp xb
  have pe := fun xb => he ud (upd H2 D (.lst [])) ud.heap.objs.size (cellsFrom (ud.heap.objs.size + 1) scope.names (cloFrom X.env.cells scope.names [])) fp xb
  show codeAny _ _ (.compStart (.ListComp elt [⟨tg, iter, ifs, 0⟩] scope pos) 0 (.ref it) (.ref D) (compEnvC scope (cellsFrom (ud.heap.objs.size + 1) scope.names (cloFrom X.env.cells scope.names [])) ud.heap.objs.size X.env)) (cpE (model X.prog X.w) X.A X.xe use Qf (.ref D) (compEnvC scope (cellsFrom (ud.heap.objs.size + 1) scope.names (cloFrom X.env.cells scope.names [])) ud.heap.objs.size X.env)) { ud with heap := pushCells (ud.heap.push { cls := .type "dict", data := .dict #[] }) scope.names }
  have nowh : ∀ b ∈ fp, (upd H2 D (.lst [])) b = none := fun b hb => (f3 b hb).1.1
  generalize hcv : compEnvC scope (cellsFrom (ud.heap.objs.size + 1) scope.names (cloFrom X.env.cells scope.names [])) ud.heap.objs.size X.env = ce at Je pg pt pe ⊢
  have cL : ce.locals = ud.heap.objs.size := by subst hcv; rfl
  have cf : ce.frame = X.env.frame := by subst hcv; rfl
  generalize hH3 : upd H2 D (.lst []) = H3 at Jd Je pg pt pe v0 nowh f3
  generalize hs4 : ({ ud with heap := pushCells (ud.heap.push { cls := .type "dict", data := .dict #[] }) scope.names } : Shared) = ue at Je ⊢
  have sD : tn 0 ue.heap := T.keep _ _ _ sC fun b _ o e => by rw [← hs4]; exact pushCells_keeps _ _ _ _ (Heap.get?_push_of_some _ e)
  obtain ⟨xb, hxb⟩ : ∃ xb, xb = notedBy (model X.prog X.w) X.A ce fun e s' => cpE (model X.prog X.w) X.A X.xe use Qf (.ref D) ce (.error e) s' := ⟨_, rfl⟩
  have Ja : Inv (bblk X ud H3 scope ce fp xb) [] (wipe σ (own.map (·.2))) H3 ue := Je.wish xb
  obtain ⟨tkb, arb⟩ := bx_air air Jd (fun b hb => (f3 b hb).1) cL cf (scope := scope) hxb
  have pg := pg xb tkb arb
  have pt := pt xb tkb arb
  have pe := pe xb tkb arb
  have stays : ∀ {σ' : St} {H' : Hp} {s' : Shared}, Inv (bblk X ud H3 scope ce fp xb) [] σ' H' s' → (∀ b ∈ fp, H' b = none) → ∀ b ∈ fp, FpOk (bblk X ud H3 scope ce fp xb) [] H' b := fun {σ' H' s'} I' hn b hb =>
    ⟨hn b hb, (I'.ok.exf b hb).1, I'.ok.exfs b hb, .inl hb, fun x c e => (I'.ok.exf b hb).2 x c e, fun q hq => absurd (show q ∈ ([] : List (Addr × Obj)) ++ [] from hq) (by simp)⟩
  have walk_ : codeAny (model X.prog X.w) X.A (.compLoop (.ListComp elt [⟨tg, iter, ifs, 0⟩] scope pos) 0 (.ref it) (.ref D) ce) (cpE (model X.prog X.w) X.A X.xe use Qf (.ref D) ce) ue := by
    refine compLoop_any (fun n s' => ∃ i H', Inv (bblk X ud H3 scope ce fp xb) [] (wipe σ (own.map (·.2))) H' s' ∧ tn i s'.heap ∧ (∀ b ∈ fp, H' b = none) ∧ Wt i n H') ?_ k0 ⟨0, H3, Ja, sD, nowh, v0⟩
    rintro n uf ⟨i, H5, Jf, sE, n5, v5⟩
    rcases round_ i n H5 v5 with ⟨stop, qq⟩ | ⟨go, Nx, hNx, go_on⟩
    · have td := T.done (bblk X ud H3 scope ce fp xb) rfl rfl rfl hc i [] uf _ H5 (fun _ _ => False) Jf (stays Jf n5) sE stop
      refine thnF td fun r ug ⟨hr, Jg⟩ => ?_
      subst hr
      -- back in the def's context
      have Jh : Inv X pins σ H5 ug := Jd.call' (ch := fp) Jg.os Jg.base Jg.hok Jg.bare fun b hb => ⟨(f3 b hb).1.2.2.2.1, (f3 b hb).1.2.1, (f3 b hb).1.2.2.2.2.1, (f3 b hb).1.2.2.2.2.2⟩
      have nC : H5 ud.heap.objs.size = none := by
        have z : H5 ce.locals = none := Jg.free
        rw [cL] at z
        exact z
      obtain ⟨m, hn, _⟩ := Jg.loc
      have hn : ug.heap.Ns ce.locals m := hn
      rw [cL] at hn
      show compPost (model X.prog X.w) X.A X.xe use Qf (.ref D) ce.locals (.ok .next) ug
      rw [cL]
      exact hRR D ud.heap.objs.size ug m H5 Jh qq hn (Jd.fpOk (Nat.le_refl _) nC)
    · have ti := T.item (bblk X ud H3 scope ce fp xb) rfl rfl rfl hc i [] uf _ H5 (fun _ _ => False) Jf (stays Jf n5) sE go
      refine thnF ti fun r ug ⟨u, hr, h6⟩ => ?_
      subst hr
      refine thnF h6 fun _ uh ⟨x, H7, Jh, r7, y7, sG, n7⟩ => ?_
      have I7' := Jh.pinned (stays Jh n7) (T.obj _ _ sG)
      refine thnE hxb (pg.run _ uh _ H7 x u _ I7' r7 (go_on x H7 y7)) fun _ ui ⟨σ8, H8, Ji, hw8, q8⟩ => ?_
      refine thnE hxb (pt.run _ ui σ8 H8 _ Ji q8) fun b uj ⟨H9, Jj, q9⟩ => ?_
      -- the turn's end
      have fin : ∀ {s' : Shared} {H' : Hp}, Inv (bblk X ud H3 scope ce fp xb) ([] ++ pinsAt fp uh.heap) σ8 H' s' → Nx H' → ∃ m, m < n ∧ ∃ i H', Inv (bblk X ud H3 scope ce fp xb) [] (wipe σ (own.map (·.2))) H' s' ∧ tn i s'.heap ∧ (∀ b ∈ fp, H' b = none) ∧ Wt i m H' := fun {s' H'} I' nx => by
        obtain ⟨m', hm, w'⟩ := hNx H' nx
        have pin' : ∀ b ∈ fp, ∀ o, uh.heap.get? b = some o → s'.heap.get? b = some o ∧ H' b = none := fun b hb o e =>
          let z := I'.pin (b, o) (List.mem_append_right _ (List.mem_append_right _ (mem_pinsAt hb e)))
          ⟨z.1, z.2.1⟩
        have hl : (wipe σ (own.map (·.2))).length = σ8.length := by rw [← hw8, wipe_length]
        refine ⟨m', hm, i + 1, H', (I'.unpinned (pins := [])).weak hl (fun j v e => ?_), T.keep _ _ _ sG fun b hb o e => (pin' b hb o e).1, fun b hb => ?_, w'⟩
        · rw [← hw8] at e
          exact (wipe_some e).1
        · obtain ⟨o, e, _⟩ := T.obj _ _ sG b hb
          exact (pin' b hb o e).2
      cases b with
      | false =>
        simp only [Bool.false_eq_true, if_false] at q9 ⊢
        exact fin Jj q9
      | true =>
        simp only [if_true] at q9 ⊢
        refine thnE hxb (pe.run _ uj σ8 H9 _ Jj q9) fun z uk ⟨yv, H10, Jk, r10, acc, hD10, hz10, nx⟩ => ?_
        exact app_ok (X := bblk X ud H3 scope ce fp xb) Jk hD10 hz10 r10 fun ul Jl => fin Jl nx
  exact codeAny_compStart_list walk_ (T.self X.A 0 _ _ _ sD walk_)
theorem pe_bx {W : WX} {elt tg iter : Expr} {ifs : List Expr} {scope : Scope} {own : List (Str × Nat)} {pos : Pos} {wi : TI} {g : TG} {tt : St → TT} {te : St → TE} (hc : X.calm = true) (air : Air X W) (hN : X.N.Nodup) (hi : PI X tg iter wi) (ok : BlkOk X.N X.env.scope scope own)
    (hg : ∀ W1, BlkQ X W1 scope fun X' => PG X' tg g) (ht : ∀ σ, BlkQ X (fun cls d _ H' => W cls d σ H') scope fun X' => PTs X' ifs (tt σ)) (he : ∀ σ, BlkQ X (fun cls d _ H' => W cls d σ H') scope fun X' => PE X' elt (te σ)) (hs : ∀ x, foldedSetIterable iter X.env x = pure x) :
    PE X (.ListComp elt [⟨tg, iter, ifs, 0⟩] scope pos) (fun σ H Q => tLc wi g (tt σ) (te σ) (own.map (·.2)) σ H Q) := by
  refine ⟨fun pins s σ H Q I h => ?_⟩
  rw [eval_ListComp]
  refine bx_core hc air hN I hi ok (hg _) (ht σ) (he σ) hs h fun D C t m H' J q hn f => ⟨m, hn, fun g sb => ?_⟩
  obtain ⟨y0, y1, y2, y3, y4, y5⟩ := f
  exact ⟨.ref D, H', J.turned (t' := t.toks) (fun b o z e => (sb.2 b z).trans e) y0 y1 y3 y4 y5, rfl, q⟩
theorem ps_setBx {i : Nat} {y : Str} {py spos : Pos} {W : WX} {elt tg iter : Expr} {ifs : List Expr} {scope : Scope} {own : List (Str × Nat)} {pos : Pos} {wi : TI} {g : TG} {tt : St → TT} {te : St → TE} (hc : X.calm = true) (air : Air X W) (hN : X.N.Nodup) (hy : X.N[i]? = some y) (hyl : X.env.scope.names.lookup y = some .local)
    (hsw : swapsWith (.ListComp elt [⟨tg, iter, ifs, 0⟩] scope pos) (some (.Name y py)) spos.line X.env = pure true) (hi : PI X tg iter wi) (ok : BlkOk X.N X.env.scope scope own)
    (hg : ∀ W1, BlkQ X W1 scope fun X' => PG X' tg g) (ht : ∀ σ, BlkQ X (fun cls d _ H' => W cls d σ H') scope fun X' => PTs X' ifs (tt σ)) (he : ∀ σ, BlkQ X (fun cls d _ H' => W cls d σ H') scope fun X' => PE X' elt (te σ)) (hs : ∀ x, foldedSetIterable iter X.env x = pure x) :
    PS X (.Assign [.Name y py] (.ListComp elt [⟨tg, iter, ifs, 0⟩] scope pos) spos) (tAsg (fun σ H Q => tLc wi g (tt σ) (te σ) (own.map (·.2)) σ H Q) (gName i)) := by
  refine ⟨fun pins s σ H D I h => ?_⟩
  rw [exec_Assign_Name_used _ _ _ _ hsw]
  refine wpAny_bind (wpAny_standAt (wpAny_bind ?_))
  show wpAny _ X.A (do let _ ← comprehension (.ListComp elt [⟨tg, iter, ifs, 0⟩] scope pos) scope X.env (firstIterPos [⟨tg, iter, ifs, 0⟩] pos) (newList []) false (eval iter X.env) (some (assign (.Name y py) X.env))) _ _ s
  have h : tLc wi g (tt σ) (te σ) (own.map (·.2)) σ H (fun x G => gName i x σ G D.nx) := h
  refine wpAny_bind (thn (bx_core (Qf := fun _ t => SP X pins D .next t) hc air hN I hi ok (hg _) (ht σ) (he σ) hs h fun K C t m G J q hn f => ?_) fun _ t z => wpAny_pure (wpAny_pure z))
  show wpAny _ _ (assign (.Name y py) X.env (.ref K)) _ _ _
  refine wpAny_assign_Name (store_ok2 (v := V.ref K) J hN hy (.inl hyl) rfl (fun t2 J2 ⟨a, sb, ha⟩ => ?_) (.inr hyl))
  obtain ⟨y0, y1, y2, y3, y4, y5⟩ := f
  have ne : C ≠ a := ha.elim (fun z => by rw [z]; exact y1) fun z e => y4 y a z e.symm
  exact ⟨m, hn.sameBut sb ne, fun g3 sb3 => ⟨_, G, J2.turned (t' := t2.toks) (fun b o z e => (sb3.2 b z).trans e) y0 y1 y3 y4 y5, q⟩⟩
end
end L2.Eng

/-! EngD3: the context, calls of defs. -/
namespace L2.Eng
open PySem PySem.Spec PyProof.Rows

theorem set_none_self {ρ : Rho} {i : Nat} (h : ρ[i]? = none ∨ ρ[i]? = some none) : ρ.set i none = ρ := by
  apply List.ext_getElem?
  intro j
  by_cases q : i = j
  · subst q
    rcases h with h | h
    · rw [h]
      have := List.getElem?_eq_none_iff.mp h
      simp [this]
    · rw [h]
      have := (List.getElem?_eq_some_iff.mp h).1
      simp [this]
  · rw [List.getElem?_set_ne q]
theorem its_drop {σ : St} {ρ : Rho} (k : SlotsOk σ ρ) (i : Nat) : ∃ A, (its σ ρ).Perm (A ++ its σ (ρ.set i none)) := by
  cases e : ρ[i]? with
  | none => exact ⟨[], by rw [set_none_self (.inl e)]; exact .refl _⟩
  | some o =>
    cases o with
    | none => exact ⟨[], by rw [set_none_self (.inr e)]; exact .refl _⟩
    | some u =>
      obtain ⟨w, _, p, _⟩ := k.get e
      exact ⟨[(w, u)], p⟩
/-- a thing is laid at the slot that refers to it; what was known there is forgotten -/
theorem Rel.lay {G H : Hp} {ρ : Rho} {τ : List (V × T)} {σ : St} {i : Nat} {v : V} {t : T} (R : Rel G ρ ((v, t) :: τ) σ H) (h : σ[i]? = some (some v)) : Rel G (ρ.set i (some t)) τ σ H := by
  obtain ⟨a, b⟩ := SlotsOk.put t R.slots h
  obtain ⟨A, p⟩ := its_drop R.slots i
  refine ⟨R.same, a, Held.perm (L := (v, t) :: (its σ (ρ.set i none) ++ τ)) ?_ (b.append_right _).symm⟩
  have h2 : Held G H (A ++ (its σ (ρ.set i none) ++ (v, t) :: τ)) := by
    rw [← List.append_assoc]
    exact R.held.perm (p.append_right _)
  exact h2.right.mid
theorem Rel.wipe {G H : Hp} {ρ : Rho} {τ : List (V × T)} {σ : St} (R : Rel G ρ τ σ H) (i : Nat) : Rel G (ρ.set i none) τ σ H := by
  cases e : ρ[i]? with
  | none => rw [set_none_self (.inl e)]; exact R
  | some o =>
    cases o with
    | none => rw [set_none_self (.inr e)]; exact R
    | some u =>
      obtain ⟨v, _, R1⟩ := R.out e
      exact R1.sub (List.sublist_cons_self _ _)

/-! ### calls -/
def spF (Φ : Fx) (K : PySem.W.Frag) (mg : Str → Option Value) (f : Str) (np : Nat) : Sp := fun vs H Q E => ∃ G ts τ, Same G H ∧ Held G H (vs.zip ts ++ τ) ∧ vs.length = np ∧ ts.length = np ∧
  match Φ.call f ts with
  | .ok t us => us.length = np → ∀ v G' H', Same G G' → Same G' H' → Held G' H' ((v, t) :: (vs.zip us ++ τ)) → Q v H'
  | .exc x us => us.length = np → ∀ cls d G' H', ExOk K mg x cls d G' H' → Same G G' → Same G' H' → Held G' H' (vs.zip us ++ τ) → E cls d H'
  | .no => False
/-- the class that a name stands for -/
def clsOf (mg : Str → Option Value) (h : Str) : Option Value := match mg h with
  | some c => some c
  | none => bootBuiltins h
abbrev excMro : List Value := [.type "ValueError", .type "Exception", .type "BaseException", .type "object"]
/-- what a def promises where it is called with the exception that is handled: d, whatever the heap -/
structure FnX (P : Program) (w : World) (K : PySem.W.Frag) (mg : Str → Option Value) (base : Heap) (k : Nat) (f : Addr) (fd : FuncData) (ps : List Str) (cls : Value) (d : D) : Prop where
  len : ps.length = 1
  run : ∀ (A : Around) (outer : List Env) (s : Shared) (H : Hp) (args : Args) (Q : VK) (p : Addr × Obj), L2H.RoomH k A → L2H.Hot1 A p → Zc cls none p.2 → L2H.PinOk outer H s p → Env0 P w K mg base A outer s H →
    BindsTo s fd args (ps.zip [Value.ref p.1]) → (∀ v H', scV d = some v → Same H H' → Q v H') → codeAny (model P w) A (.call (.ref f) args) (L2.CR (L2N.CX P w) outer P w H s Q fun _ _ _ => False) s
structure FnsOk (Φ : Fx) (tb : Tbl) (P : Program) (w : World) (K : PySem.W.Frag) (mg : Str → Option Value) (base : Heap) (k : Nat) : Prop where
  bl : ∀ x, x ∈ tb.bls → mg x = none
  gl : ∀ x d, tb.gls.lookup x = some d → ∃ u, mg x = some u ∧ ∀ z, scV d = some z → RelV z u
  fn : ∀ f np dfl, tb.fns.lookup f = some (np, dfl) → ∃ a fd ps, mg f = some (.ref a) ∧ PySem.W.keepIn K (.ref a) = true ∧ ps.length = np ∧ FnOk P w K mg base (L2N.CX P w) k a fd ps (spF Φ K mg f np) ∧
    ∀ j, j ≤ dfl.length → ∃ us zs, Paired (fun z d => scV d = some z) zs (dfl.drop j) ∧ Vals zs us ∧ Binds K fd ps us
  ex : ∀ x, x ∈ tb.excs → ∃ C, mg x = some (.ref C) ∧ PySem.W.excIn K C excMro "ValueError.__new__" = true ∧ PySem.W.keepIn K (.ref C) = true ∧ PySem.W.subIn K (.ref C) (.type "BaseException") = some true ∧ PySem.W.typeIn K (.ref C) = some (.type "type")
  hd : ∀ h, h ∈ tb.hds → ∃ c, clsOf mg h = some c
  sb : ∀ x h b cls c, Φ.sub x h = some b → mg x = some cls → clsOf mg h = some c → PySem.W.exmOne K cls c = some b
  hot : ∀ f x d, Φ.hot f x = some d → ∃ a fd ps cls, mg f = some (.ref a) ∧ mg x = some cls ∧ PySem.W.keepIn K (.ref a) = true ∧ Binds K fd ps [] ∧ FnX P w K mg base k a fd ps cls d
  ix : ∀ x c b, Φ.isx x c = some b → mg "isinstance" = none ∧ ∃ D cc cv, mg x = some (.ref D) ∧ ExcC K D ∧ clsOf mg c = some cv ∧ RelV cc cv ∧ (∀ u, RelV cc u → u = cv) ∧ PySem.W.kitOne K (.ref D) cv = some b
structure ScpOk (sc : Scope) (X : Cx) : Prop where
  vis : ∀ x, visB sc x = true → Vis X.env.scope x
  gl : ∀ x, glbB sc x = true → Gl X x
  loc : ∀ x, locB sc x = true → Loc X.env.scope x ∧ (X.fn x = true ∨ X.env.scope.names.lookup x = some .local)
  free : ∀ x, sc.names.lookup x = some .cell ∨ sc.names.lookup x = some .free → X.env.scope.names.lookup x = some .cell ∨ X.env.scope.names.lookup x = some .free
structure XOk (Φ : Fx) (W : WX) (c : Ctx) (X : Cx) : Prop where
  hN : X.N = c.N
  nd : c.N.Nodup
  scp : ScpOk c.sc X
  calm : X.calm = true
  hu : X.A.units + 68 < cLine
  tk : L2N.Takes X W
  air : Air X W
  mod : ∃ k, Room k X.A ∧ FnsOk Φ c.tb X.prog X.w X.K X.mg X.base k

def tmps : List Opd → List V → List (V × T)
  | .tmp t :: os, v :: vs => (v, t) :: tmps os vs
  | .sl _ :: os, _ :: vs => tmps os vs
  | _, _ => []
theorem pushes_perm : ∀ (os : List Opd) (vs : List V) (τ : List (V × T)), (pushes os vs τ).Perm (tmps os vs ++ τ)
  | .tmp t :: os, v :: vs, τ => by
    refine (pushes_perm os vs ((v, t) :: τ)).trans ?_
    exact List.perm_middle
  | .sl i :: os, v :: vs, τ => pushes_perm os vs τ
  | [], [], τ => .refl _
  | [], _ :: _, τ => .refl _
  | .tmp t :: _, [], τ => .refl _
  | .sl t :: _, [], τ => .refl _
theorem takeA_ok {G H : Hp} {σ : St} : ∀ {os : List Opd} {vs : List V} {ρ ρ' : Rho} {B : List (V × T)} {ts : List T}, Rel G ρ (tmps os vs ++ B) σ H → ats os vs σ → takeA os ρ = some (ts, ρ') →
    Rel G ρ' (vs.zip ts ++ B) σ H ∧ ts.length = os.length
  | [], [], ρ, ρ', B, ts, R, a, e => by
    cases e
    exact ⟨R, rfl⟩
  | .tmp t :: os, v :: vs, ρ, ρ', B, ts, R, a, e => by
    simp only [takeA] at e
    cases q : takeA os ρ with
    | none => rw [q] at e; cases e
    | some z =>
      rw [q] at e
      cases e
      have R1 : Rel G ρ (tmps os vs ++ (v, t) :: B) σ H := R.perm List.perm_middle.symm
      obtain ⟨R2, l⟩ := takeA_ok (ρ' := z.2) (ts := z.1) R1 a.2 q
      exact ⟨R2.perm List.perm_middle, by simp [l]⟩
  | .sl i :: os, v :: vs, ρ, ρ', B, ts, R, a, e => by
    simp only [takeA] at e
    have av : σ[i]? = some (some v) := a.1
    cases q0 : slotT ρ i with
    | none => rw [q0] at e; cases e
    | some t =>
      rw [q0] at e
      have hs := slotT_some q0
      cases t with
      | fz d =>
        simp only at e
        cases q : takeA os ρ with
        | none => rw [q] at e; cases e
        | some z =>
          rw [q] at e
          cases e
          obtain ⟨w, e1, h⟩ := R.slot hs
          rw [av] at e1
          cases e1
          have R1 : Rel G ρ (tmps os vs ++ (v, .fz d) :: B) σ H := (R.addFz h.fz).perm List.perm_middle.symm
          obtain ⟨R2, l⟩ := takeA_ok (ρ' := z.2) (ts := z.1) R1 a.2 q
          exact ⟨R2.perm List.perm_middle, by simp [l]⟩
      | ol ds =>
        simp only at e
        cases q : takeA os (ρ.set i none) with
        | none => rw [q] at e; cases e
        | some z =>
          rw [q] at e
          cases e
          obtain ⟨w, e1, R0⟩ := R.out hs
          rw [av] at e1
          cases e1
          have R1 : Rel G (ρ.set i none) (tmps os vs ++ (v, .ol ds) :: B) σ H := R0.perm List.perm_middle.symm
          obtain ⟨R2, l⟩ := takeA_ok (ρ' := z.2) (ts := z.1) R1 a.2 q
          exact ⟨R2.perm List.perm_middle, by simp [l]⟩
      | od bb ds =>
        simp only at e
        cases q : takeA os (ρ.set i none) with
        | none => rw [q] at e; cases e
        | some z =>
          rw [q] at e
          cases e
          obtain ⟨w, e1, R0⟩ := R.out hs
          rw [av] at e1
          cases e1
          have R1 : Rel G (ρ.set i none) (tmps os vs ++ (v, .od bb ds) :: B) σ H := R0.perm List.perm_middle.symm
          obtain ⟨R2, l⟩ := takeA_ok (ρ' := z.2) (ts := z.1) R1 a.2 q
          exact ⟨R2.perm List.perm_middle, by simp [l]⟩
      | lk bb ds =>
        simp only at e
        cases q : takeA os (ρ.set i none) with
        | none => rw [q] at e; cases e
        | some z =>
          rw [q] at e
          cases e
          obtain ⟨w, e1, R0⟩ := R.out hs
          rw [av] at e1
          cases e1
          have R1 : Rel G (ρ.set i none) (tmps os vs ++ (v, .lk bb ds) :: B) σ H := R0.perm List.perm_middle.symm
          obtain ⟨R2, l⟩ := takeA_ok (ρ' := z.2) (ts := z.1) R1 a.2 q
          exact ⟨R2.perm List.perm_middle, by simp [l]⟩
  | [], _ :: _, _, _, _, _, _, a, _ => a.elim
  | _ :: _, [], _, _, _, _, _, a, _ => a.elim
theorem putA_ok {G H : Hp} {σ : St} : ∀ {os : List Opd} {vs : List V} {ts us : List T} {ρ : Rho} {B : List (V × T)}, Rel G ρ (vs.zip us ++ B) σ H → ats os vs σ → ts.length = os.length → us.length = os.length →
    Rel G (putA os ts us ρ) B σ H
  | [], [], _, _, ρ, B, R, a, l1, l2 => R
  | .tmp t :: os, v :: vs, t0 :: ts, u :: us, ρ, B, R, a, l1, l2 => by
    have R1 : Rel G ρ (vs.zip us ++ B) σ H := R.sub (List.sublist_cons_self _ _)
    have := putA_ok (os := os) (ts := ts) (us := us) R1 a.2 (by simpa using l1) (by simpa using l2)
    simpa only [putA] using this
  | .sl i :: os, v :: vs, t0 :: ts, u :: us, ρ, B, R, a, l1, l2 => by
    have av : σ[i]? = some (some v) := a.1
    cases t0 with
    | fz d =>
      have R1 : Rel G ρ (vs.zip us ++ B) σ H := R.sub (List.sublist_cons_self _ _)
      have := putA_ok (os := os) (ts := ts) (us := us) R1 a.2 (by simpa using l1) (by simpa using l2)
      simpa only [putA] using this
    | ol ds =>
      have R1 : Rel G (ρ.set i (some u)) (vs.zip us ++ B) σ H := Rel.lay R av
      have := putA_ok (os := os) (ts := ts) (us := us) R1 a.2 (by simpa using l1) (by simpa using l2)
      simpa only [putA] using this
    | od _ ds =>
      have R1 : Rel G (ρ.set i (some u)) (vs.zip us ++ B) σ H := Rel.lay R av
      have := putA_ok (os := os) (ts := ts) (us := us) R1 a.2 (by simpa using l1) (by simpa using l2)
      simpa only [putA] using this
    | lk _ ds =>
      have R1 : Rel G (ρ.set i (some u)) (vs.zip us ++ B) σ H := Rel.lay R av
      have := putA_ok (os := os) (ts := ts) (us := us) R1 a.2 (by simpa using l1) (by simpa using l2)
      simpa only [putA] using this
  | [], _ :: _, _, _, _, _, _, a, _, _ => a.elim
  | _ :: _, [], _, _, _, _, _, a, _, _ => a.elim
  | _ :: _, _ :: _, [], _, _, _, _, _, l1, _ => by simp at l1
  | _ :: _, _ :: _, _ :: _, [], _, _, _, _, _, l2 => by simp at l2
theorem ats_len : ∀ {os : List Opd} {vs : List V} {σ : St}, ats os vs σ → os.length = vs.length
  | [], [], _, _ => rfl
  | o :: os, v :: vs, σ, a => congrArg (· + 1) (ats_len a.2)
  | [], _ :: _, _, a => a.elim
  | _ :: _, [], _, a => a.elim
theorem putA_more : ∀ {os : List Opd} {ts us xs ys : List T} {ρ : Rho}, ts.length = os.length → us.length = os.length → putA os (ts ++ xs) (us ++ ys) ρ = putA os ts us ρ
  | [], _, _, _, _, _, _, _ => by simp [putA]
  | .tmp t :: os, t0 :: ts, u :: us, xs, ys, ρ, l1, l2 => by
    simp only [List.cons_append, putA]
    exact putA_more (by simpa using l1) (by simpa using l2)
  | .sl i :: os, t0 :: ts, u :: us, xs, ys, ρ, l1, l2 => by
    cases t0 with
    | fz d => simp only [List.cons_append, putA]; exact putA_more (by simpa using l1) (by simpa using l2)
    | ol d => simp only [List.cons_append, putA]; exact putA_more (by simpa using l1) (by simpa using l2)
    | od _ d => simp only [List.cons_append, putA]; exact putA_more (by simpa using l1) (by simpa using l2)
    | lk _ d => simp only [List.cons_append, putA]; exact putA_more (by simpa using l1) (by simpa using l2)
  | _ :: _, [], _, _, _, _, l1, _ => by simp at l1
  | _ :: _, _ :: _, [], _, _, _, _, l2 => by simp at l2
/-- what a call asks -/
theorem spF_of {Φ : Fx} {X : Cx} {f : Str} {np : Nat} {os : List Opd} {vs zs : List V} {ds : List D} {G H : Hp} {ρ : Rho} {τ : List (V × T)} {σ : St} {Q : VK} {E : XK}
    (R : Rel G ρ (pushes os vs τ) σ H) (a : ats os vs σ) (hz : Paired (fun z d => scV d = some z) zs ds) (hn : os.length + ds.length = np)
    (h : wpR (callF Φ f os ds ρ) (fun t ρ' => ∀ v G' H', Same G G' → Rel G' ρ' ((v, t) :: τ) σ H' → Q v H') (fun x ρ' => ∀ cls d G' H', ExOk X.K X.mg x cls d G' H' → Same G G' → Rel G' ρ' τ σ H' → E cls d H')) :
    spF Φ X.K X.mg f np (vs ++ zs) H Q E := by
  unfold callF at h
  cases q : takeA os ρ with
  | none => rw [q] at h; exact h.elim
  | some z =>
    obtain ⟨ts, ρ'⟩ := z
    rw [q] at h
    simp only at h
    obtain ⟨R1, l⟩ := takeA_ok (R.perm (pushes_perm os vs τ)) a q
    have lv := ats_len a
    have lz : zs.length = ds.length := Paired.length hz
    have zipped : ∀ us : List T, us.length = np → (vs ++ zs).zip us = vs.zip (us.take os.length) ++ zs.zip (us.drop os.length) := fun us hu => by
      have e : us = us.take os.length ++ us.drop os.length := (List.take_append_drop _ _).symm
      conv => lhs; rw [e]
      rw [List.zip_append (by rw [List.length_take]; omega)]
    have rz : ∀ {zs : List V} {ds : List D}, Paired (fun z d => scV d = some z) zs ds → RqAll G zs ds := fun {zs ds} hz => by
      induction hz with
      | nil => exact .nil
      | cons e _ ih =>
        rename_i z d _ _ _
        refine .cons ?_ ih
        cases d <;> cases e
        · exact .non
        · exact .bl _
        · exact .int _
        · exact .str _
    have hT : (ts ++ ds.map T.fz).length = np := by rw [List.length_append, List.length_map]; omega
    refine ⟨G, ts ++ ds.map T.fz, its σ ρ' ++ τ, R1.same, ?_, by rw [List.length_append]; omega, hT, ?_⟩
    · rw [zipped _ hT, List.take_left' (by omega), List.drop_left' (by omega)]
      have h1 : Held G H (zs.zip (ds.map T.fz) ++ (its σ ρ' ++ (vs.zip ts ++ τ))) := R1.held.addAll (rz hz)
      refine h1.perm ?_
      rw [List.append_assoc]
      exact (List.Perm.append_left _ (List.perm_append_comm_assoc _ _ _)).trans (List.perm_append_comm_assoc _ _ _)
    · have back : ∀ {us : List T} {G' H' : Hp} {A : List (V × T)}, us.length = np → Same G' H' → Held G' H' (A ++ ((vs ++ zs).zip us ++ (its σ ρ' ++ τ))) → Rel G' (putA os ts us ρ') (A ++ τ) σ H' := fun {us G' H' A} hu s2 hh => by
        have hh2 : Held G' H' (its σ ρ' ++ (vs.zip (us.take os.length) ++ (A ++ τ))) := by
          rw [zipped us hu] at hh
          have h3 : Held G' H' (zs.zip (us.drop os.length) ++ (its σ ρ' ++ (vs.zip (us.take os.length) ++ (A ++ τ)))) := by
            refine hh.perm ?_
            rw [List.append_assoc]
            refine (List.Perm.append_left _ (List.perm_append_comm_assoc _ _ _)).trans ?_
            refine (List.perm_append_comm_assoc _ _ _).trans (List.Perm.append_left _ ?_)
            refine (List.Perm.append_left _ (List.perm_append_comm_assoc _ _ _)).trans ?_
            refine (List.perm_append_comm_assoc _ _ _).trans (List.Perm.append_left _ ?_)
            exact List.perm_append_comm_assoc _ _ _
          exact h3.right
        have Rn : Rel G' ρ' (vs.zip (us.take os.length) ++ (A ++ τ)) σ H' := ⟨s2, R1.slots, hh2⟩
        have := putA_ok (os := os) (ts := ts) (us := us.take os.length) Rn a l (by rw [List.length_take]; omega)
        have e : us = us.take os.length ++ us.drop os.length := (List.take_append_drop _ _).symm
        have e2 : putA os ts us ρ' = putA os ts (us.take os.length) ρ' := by
          have q3 := putA_more (os := os) (ts := ts) (us := us.take os.length) (xs := []) (ys := us.drop os.length) (ρ := ρ') l (by rw [List.length_take]; omega)
          rw [← e, List.append_nil] at q3
          exact q3
        rw [e2]
        exact this
      cases hc : Φ.call f (ts ++ ds.map T.fz) with
      | ok t us =>
        rw [hc] at h
        simp only at h ⊢
        intro hu v G' H' s1 s2 hh
        exact h v G' H' s1 (back (A := [(v, t)]) hu s2 hh)
      | exc x us =>
        rw [hc] at h
        simp only at h ⊢
        intro hu cls d G' H' e s1 s2 hh
        exact h cls d G' H' e s1 (back (A := []) hu s2 hh)
      | no =>
        rw [hc] at h
        exact h.elim
end L2.Eng

/-! EngD4: expressions, one by one. -/
namespace L2.Eng
open PySem PySem.Spec PyProof.Rows

theorem nameOk_split {c : Ctx} {i : Nat} {x : Str} (h : c.nameOk i x = true) : c.N[i]? = some x ∧ visB c.sc x = true ∧ noDbg x = true := by
  unfold Ctx.nameOk at h
  simp only [Bool.and_eq_true, decide_eq_true_eq] at h
  exact ⟨h.1.1, h.1.2, h.2⟩
theorem noDbg_split {x : Str} (h : noDbg x = true) : (x == ("__debug__" : Str)) = false ∧ (x == ("__classdict__" : Str)) = false ∧ x ≠ "__name__" := by
  unfold noDbg at h
  simp only [Bool.and_eq_true, Bool.not_eq_true', decide_eq_false_iff_not] at h
  exact ⟨h.1.1, h.1.2, h.2⟩
theorem bltOk_split {c : Ctx} {x : Str} (h : c.bltOk x = true) : glbB c.sc x = true ∧ noDbg x = true ∧ x ∈ c.tb.bls := by
  unfold Ctx.bltOk at h
  simp only [Bool.and_eq_true, decide_eq_true_eq] at h
  exact ⟨h.1.1, h.1.2, h.2⟩
theorem star1 {e : Expr} (h : noStar e = true) (es : List Expr) (env : Env) : starEach (e :: es) env = (false, eval e env) :: starEach es env := by
  cases e <;> first | rfl | cases h
theorem ckEs_star {c : Ctx} : ∀ {es : Es} {xs : List Expr}, ckEs c es xs = true → ∀ x ∈ xs, noStar x = true
  | .nil, [], _ => fun x h => nomatch h
  | .cons e es, x :: xs, h => by
    simp only [ckEs, Bool.and_eq_true] at h
    intro y hy
    rcases List.mem_cons.mp hy with rfl | hy
    · exact h.1.2
    · exact ckEs_star h.2 y hy
  | .nil, _ :: _, h => by simp [ckEs] at h
  | .cons _ _, [], h => by simp [ckEs] at h
theorem ckEs_len {c : Ctx} : ∀ {es : Es} {xs : List Expr}, ckEs c es xs = true → xs.length = es.len
  | .nil, [], _ => rfl
  | .cons e es, x :: xs, h => by
    simp only [ckEs, Bool.and_eq_true] at h
    exact congrArg (· + 1) (ckEs_len h.2)
  | .nil, _ :: _, h => by simp [ckEs] at h
  | .cons _ _, [], h => by simp [ckEs] at h
theorem plainAll {pos : Pos} {env : Env} : ∀ {xs : List Expr}, (∀ x ∈ xs, noStar x = true) → (backTo pos (starEach xs env)).any (·.1) = false
  | [], _ => rfl
  | x :: xs, h => by
    rw [star1 (h x (List.mem_cons_self ..))]
    show (false || (backTo pos (starEach xs env)).any (·.1)) = false
    rw [plainAll fun y hy => h y (List.mem_cons_of_mem _ hy)]
    rfl
section
variable {Φ : Fx} {W : WX} {c : Ctx} {X : Cx}
theorem XOk.blt (ok : XOk Φ W c X) {x : Str} (h : c.bltOk x = true) : Gl X x ∧ X.mg x = none ∧ (x == ("__debug__" : Str)) = false ∧ x ≠ "__name__" := by
  obtain ⟨h1, h2, h3⟩ := bltOk_split h
  obtain ⟨k, _, m⟩ := ok.mod
  exact ⟨ok.scp.gl x h1, m.bl x h3, (noDbg_split h2).1, (noDbg_split h2).2.2⟩

/-! ### names, constants -/
theorem d_var (ok : XOk Φ W c X) {i : Nat} {x : Str} {pos : Pos} (h : c.nameOk i x = true) : PE X (.Name x pos) (tVar i) := by
  obtain ⟨h1, h2, h3⟩ := nameOk_split h
  exact pe_var (by rw [ok.hN]; exact h1) (ok.scp.vis x h2) (noDbg_split h3).1 (noDbg_split h3).2.1
theorem d_nm (ok : XOk Φ W c X) {i : Nat} {x : Str} {pos : Pos} (h : c.nameOk i x = true) : PE X (.Name x pos) (tO X W (ev2 Φ (.nm i)).1) := by
  refine (d_var ok h).weak fun σ H Q ⟨G, ρ, τ, R, h⟩ => ?_
  simp only [ev2, dfl] at h
  cases q : slotT ρ i with
  | none => rw [q] at h; exact h.elim
  | some t =>
    rw [q] at h
    obtain ⟨v, e, _⟩ := R.slot (slotT_some q)
    exact ⟨v, e, h v G H (Same.refl _) R e⟩
theorem d_mv (ok : XOk Φ W c X) {i : Nat} {x : Str} {pos : Pos} (h : c.nameOk i x = true) : PE X (.Name x pos) (tO X W (ev2 Φ (.mv i)).1) := by
  refine (d_var ok h).weak fun σ H Q ⟨G, ρ, τ, R, h⟩ => ?_
  simp only [ev2, dfl] at h
  exact h.elim
theorem d_take (ok : XOk Φ W c X) {i : Nat} {x : Str} {pos : Pos} (h : c.nameOk i x = true) : PE X (.Name x pos) (tT X W (takeSlot i)) := by
  refine (d_var ok h).weak fun σ H Q ⟨G, ρ, τ, R, h⟩ => ?_
  unfold takeSlot at h
  cases q : slotT ρ i with
  | none => rw [q] at h; exact h.elim
  | some t =>
    rw [q] at h
    simp only [Option.bind_some] at h
    cases e : t.view with
    | none => rw [e] at h; exact h.elim
    | some d =>
      rw [e] at h
      obtain ⟨v, ev, R1⟩ := R.out (slotT_some q)
      obtain ⟨G', s1, R2⟩ := R1.freeze e
      have R3 := Rel.lay (R2.addFz R2.fz) ev
      rw [List.set_set] at R3
      exact ⟨v, ev, h v G' H s1 R3⟩
theorem d_move (ok : XOk Φ W c X) {i : Nat} {x : Str} {pos : Pos} (h : c.nameOk i x = true) : PE X (.Name x pos) (tT X W (moveSlot i)) := by
  refine (d_var ok h).weak fun σ H Q ⟨G, ρ, τ, R, h⟩ => ?_
  unfold moveSlot at h
  cases q : slotT ρ i with
  | none => rw [q] at h; exact h.elim
  | some t =>
    rw [q] at h
    obtain ⟨v, ev, R1⟩ := R.out (slotT_some q)
    exact ⟨v, ev, h v G H (Same.refl _) R1⟩
theorem d_const {e : Expr} {v : V} {d : D} (h : PE X e (tC v)) (r : ∀ G, Rq G v d) : PE X e (tO X W fun ρ => .ok (.tmp (.fz d)) ρ) :=
  h.weak fun σ H Q ⟨G, ρ, τ, R, h⟩ => h v G H (Same.refl _) (R.addFz (r G)) trivial
theorem scV_rq {d : D} {z : V} (e : scV d = some z) (G : Hp) : Rq G z d := by
  cases d <;> cases e
  · exact .non
  · exact .bl _
  · exact .int _
  · exact .str _
theorem d_glb (ok : XOk Φ W c X) {x : Str} {d : D} {pos : Pos} (hg : glbB c.sc x = true) (hd : noDbg x = true) (hf : flatD d = true) (hl : c.tb.gls.lookup x = some d) : PE X (.Name x pos) (tO X W fun ρ => .ok (.tmp (.fz d)) ρ) := by
  obtain ⟨k, _, m⟩ := ok.mod
  obtain ⟨u, hm, hr⟩ := m.gl x d hl
  obtain ⟨z, e⟩ := scV_flat hf
  exact d_const (pe_glob (ok.scp.gl x hg) hm (hr z e) (noDbg_split hd).1) (scV_rq e)
/-! ### taken, frozen -/
theorem d_tmp {e : Expr} {o : Rho → R Opd} (h : PE X e (tO X W o)) : PE X e (tT X W fun ρ => (o ρ).bind fun x ρ1 => match x with | .tmp t => .ok t ρ1 | .sl _ => .no) :=
  h.weak fun σ H Q ⟨G, ρ, τ, R, h⟩ => by
    rw [wpR_bind] at h
    refine tO.step R h (fun _ _ z => z) fun o ρ' v G' H' p s1 R1 a => ?_
    cases o with
    | tmp t => exact p v G' H' s1 R1
    | sl i => exact p.elim
theorem d_asT (ok : XOk Φ W c X) {a : E} {e : Expr} (hc : ckE c a e = true) (h : PE X e (tO X W (ev2 Φ a).1)) : PE X e (tT X W (asT a (ev2 Φ a).1)) := by
  cases a with
  | nm i =>
    cases e <;> simp only [ckE] at hc <;> try contradiction
    exact d_take ok hc
  | mv i =>
    cases e <;> simp only [ckE] at hc <;> try contradiction
    exact d_move ok hc
  | _ => exact d_tmp h
theorem d_frz {e : Expr} {f : Rho → R T} (h : PE X e (tT X W f)) : PE X e (tD X W fun ρ => frz (f ρ)) :=
  h.weak fun σ H Q ⟨G, ρ, τ, R, h⟩ => by
    unfold frz at h
    rw [wpR_bind] at h
    refine tT.step R h (fun _ _ z => z) fun t ρ' v G' H' p s1 R1 => ?_
    obtain ⟨d, e, p⟩ := wpR_of p
    obtain ⟨G2, s2, R2⟩ := R1.freeze e
    exact p v G2 H' (s1.trans s2) (R2.sub (List.sublist_cons_self _ _)) R2.fz
/-! ### truth -/
theorem d_truth {e : Expr} {o : Rho → R Opd} (h : PE X e (tO X W o)) (he : plainT e = true) : PT X e (tK X W (dfl o).2) := by
  have hp : ∀ whole, isTrue e X.env whole = (do let v ← whole; standAt e.pos; holding [v] (truthy v)) := by
    intro whole
    cases e <;> first | rfl | cases he | skip
    case UnaryOp op x p => cases op <;> first | rfl | cases he
  refine (pt_truth h hp).weak fun σ H Q ⟨G, ρ, τ, R, h⟩ => ?_
  simp only [dfl] at h
  rw [wpR_bind] at h
  refine tO.step R h (fun _ _ z => z) fun o ρ' v G' H' p s1 R1 a => ?_
  obtain ⟨k, e, p⟩ := wpR_of p
  cases ed : o.see ρ' with
  | none => rw [ed] at e; cases e
  | some d =>
    rw [ed] at e
    have w : Vw G' H' v d := Opd.vw (A := []) R1 a ed
    exact ⟨k, w.truth R1.same e, p G' H' s1 (R1.sub (Opd.sub _ _ _))⟩
/-! ### operators -/
theorem bind2 {α : Type} {x y : Option D} {f : D → D → Option α} {a : α} (h : (x.bind fun d => y.bind fun e => f d e) = some a) : ∃ d e, x = some d ∧ y = some e ∧ f d e = some a := by
  cases x with
  | none => cases h
  | some d => cases y with
    | none => cases h
    | some e => exact ⟨d, e, rfl, rfl, h⟩
theorem Opd.vw2 {G H : Hp} {ρ : Rho} {τ : List (V × T)} {σ : St} {o p : Opd} {v w : V} {d : D} (R : Rel G ρ (p.push w (o.push v τ)) σ H) (a : o.at_ v σ) (e : o.see ρ = some d) : Vw G H v d := by
  cases p with
  | tmp t => exact Opd.vw (A := [(w, t)]) R a e
  | sl i => exact Opd.vw (A := []) R a e
theorem Opd.sub2 (o p : Opd) (v w : V) (τ : List (V × T)) : τ.Sublist (p.push w (o.push v τ)) := (Opd.sub o v τ).trans (Opd.sub p w _)
/-- two operands, one behind the other -/
theorem d_two {a b : Expr} {oa ob : Rho → R Opd} {K : V → V → Hp → Prop} {G H : Hp} {ρ : Rho} {τ : List (V × T)} {σ : St} {P : Opd → Opd → Rho → Prop}
    (R : Rel G ρ τ σ H) (h : wpR (oa ρ) (fun x ρ1 => wpR (ob ρ1) (fun y ρ2 => P x y ρ2) (ExP X W G τ σ)) (ExP X W G τ σ))
    (k : ∀ x y v w ρ2 G2 H2, P x y ρ2 → Same G G2 → Rel G2 ρ2 (y.push w (x.push v τ)) σ H2 → x.at_ v σ → y.at_ w σ → K v w H2) :
    tO X W oa σ H fun v H1 => tO X W ob σ H1 fun w H2 => K v w H2 := by
  refine tO.step R h (fun _ _ z => z) fun x ρ1 v G1 H1 p s1 R1 a1 => ?_
  refine tO.step R1 p (fun _ _ z => z.mono s1 (Opd.sub _ _ _)) fun y ρ2 w G2 H2 q s2 R2 a2 => ?_
  exact k x y v w ρ2 G2 H2 q (s1.trans s2) R2 a1 a2
theorem d_bin (op : Operator) {a b : Expr} {oa ob : Rho → R Opd} {pos : Pos} (ha : PE X a (tO X W oa)) (hb : PE X b (tO X W ob)) :
    PE X (.BinOp a op b pos) (tO X W fun ρ => (oa ρ).bind fun x ρ1 => (ob ρ1).bind fun y ρ2 => R.of ((x.see ρ2).bind fun d => (y.see ρ2).bind fun e => (binD op d e).map Opd.tmp) ρ2) := by
  refine (pe_op (op_bin op) ha hb).weak fun σ H Q ⟨G, ρ, τ, R, h⟩ => ?_
  simp only [wpR_bind] at h
  refine d_two (a := a) (b := b) R h fun x y v w ρ2 G2 H2 p s R2 a1 a2 => ?_
  obtain ⟨o, e, p⟩ := wpR_of p
  obtain ⟨d, f, e1, e2, e⟩ := bind2 e
  cases eb : binD op d f with
  | none => rw [eb] at e; cases e
  | some t =>
    rw [eb] at e
    cases e
    refine ⟨G2, d, f, t, R2.same, Opd.vw2 R2 a1 e1, Opd.vw (A := []) R2 a2 e2, eb, fun v' H' n => ?_⟩
    obtain ⟨G3, s3, R3⟩ := (R2.sub (Opd.sub2 _ _ _ _ _)).new n
    exact p v' G3 H' (s.trans s3) R3 trivial
theorem noSet_in {e : Expr} (h : noSet e = true) (op : CmpOp) : behindInMarks op e = false := by
  cases e <;> first | rfl | cases h
theorem d_cmpK {op : CmpOp} {a b : Expr} {oa ob : Rho → R Opd} {G H : Hp} {ρ : Rho} {τ : List (V × T)} {σ : St} {P : Bool → Rho → Prop} {K : VK}
    (R : Rel G ρ τ σ H) (h : wpR (cmpB op oa ob ρ) P (ExP X W G τ σ)) (k : ∀ b ρ2 G2 H2, P b ρ2 → Same G G2 → Rel G2 ρ2 τ σ H2 → K (.bl b) H2) : tOp (rCmp op) (tO X W oa) (tO X W ob) σ H K := by
  simp only [cmpB, wpR_bind] at h
  refine d_two (a := a) (b := b) R h fun x y v w ρ2 G2 H2 p s R2 a1 a2 => ?_
  obtain ⟨o, e, p⟩ := wpR_of p
  obtain ⟨d, f, e1, e2, e⟩ := bind2 e
  exact ⟨G2, d, f, o, R2.same, Opd.vw2 R2 a1 e1, Opd.vw (A := []) R2 a2 e2, e, k o ρ2 G2 H2 p s (R2.sub (Opd.sub2 _ _ _ _ _))⟩
theorem d_cmp (ok : XOk Φ W c X) (op : CmpOp) {a b : Expr} {oa ob : Rho → R Opd} {pos : Pos} (ha : PE X a (tO X W oa)) (hb : PE X b (tO X W ob)) (hs : noSet b = true) :
    PE X (.Compare a [op] [b] pos) (tO X W fun ρ => ofB (cmpB op oa ob ρ)) ∧ PT X (.Compare a [op] [b] pos) (tK X W (cmpB op oa ob)) := by
  have hu := ok.hu
  refine ⟨(pe_cmpR (op_cmp (by omega) op) ha hb (noSet_in hs op)).weak fun σ H Q ⟨G, ρ, τ, R, h⟩ => ?_, (pt_cmpR (op_cmp (by omega) op) ha hb (noSet_in hs op)).weak fun σ H Q ⟨G, ρ, τ, R, h⟩ => ?_⟩
  · simp only [ofB, wpR_map] at h
    exact d_cmpK (a := a) (b := b) R h fun b ρ2 G2 H2 p s R2 => p _ G2 H2 s (R2.addFz (.bl b)) trivial
  · exact d_cmpK (a := a) (b := b) R h fun b ρ2 G2 H2 p s R2 => ⟨b, rfl, p G2 H2 s R2⟩
end
end L2.Eng

/-! EngD5: more expressions. -/
namespace L2.Eng
open PySem PySem.Spec PyProof.Rows

section
variable {Φ : Fx} {W : WX} {c : Ctx} {X : Cx}
theorem d_neg {a : Expr} {oa : Rho → R Opd} {pos : Pos} (ha : PE X a (tO X W oa)) :
    PE X (.UnaryOp .USub a pos) (tO X W fun ρ => (oa ρ).bind fun x ρ1 => R.of ((x.see ρ1).bind fun d => (negD d).map fun e => .tmp (.fz e)) ρ1) := by
  refine (pe_un un_neg ha).weak fun σ H Q ⟨G, ρ, τ, R, h⟩ => ?_
  rw [wpR_bind] at h
  refine tO.step R h (fun _ _ z => z) fun x ρ1 v G1 H1 p s1 R1 a1 => ?_
  obtain ⟨o, e, p⟩ := wpR_of p
  cases ed : x.see ρ1 with
  | none => rw [ed] at e; cases e
  | some d =>
    rw [ed] at e
    cases d with
    | int i =>
      cases e
      have w : Vw G1 H1 v (.int i) := Opd.vw (A := []) R1 a1 ed
      exact ⟨i, w.int, p (.int (-i)) G1 H1 s1 ((R1.sub (Opd.sub _ _ _)).addFz (.int _)) trivial⟩
    | _ => cases e
theorem d_chnK {o1 o2 : CmpOp} {a b : Expr} {oa ob oc : Rho → R Opd} {G H : Hp} {ρ : Rho} {τ : List (V × T)} {σ : St} {P : Bool → Rho → Prop} {K : VK}
    (R : Rel G ρ τ σ H) (h : wpR (chnB o1 o2 oa ob oc ρ) P (ExP X W G τ σ))
    (k : ∀ b ρ2 G2 H2, P b ρ2 → Same G G2 → Rel G2 ρ2 τ σ H2 → K (.bl b) H2) : tChain (rCmp o1) (rCmp o2) (tO X W oa) (tO X W ob) (tO X W oc) σ H K := by
  simp only [chnB, wpR_bind] at h
  refine d_two (a := a) (b := b) R h fun x y v w ρ2 G2 H2 p s R2 a1 a2 => ?_
  cases ex : x.see ρ2 with
  | none => rw [ex] at p; exact p.elim
  | some d1 => cases ey : y.see ρ2 with
    | none => rw [ex, ey] at p; exact p.elim
    | some d2 =>
      rw [ex, ey] at p
      simp only [Option.bind_some] at p
      cases ec : cmpD o1 d1 d2 with
      | none => rw [ec] at p; exact p.elim
      | some b1 =>
        rw [ec] at p
        refine ⟨G2, d1, d2, b1, R2.same, Opd.vw2 R2 a1 ex, Opd.vw (A := []) R2 a2 ey, ec, b1, rfl, ?_⟩
        cases b1 with
        | false => exact k false ρ2 G2 H2 p s (R2.sub (Opd.sub2 _ _ _ _ _))
        | true =>
          simp only [wpR_bind] at p
          rw [if_pos rfl]
          refine tO.step R2 p (fun _ _ z => z.mono s (Opd.sub2 _ _ _ _ _)) fun z ρ3 u G3 H3 q s3 R3 a3 => ?_
          obtain ⟨o, e, q⟩ := wpR_of q
          obtain ⟨e1, e2, f1, f2, e⟩ := bind2 e
          exact ⟨G3, e1, e2, o, R3.same, Opd.vw2 R3 a2 f1, Opd.vw (A := []) R3 a3 f2, e, k o ρ3 G3 H3 q (s.trans s3) (R3.sub ((Opd.sub2 _ _ _ _ _).trans (Opd.sub _ _ _)))⟩
theorem d_chn (ok : XOk Φ W c X) (o1 o2 : CmpOp) {a b d : Expr} {oa ob oc : Rho → R Opd} {pos : Pos} (ha : PE X a (tO X W oa)) (hb : PE X b (tO X W ob)) (hc : PE X d (tO X W oc)) (hs : noSet d = true) :
    PE X (.Compare a [o1, o2] [b, d] pos) (tO X W fun ρ => ofB (chnB o1 o2 oa ob oc ρ)) ∧ PT X (.Compare a [o1, o2] [b, d] pos) (tK X W (chnB o1 o2 oa ob oc)) := by
  have hu := ok.hu
  have hm : lastMarks [o1, o2] [b, d] = false := by show behindInMarks o2 d = false; exact noSet_in hs o2
  refine ⟨(pe_chain (op_cmp (by omega) o1) (op_cmp (by omega) o2) ha hb hc hm).weak fun σ H Q ⟨G, ρ, τ, R, h⟩ => ?_, (pt_chain (op_cmp (by omega) o1) (op_cmp (by omega) o2) ha hb hc hm).weak fun σ H Q ⟨G, ρ, τ, R, h⟩ => ?_⟩
  · simp only [ofB, wpR_map] at h
    exact d_chnK (a := a) (b := b) R h fun b ρ2 G2 H2 p s R2 => p _ G2 H2 s (R2.addFz (.bl b)) trivial
  · exact d_chnK (a := a) (b := b) R h fun b ρ2 G2 H2 p s R2 => ⟨b, rfl, p G2 H2 s R2⟩
/-! ### and, or, not, a if b else c -/
theorem truth_of {G H : Hp} {K : PySem.W.Frag} {ρ : Rho} {τ : List (V × T)} {σ : St} {v : V} {t : T} {k : Bool} (R : Rel G ρ ((v, t) :: τ) σ H) (e : t.view.bind truthD = some k) : TruV K v H k := by
  cases q : t.view with
  | none => rw [q] at e; cases e
  | some d => rw [q] at e; exact (R.first.vw q).truth R.same e
theorem d_and {a b : Expr} {rest : List Expr} {A B : Rho → R T} {pos : Pos} (ha : PE X a (tT X W A)) (hb : PE X (.BoolOp .And (b :: rest) pos) (tT X W B)) :
    PE X (.BoolOp .And (a :: b :: rest) pos) (tO X W fun ρ => (A ρ).bind fun t ρ1 => match t.view.bind truthD with
    | none => .no
    | some false => .ok (.tmp t) ρ1
    | some true => (B ρ1).map .tmp) := by
  refine (pe_andT ha hb).weak fun σ H Q ⟨G, ρ, τ, R, h⟩ => ?_
  rw [wpR_bind] at h
  refine tT.step R h (fun _ _ z => z) fun t ρ1 v G1 H1 p s1 R1 => ?_
  cases e : t.view.bind truthD with
  | none => rw [e] at p; exact p.elim
  | some k =>
    rw [e] at p
    refine ⟨k, truth_of R1 e, ?_⟩
    cases k with
    | false => exact p v G1 H1 s1 R1 trivial
    | true =>
      simp only [wpR_map] at p
      rw [if_pos rfl]
      exact tT.step (R1.sub (List.sublist_cons_self _ _)) p (fun _ _ z => z.mono s1 (.refl _)) fun t2 ρ2 w G2 H2 q s2 R2 => q w G2 H2 (s1.trans s2) R2 trivial
theorem d_or {a b : Expr} {rest : List Expr} {A B : Rho → R T} {pos : Pos} (ha : PE X a (tT X W A)) (hb : PE X (.BoolOp .Or (b :: rest) pos) (tT X W B)) :
    PE X (.BoolOp .Or (a :: b :: rest) pos) (tO X W fun ρ => (A ρ).bind fun t ρ1 => match t.view.bind truthD with
    | none => .no
    | some true => .ok (.tmp t) ρ1
    | some false => (B ρ1).map .tmp) := by
  refine (pe_orT ha hb).weak fun σ H Q ⟨G, ρ, τ, R, h⟩ => ?_
  rw [wpR_bind] at h
  refine tT.step R h (fun _ _ z => z) fun t ρ1 v G1 H1 p s1 R1 => ?_
  cases e : t.view.bind truthD with
  | none => rw [e] at p; exact p.elim
  | some k =>
    rw [e] at p
    refine ⟨k, truth_of R1 e, ?_⟩
    cases k with
    | true => exact p v G1 H1 s1 R1 trivial
    | false =>
      simp only [wpR_map] at p
      rw [if_neg Bool.false_ne_true]
      exact tT.step (R1.sub (List.sublist_cons_self _ _)) p (fun _ _ z => z.mono s1 (.refl _)) fun t2 ρ2 w G2 H2 q s2 R2 => q w G2 H2 (s1.trans s2) R2 trivial
theorem d_andT {a b : Expr} {rest : List Expr} {A B : Rho → R Bool} {pos : Pos} (ha : PT X a (tK X W A)) (hb : PW X (.BoolOp .And (b :: rest) pos) (tK X W B)) :
    PW X (.BoolOp .And (a :: b :: rest) pos) (tK X W fun ρ => (A ρ).bind fun k ρ1 => if k then B ρ1 else .ok false ρ1) := by
  refine (pw_and ha hb).weak fun σ H Q ⟨G, ρ, τ, R, h⟩ => ?_
  rw [wpR_bind] at h
  refine tK.step R h (fun _ _ z => z) fun k ρ1 G1 H1 p s1 R1 => ?_
  cases k with
  | false => exact p G1 H1 s1 R1
  | true => exact tK.step R1 p (fun _ _ z => z.mono s1 (.refl _)) fun k2 ρ2 G2 H2 q s2 R2 => q G2 H2 (s1.trans s2) R2
theorem d_orT {a b : Expr} {rest : List Expr} {A B : Rho → R Bool} {pos : Pos} (ha : PT X a (tK X W A)) (hb : PW X (.BoolOp .Or (b :: rest) pos) (tK X W B)) :
    PW X (.BoolOp .Or (a :: b :: rest) pos) (tK X W fun ρ => (A ρ).bind fun k ρ1 => if k then .ok true ρ1 else B ρ1) := by
  refine (pw_or ha hb).weak fun σ H Q ⟨G, ρ, τ, R, h⟩ => ?_
  rw [wpR_bind] at h
  refine tK.step R h (fun _ _ z => z) fun k ρ1 G1 H1 p s1 R1 => ?_
  cases k with
  | true => exact p G1 H1 s1 R1
  | false => exact tK.step R1 p (fun _ _ z => z.mono s1 (.refl _)) fun k2 ρ2 G2 H2 q s2 R2 => q G2 H2 (s1.trans s2) R2
theorem d_not {a : Expr} {oa : Rho → R Opd} {pos : Pos} (ha : PE X a (tO X W oa)) :
    PE X (.UnaryOp .Not a pos) (tO X W fun ρ => (oa ρ).bind fun x ρ1 => R.of (((x.see ρ1).bind truthD).map fun k => .tmp (.fz (.bool (!k)))) ρ1) := by
  refine (pe_notT ha).weak fun σ H Q ⟨G, ρ, τ, R, h⟩ => ?_
  rw [wpR_bind] at h
  refine tO.step R h (fun _ _ z => z) fun x ρ1 v G1 H1 p s1 R1 a1 => ?_
  obtain ⟨o, e, p⟩ := wpR_of p
  cases ed : x.see ρ1 with
  | none => rw [ed] at e; cases e
  | some d =>
    rw [ed] at e
    simp only [Option.bind_some] at e
    cases ek : truthD d with
    | none => rw [ek] at e; cases e
    | some k =>
      rw [ek] at e
      cases e
      have w : Vw G1 H1 v d := Opd.vw (A := []) R1 a1 ed
      exact ⟨k, w.truth R1.same ek, p _ G1 H1 s1 ((R1.sub (Opd.sub _ _ _)).addFz (.bl _)) trivial⟩
theorem d_notT {a : Expr} {A : Rho → R Bool} {pos : Pos} (ha : PT X a (tK X W A)) : PT X (.UnaryOp .Not a pos) (tK X W fun ρ => (A ρ).map (!·)) := by
  refine (pt_not ha).weak fun σ H Q ⟨G, ρ, τ, R, h⟩ => ?_
  rw [wpR_map] at h
  exact tK.step R h (fun _ _ z => z) fun k ρ1 G1 H1 p s1 R1 => p G1 H1 s1 R1
theorem d_ite {t a b : Expr} {C : Rho → R Bool} {A B : Rho → R T} {pos : Pos} (hc : PT X t (tK X W C)) (ha : PE X a (tT X W A)) (hb : PE X b (tT X W B)) :
    PE X (.IfExp t a b pos) (tO X W fun ρ => (C ρ).bind fun k ρ1 => if k then (A ρ1).map .tmp else (B ρ1).map .tmp) := by
  refine (pe_ifExp hc ha hb).weak fun σ H Q ⟨G, ρ, τ, R, h⟩ => ?_
  rw [wpR_bind] at h
  refine tK.step R h (fun _ _ z => z) fun k ρ1 G1 H1 p s1 R1 => ?_
  cases k with
  | true =>
    rw [if_pos rfl] at p ⊢
    rw [wpR_map] at p
    exact tT.step R1 p (fun _ _ z => z.mono s1 (.refl _)) fun t2 ρ2 w G2 H2 q s2 R2 => q w G2 H2 (s1.trans s2) R2 trivial
  | false =>
    rw [if_neg Bool.false_ne_true] at p ⊢
    rw [wpR_map] at p
    exact tT.step R1 p (fun _ _ z => z.mono s1 (.refl _)) fun t2 ρ2 w G2 H2 q s2 R2 => q w G2 H2 (s1.trans s2) R2 trivial
/-! ### lists of expressions -/
theorem a_nilO : PA X [] (tOs X W fun ρ => .ok [] ρ) := pa_nil.weak fun σ H Q ⟨G, ρ, τ, R, h⟩ => h [] G H (Same.refl _) R trivial
theorem a_consO {e : Expr} {es : List Expr} {o : Rho → R Opd} {os : Rho → R (List Opd)} (he : PE X e (tO X W o)) (hes : PA X es (tOs X W os)) (hs : noStar e = true) :
    PA X (e :: es) (tOs X W fun ρ => (o ρ).bind fun x ρ1 => (os ρ1).map (x :: ·)) := by
  refine (pa_cons he hes (star1 hs _ _)).weak fun σ H Q ⟨G, ρ, τ, R, h⟩ => ?_
  simp only [wpR_bind, wpR_map] at h
  refine tO.step R h (fun _ _ z => z) fun x ρ1 v G1 H1 p s1 R1 a1 => ?_
  exact tOs.step R1 p (fun _ _ z => z.mono s1 (Opd.sub _ _ _)) fun xs ρ2 vs G2 H2 q s2 R2 a2 => q (v :: vs) G2 H2 (s1.trans s2) R2 ⟨a1, a2⟩
theorem a_nilD : PA X [] (tDs X W fun ρ => .ok [] ρ) := pa_nil.weak fun σ H Q ⟨G, ρ, τ, R, h⟩ => h [] G H (Same.refl _) R .nil
theorem a_consD {e : Expr} {es : List Expr} {o : Rho → R D} {os : Rho → R (List D)} (he : PE X e (tD X W o)) (hes : PA X es (tDs X W os)) (hs : noStar e = true) :
    PA X (e :: es) (tDs X W fun ρ => (o ρ).bind fun x ρ1 => (os ρ1).map (x :: ·)) := by
  refine (pa_cons he hes (star1 hs _ _)).weak fun σ H Q ⟨G, ρ, τ, R, h⟩ => ?_
  simp only [wpR_bind, wpR_map] at h
  refine tD.step R h (fun _ _ z => z) fun x ρ1 v G1 H1 p s1 R1 r1 => ?_
  exact tDs.step R1 p (fun _ _ z => z.mono s1 (.refl _)) fun xs ρ2 vs G2 H2 q s2 R2 r2 => q (v :: vs) G2 H2 (s1.trans s2) R2 (.cons (r1.mono s2) r2)
theorem d_lst {es : List Expr} {f : Rho → R (List D)} {pos : Pos} (h : PA X es (tDs X W f)) : PE X (.List es pos) (tO X W fun ρ => (f ρ).bind fun ds ρ1 => if ds.length ≤ sizeLine then .ok (.tmp (.ol ds)) ρ1 else .no) := by
  refine (pe_lst h).weak fun σ H Q ⟨G, ρ, τ, R, h⟩ => ?_
  rw [wpR_bind] at h
  refine tDs.step R h (fun _ _ z => z) fun ds ρ1 vs G1 H1 p s1 R1 r1 => ?_
  split at p
  · next hl =>
    refine ⟨by rw [r1.length]; exact hl, fun q hq => ?_⟩
    obtain ⟨G2, s2, R2⟩ := R1.new (.ol hq r1)
    exact p _ G2 _ (s1.trans s2) R2 trivial
  · exact p.elim
theorem d_tup {es : List Expr} {f : Rho → R (List D)} {pos : Pos} {k : Nat} (h : PA X es (tDs X W f)) : PE X (.Tuple es k pos) (tO X W fun ρ => (f ρ).bind fun ds ρ1 => if ds.length ≤ sizeLine then .ok (.tmp (.fz (.tuple ds))) ρ1 else .no) := by
  refine (pe_tup h).weak fun σ H Q ⟨G, ρ, τ, R, h⟩ => ?_
  rw [wpR_bind] at h
  refine tDs.step R h (fun _ _ z => z) fun ds ρ1 vs G1 H1 p s1 R1 r1 => ?_
  split at p
  · next hl =>
    refine ⟨by rw [r1.length]; exact hl, fun q hq => ?_⟩
    obtain ⟨G2, s2, R2⟩ := R1.new (.tup hq r1)
    exact p _ G2 _ (s1.trans s2) R2 trivial
  · exact p.elim
/-! ### subscripts -/
theorem d_idx {a b : Expr} {oa ob : Rho → R Opd} {pos : Pos} (ha : PE X a (tO X W oa)) (hb : PE X b (tO X W ob)) (hs : noSlice b = true) :
    PE X (.Subscript a b pos) (tO X W fun ρ => (oa ρ).bind fun x ρ1 => (ob ρ1).bind fun y ρ2 => R.of ((x.see ρ2).bind fun d => (y.see ρ2).bind fun e => (idxD d e).map fun f => .tmp (.fz f)) ρ2) := by
  have hp : PlainIx b := by
    intro o i
    cases b <;> first | rfl | cases hs
  refine (pe_ix ix_data ha hb hp).weak fun σ H Q ⟨G, ρ, τ, R, h⟩ => ?_
  simp only [wpR_bind] at h
  refine d_two (a := a) (b := b) R h fun x y v w ρ2 G2 H2 p s R2 a1 a2 => ?_
  obtain ⟨o, e, p⟩ := wpR_of p
  obtain ⟨d, f, e1, e2, e⟩ := bind2 e
  cases eb : idxD d f with
  | none => rw [eb] at e; cases e
  | some g =>
    rw [eb] at e
    cases e
    exact ⟨G2, d, f, g, R2.same, Opd.vw2 R2 a1 e1, Opd.vw (A := []) R2 a2 e2, eb, fun u r => p u G2 H2 s ((R2.sub (Opd.sub2 _ _ _ _ _)).addFz r) trivial⟩
theorem o_none : PO X none (tOI X W fun ρ => .ok none ρ) := po_none.weak fun σ H Q ⟨G, ρ, τ, R, h⟩ => h G H (Same.refl _) R
theorem o_some {e : Expr} {o : Rho → R Opd} (he : PE X e (tO X W o)) : PO X (some e) (tOI X W fun ρ => (o ρ).bind fun x ρ1 => R.of ((x.see ρ1).bind fun d => match d with | .int i => some (some i) | _ => none) ρ1) := by
  refine (po_some he).weak fun σ H Q ⟨G, ρ, τ, R, h⟩ => ?_
  rw [wpR_bind] at h
  refine tO.step R h (fun _ _ z => z) fun x ρ1 v G1 H1 p s1 R1 a1 => ?_
  obtain ⟨q, e, p⟩ := wpR_of p
  cases ed : x.see ρ1 with
  | none => rw [ed] at e; cases e
  | some d =>
    rw [ed] at e
    cases d with
    | int i =>
      cases e
      have w : Vw G1 H1 v (.int i) := Opd.vw (A := []) R1 a1 ed
      exact ⟨i, w.int, p G1 H1 s1 (R1.sub (Opd.sub _ _ _))⟩
    | _ => cases e
theorem d_slc {a : Expr} {lo hi : Option Expr} {oa : Rho → R Opd} {ol oh : Rho → R (Option Int)} {pos p2 : Pos} (ha : PE X a (tO X W oa)) (hl : PO X lo (tOI X W ol)) (hh : PO X hi (tOI X W oh)) :
    PE X (.Subscript a (.Slice lo hi none p2) pos) (tO X W fun ρ => (oa ρ).bind fun x ρ1 => (ol ρ1).bind fun l ρ2 => (oh ρ2).bind fun h ρ3 => R.of ((x.see ρ3).bind fun d => (slcD d l h).map Opd.tmp) ρ3) := by
  refine (pe_slice sl_data ha hl hh).weak fun σ H Q ⟨G, ρ, τ, R, h⟩ => ?_
  simp only [wpR_bind] at h
  refine tO.step R h (fun _ _ z => z) fun x ρ1 v G1 H1 p s1 R1 a1 => ?_
  refine tOI.step R1 p (fun _ _ z => z.mono s1 (Opd.sub _ _ _)) fun l ρ2 G2 H2 p s2 R2 => ?_
  refine tOI.step R2 p (fun _ _ z => z.mono (s1.trans s2) (Opd.sub _ _ _)) fun u ρ3 G3 H3 p s3 R3 => ?_
  obtain ⟨o, e, p⟩ := wpR_of p
  cases ed : x.see ρ3 with
  | none => rw [ed] at e; cases e
  | some d =>
    rw [ed] at e
    simp only [Option.bind_some] at e
    cases eb : slcD d l u with
    | none => rw [eb] at e; cases e
    | some t =>
      rw [eb] at e
      cases e
      refine ⟨G3, d, t, R3.same, Opd.vw (A := []) R3 a1 ed, eb, fun v' H' n => ?_⟩
      obtain ⟨G4, s4, R4⟩ := (R3.sub (Opd.sub _ _ _)).new n
      exact p v' G4 H' (((s1.trans s2).trans s3).trans s4) R4 trivial
end
end L2.Eng

/-! EngD6: calls and methods. -/
namespace L2.Eng
open PySem PySem.Spec PyProof.Rows

section
variable {Φ : Fx} {W : WX} {c : Ctx} {X : Cx}
/-- a def's call where the last parameters take their defaults and what is raised is wished for at these slots -/
theorem run_dflt {CX : CXT} {k : Nat} {f : Addr} {fd : FuncData} {ps : List Str} {sp : Sp} {dvs : List V} {ds : List Value} {E : XK} {pins : List (Addr × Obj)} {σ : St} {H : Hp} {s : Shared} {Q : VK} {us : List Value} {vs : List V}
    (F : FnOk X.prog X.w X.K X.mg X.base CX k f fd ps sp) (hr : Room k X.A) (hb : Binds X.K fd ps ds) (hd : Vals dvs ds) (hx : PassesAt CX X σ E) (I : Inv X pins σ H s) (r : Vals vs us) (h : sp (vs ++ dvs) H Q E) :
    wpAny (model X.prog X.w) X.A (call (.ref f) us) (EP X pins σ Q) X.xe s := by
  have both := r.append hd
  have size : (us ++ ds).length = ps.length := both.length.symm.trans (F.len _ _ _ _ h)
  have ran := F.run X.A X.stack s H ⟨us, []⟩ (us ++ ds) (vs ++ dvs) Q E hr I.env0 (hb s us I.kIn size) both h
  refine wpAny_call (codeAny_mono ran fun z s2 q => ?_)
  match z, q with
  | .error e, q => exact hx pins H s e s2 I q
  | .ok (.ret u), q => exact I.after q
  | .ok .next, q => exact q.elim
  | .ok .brk, q => exact q.elim
  | .ok .cont, q => exact q.elim
theorem d_call (ok : XOk Φ W c X) {f : Str} {as : List Expr} {os : Rho → R (List Opd)} {ds : List D} {p pos : Pos} {n : Nat} (hg : glbB c.sc f = true) (hd : noDbg f = true) (ha : PA X as (tOs X W os)) (hst : ∀ x ∈ as, noStar x = true)
    (hlen : ∀ ρ xs ρ', os ρ = .ok xs ρ' → xs.length = n) (h0' : as = [] → os = fun ρ => .ok [] ρ) (hfn : c.fnOk f n ds = true) :
    PE X (.Call (.Name f p) as [] pos) (tO X W fun ρ => (os ρ).bind fun xs ρ1 => (callF Φ f xs ds ρ1).map .tmp) := by
  obtain ⟨k, room, m⟩ := ok.mod
  unfold Ctx.fnOk at hfn
  cases hl : c.tb.fns.lookup f with
  | none => rw [hl] at hfn; cases hfn
  | some q =>
    obtain ⟨np, dfl⟩ := q
    rw [hl] at hfn
    simp only [Bool.and_eq_true, decide_eq_true_eq] at hfn
    obtain ⟨⟨⟨hn, hle⟩, hds⟩, hfl⟩ := hfn
    obtain ⟨a, fd, ps, hm, hk, hps, F, hb⟩ := m.fn f np dfl hl
    obtain ⟨us, zs, hz, hv, hbind⟩ := hb (dfl.length - ds.length) (by omega)
    rw [← dEqs_eq hds] at hz
    have red : ∀ {σ : St} {H : Hp} {Q : VK}, tO X W (fun ρ => (os ρ).bind fun xs ρ1 => (callF Φ f xs ds ρ1).map .tmp) σ H Q → tOs X W os σ H fun vs H1 => spF Φ X.K X.mg f np (vs ++ zs) H1 Q (WE W σ) := by
      intro σ H Q ⟨G, ρ, τ, R, h⟩
      simp only [wpR_bind, wpR_map] at h
      refine ⟨G, ρ, τ, R, ?_⟩
      cases hos : os ρ with
      | no => rw [hos] at h; exact h.elim
      | exc x ρ1 => rw [hos] at h; exact h
      | ok xs ρ1 =>
        rw [hos] at h
        intro vs G1 H1 s1 R1 a1
        have h2 : wpR (callF Φ f xs ds ρ1) (fun a ρ => ∀ (v : V) (G' H' : Hp), Same G G' → Rel G' ρ ((Opd.tmp a).push v τ) σ H' → (Opd.tmp a).at_ v σ → Q v H') (ExP X W G τ σ) := h
        refine spF_of R1 a1 hz (by rw [hlen _ _ _ hos]; exact hn) (h2.mono (fun t ρ2 q v G2 H2 s2 R2 => q v G2 H2 (s1.trans s2) R2 trivial) fun x ρ2 q cls d G2 H2 e s2 R2 => q cls d G2 H2 e (s1.trans s2) R2)
    refine ⟨fun pins s σ H Q I h => wpAny_Call_Name_kw (ld_glob I (ok.scp.gl f hg) hm ?_ (noDbg_split hd).1)⟩
    have argsRun := ha.run pos pins s σ H _ I (red h)
    cases as with
    | nil =>
      have h3 : spF Φ X.K X.mg f np ([] ++ zs) H Q (WE W σ) := by
        have eo := h0' rfl
        obtain ⟨G, ρ, τ, R, h⟩ := red h
        rw [eo] at h
        exact h [] G H (Same.refl _) R trivial
      exact PySem.W.callWith_K0 I.kIn hk (run_dflt (us := []) F room hbind hv (L2N.passAt ok.tk σ) I .nil h3)
    | cons e es =>
      refine PySem.W.callWith_K (h₀ := X.base) I.ok.mod.kin hk (thn argsRun fun us1 s1 ⟨vs, H1, I1, r, q⟩ => ⟨I1.kIn, ?_⟩) (star1 (hst e (List.mem_cons_self ..)) _ _) (plainAll fun y hy => hst y (List.mem_cons_of_mem _ hy))
      exact run_dflt F room hbind hv (L2N.passAt ok.tk σ) I1 r q
/-! ### built-ins -/
theorem boot_bi (b : Bi) : bootBuiltins b.nm = some b.val := by
  cases b <;> decide +kernel
theorem pe_val {f : Value} {r : List V → Hp → VK → Prop} {x : Str} {e : Expr} {es : List Expr} {t : TA} {p pos : Pos} (hf : (∃ id, f = .builtin id) ∨ ∃ T, f = .type T) (hc : CallR X f r) (hg : Gl X x) (hm : X.mg x = none) (hv : bootBuiltins x = some f) (ha : PA X (e :: es) t) (hn : x ≠ "__name__")
    (hdb : (x == ("__debug__" : Str)) = false) (hst : ∀ y ∈ e :: es, noStar y = true) : PE X (.Call (.Name x p) (e :: es) [] pos) (tCB r t) := by
  have h1 := star1 (hst e (List.mem_cons_self ..)) es X.env
  have h2 : (backTo pos (starEach es X.env)).any (·.1) = false := plainAll fun y hy => hst y (List.mem_cons_of_mem _ hy)
  rcases hf with ⟨id, rfl⟩ | ⟨T, rfl⟩
  · exact pe_callB hc hg hm hv ha hn hdb h1 h2
  · exact pe_callTy hc hg hm hv ha hn hdb h1 h2
theorem d_bi (ok : XOk Φ W c X) (b : Bi) {e : Expr} {es : List Expr} {os : Rho → R (List Opd)} {p pos : Pos} {x : Str} (hx : x = b.nm) (hb : c.bltOk x = true) (ha : PA X (e :: es) (tOs X W os)) (hst : ∀ y ∈ e :: es, noStar y = true) :
    PE X (.Call (.Name x p) (e :: es) [] pos) (tO X W fun ρ => (os ρ).bind fun os ρ1 => R.of ((sees ρ1 os).bind fun ds => (biD b ds).map Opd.tmp) ρ1) := by
  obtain ⟨g1, g2, g3, g4⟩ := ok.blt hb
  subst hx
  refine (pe_val (by cases b <;> first | exact .inl ⟨_, rfl⟩ | exact .inr ⟨_, rfl⟩) (call_bi ok.calm ok.hu b) g1 g2 (boot_bi b) ha g4 g3 hst).weak fun σ H Q ⟨G, ρ, τ, R, h⟩ => ?_
  rw [wpR_bind] at h
  refine tOs.step R h (fun _ _ z => z) fun os ρ1 vs G1 H1 p s1 R1 a1 => ?_
  obtain ⟨o, e, p⟩ := wpR_of p
  cases es : sees ρ1 os with
  | none => rw [es] at e; cases e
  | some ds =>
    rw [es] at e
    simp only [Option.bind_some] at e
    cases eb : biD b ds with
    | none => rw [eb] at e; cases e
    | some t =>
      rw [eb] at e
      cases e
      refine ⟨G1, ds, t, R1.same, sees_vw (A := []) R1 a1 es, eb, fun v' H' n => ?_⟩
      obtain ⟨G2, s2, R2⟩ := (R1.sub (pushes_sub _ _ _)).new n
      exact p v' G2 H' (s1.trans s2) R2 trivial
theorem rng_rq (G : Hp) (i j : Int) : RqAll G (rgV i j) (rngD i j) := by
  unfold rgV rngD
  generalize List.range (j - i).toNat = l
  induction l with
  | nil => exact .nil
  | cons a r ih => exact .cons (.int _) ih
theorem d_rngL1 (ok : XOk Φ W c X) {a : Expr} {oa : Rho → R Opd} {p1 p2 pos pos2 : Pos} (h1 : c.bltOk "list" = true) (h2 : c.bltOk "range" = true) (ha : PE X a (tO X W oa)) (hs : noStar a = true) :
    PE X (.Call (.Name "list" p1) [.Call (.Name "range" p2) [a] [] pos2] [] pos) (tO X W fun ρ => (oa ρ).bind fun x ρ1 => R.of ((x.see ρ1).bind fun d => (rl1D d).map Opd.tmp) ρ1) := by
  obtain ⟨g1, g2, _, _⟩ := ok.blt h1
  obtain ⟨k1, k2, _, _⟩ := ok.blt h2
  refine (pe_listRg ok.calm g1 g2 (prg_1 k1 k2 ha (star1 hs _ _)) (by rfl)).weak fun σ H Q ⟨G, ρ, τ, R, h⟩ => ?_
  simp only [wpR_bind] at h
  refine tO.step R h (fun _ _ z => z) fun x ρ1 v G1 H1 p s1 R1 a1 => ?_
  obtain ⟨o, e, p⟩ := wpR_of p
  cases ed : x.see ρ1 with
  | none => rw [ed] at e; cases e
  | some d =>
    rw [ed] at e
    simp only [Option.bind_some] at e
    cases d with
    | int j =>
      simp only [rl1D] at e
      split at e
      · next hj =>
        cases e
        have w : Vw G1 H1 v (.int j) := Opd.vw (A := []) R1 a1 ed
        refine ⟨j, w.int, ⟨by decide, by decide, hj.1, ?_, ?_⟩, fun q hq => ?_⟩
        · have := hj.2; omega
        · have := hj.2; omega
        · obtain ⟨G2, s2, R2⟩ := (R1.sub (Opd.sub _ _ _)).new (.ol hq (rng_rq G1 0 j))
          exact p _ G2 _ (s1.trans s2) R2 trivial
      · cases e
    | _ => simp [rl1D] at e
theorem d_rngL2 (ok : XOk Φ W c X) {a b : Expr} {oa ob : Rho → R Opd} {p1 p2 pos pos2 : Pos} (h1 : c.bltOk "list" = true) (h2 : c.bltOk "range" = true) (ha : PE X a (tO X W oa)) (hs : noStar a = true) (hb : PE X b (tO X W ob)) (hs2 : noStar b = true) :
    PE X (.Call (.Name "list" p1) [.Call (.Name "range" p2) [a, b] [] pos2] [] pos) (tO X W fun ρ => (oa ρ).bind fun x ρ1 => (ob ρ1).bind fun y ρ2 => R.of ((x.see ρ2).bind fun d => (y.see ρ2).bind fun e => (rl2D d e).map Opd.tmp) ρ2) := by
  obtain ⟨g1, g2, _, _⟩ := ok.blt h1
  obtain ⟨k1, k2, _, _⟩ := ok.blt h2
  refine (pe_listRg ok.calm g1 g2 (prg_2 k1 k2 ha hb (star1 hs _ _) (star1 hs2 _ _) (plainAll fun y hy => by simp at hy; subst hy; exact hs2)) (by rfl)).weak fun σ H Q ⟨G, ρ, τ, R, h⟩ => ?_
  simp only [wpR_bind] at h
  refine d_two (a := a) (b := b) R h fun x y v w ρ2 G2 H2 p s R2 a1 a2 => ?_
  obtain ⟨o, e, p⟩ := wpR_of p
  cases ed : x.see ρ2 with
  | none => rw [ed] at e; cases e
  | some d => cases ed2 : y.see ρ2 with
    | none => rw [ed, ed2] at e; cases e
    | some d2 =>
      rw [ed, ed2] at e
      simp only [Option.bind_some] at e
      cases d with
      | int i =>
        cases d2 with
        | int j =>
          simp only [rl2D] at e
          split at e
          · next hj =>
            cases e
            refine ⟨i, j, (Opd.vw2 R2 a1 ed).int, (Opd.vw (A := []) R2 a2 ed2).int, hj, fun q hq => ?_⟩
            obtain ⟨G3, s3, R3⟩ := (R2.sub (Opd.sub2 _ _ _ _ _)).new (.ol hq (rng_rq G2 i j))
            exact p _ G3 _ (s.trans s3) R3 trivial
          · cases e
        | _ => simp [rl2D] at e
      | _ => simp [rl2D] at e
/-! ### isinstance -/
theorem boot_kd (k : Kd) : bootBuiltins k.py = some (.type k.nm) := by cases k <;> decide +kernel
theorem d_cls (ok : XOk Φ W c X) {k : Kd} {x : Str} {pos : Pos} (hx : x = k.py) (hb : c.bltOk x = true) : PE X (.Name x pos) (tC (.ty k.nm)) := by
  obtain ⟨g1, g2, g3, g4⟩ := ok.blt hb
  subst hx
  exact pe_bltn g1 g2 (boot_kd k) rfl g4 g3
theorem a_cls (ok : XOk Φ W c X) : ∀ {ks : List Kd} {es : List Expr}, ckKs c ks es = true → PA X es (fun _ H Q => Q (ks.map fun k => .ty k.nm) H)
  | [], [], _ => pa_nil
  | k :: ks, .Name x _ :: es, h => by
    simp only [ckKs, Bool.and_eq_true, decide_eq_true_eq] at h
    exact (pa_cons (d_cls ok h.1.1 h.1.2) (a_cls ok h.2) (star1 rfl _ _)).weak fun σ H Q q => q
  | [], _ :: _, h => by simp [ckKs] at h
  | _ :: _, [], h => by simp [ckKs] at h
theorem d_isi1 (ok : XOk Φ W c X) {a : Expr} {oa : Rho → R Opd} {k : Kd} {x : Str} {p1 p2 pos : Pos} (h1 : c.bltOk "isinstance" = true) (ha : PE X a (tO X W oa)) (hs : noStar a = true) (hx : x = k.py) (hb : c.bltOk x = true) :
    PE X (.Call (.Name "isinstance" p1) [a, .Name x p2] [] pos) (tO X W fun ρ => (oa ρ).bind fun x ρ1 => R.of ((x.see ρ1).map fun d => .tmp (.fz (.bool ([k].any fun k => isKd k d)))) ρ1) := by
  obtain ⟨g1, g2, g3, g4⟩ := ok.blt h1
  have hst : ∀ y ∈ [a, .Name x p2], noStar y = true := fun y hy => by
    simp only [List.mem_cons, List.not_mem_nil, or_false] at hy
    rcases hy with rfl | rfl
    · exact hs
    · rfl
  refine (pe_val (.inl ⟨_, rfl⟩) call_isi g1 g2 PyProof.Rows.boot_isinstance (pa_cons ha (pa_cons (d_cls ok hx hb) pa_nil (star1 rfl _ _)) (star1 hs _ _)) g4 g3 hst).weak fun σ H Q ⟨G, ρ, τ, R, h⟩ => ?_
  rw [wpR_bind] at h
  refine tO.step R h (fun _ _ z => z) fun o ρ1 v G1 H1 p s1 R1 a1 => ?_
  obtain ⟨q, e, p⟩ := wpR_of p
  cases ed : o.see ρ1 with
  | none => rw [ed] at e; cases e
  | some d =>
    rw [ed] at e
    cases e
    have w : Vw G1 H1 v d := Opd.vw (A := []) R1 a1 ed
    refine ⟨v, .ty k.nm, .type (tyD d), .type k.nm, isKd k d, rfl, .ty _, w.ty R1.same, w.kit k, ?_⟩
    have := p (.bl (isKd k d)) G1 H1 s1 ((R1.sub (Opd.sub _ _ _)).addFz (by simpa using Rq.bl _)) trivial
    exact this
theorem d_isiT (ok : XOk Φ W c X) {a : Expr} {oa : Rho → R Opd} {ks : List Kd} {es : List Expr} {p1 p2 pos : Pos} {kk : Nat} (h1 : c.bltOk "isinstance" = true) (ha : PE X a (tO X W oa)) (hs : noStar a = true) (hk : ckKs c ks es = true) (hl : ks.length ≤ sizeLine) :
    PE X (.Call (.Name "isinstance" p1) [a, .Tuple es kk p2] [] pos) (tO X W fun ρ => (oa ρ).bind fun x ρ1 => R.of ((x.see ρ1).map fun d => .tmp (.fz (.bool (ks.any fun k => isKd k d)))) ρ1) := by
  obtain ⟨g1, g2, g3, g4⟩ := ok.blt h1
  have hst : ∀ y ∈ [a, .Tuple es kk p2], noStar y = true := fun y hy => by
    simp only [List.mem_cons, List.not_mem_nil, or_false] at hy
    rcases hy with rfl | rfl
    · exact hs
    · rfl
  refine (pe_val (.inl ⟨_, rfl⟩) call_isiT g1 g2 PyProof.Rows.boot_isinstance (pa_cons ha (pa_cons (pe_tup (a_cls ok hk)) pa_nil (star1 rfl _ _)) (star1 hs _ _)) g4 g3 hst).weak fun σ H Q ⟨G, ρ, τ, R, h⟩ => ?_
  rw [wpR_bind] at h
  refine tO.step R h (fun _ _ z => z) fun o ρ1 v G1 H1 p s1 R1 a1 => ?_
  obtain ⟨q, e, p⟩ := wpR_of p
  cases ed : o.see ρ1 with
  | none => rw [ed] at e; cases e
  | some d =>
    rw [ed] at e
    cases e
    refine ⟨by rw [List.length_map]; exact hl, fun t ht => ?_⟩
    have g := R1.same.free ht
    have R2 : Rel (upd G1 t (.tup (ks.map fun k => V.ty k.nm))) ρ1 (o.push v τ) σ (upd H1 t (.tup (ks.map fun k => V.ty k.nm))) := ⟨Same.updBoth R1.same, R1.slots, R1.held.newFz R1.same ht⟩
    have w : Vw _ _ v d := Opd.vw (A := []) R2 a1 ed
    have pc : ∀ l : List Kd, Paired ClsV (l.map fun k => V.ty k.nm) (l.map fun k => Value.type k.nm) := fun l => by
      induction l with
      | nil => exact .nil
      | cons k r ih => exact .cons (.ty _) ih
    refine ⟨v, t, _, .type (tyD d), ks.map fun k => .type k.nm, _, rfl, upd_same, pc ks, w.ty R2.same, w.kits ks, ?_⟩
    exact p _ _ _ (s1.trans (Same.updOut g)) ((R2.sub (Opd.sub _ _ _)).addFz (.bl _)) trivial
/-! ### methods -/
theorem d_index (ok : XOk Φ W c X) {o a : Expr} {oo : Rho → R Opd} {os : Rho → R (List Opd)} {ap pos : Pos} (ho : PE X o (tO X W oo)) (ha : PA X [a] (tOs X W os)) (h0 : noCall0 o = true) (hl : (ap.endLine == pos.line) = true) (hs : noStar a = true) :
    PE X (.Call (.Attribute o "index" ap) [a] [] pos) (tO X W fun ρ => (oo ρ).bind fun x ρ1 => if ((x.see ρ1).map isLstD).getD false then (os ρ1).bind fun os ρ2 => R.of ((x.see ρ2).bind fun d => (sees ρ2 os).bind fun ds => (meD .index d ds).map Opd.tmp) ρ2 else .no) := by
  have hbase : attributeBase o "index" X.env (eval o X.env) = eval o X.env := by
    unfold attributeBase
    split
    · exact absurd h0 (by simp [noCall0])
    · rfl
  have st := star1 hs [] X.env
  have hfew : ((backTo pos (starEach [a] X.env)).all (fun x => !x.1) && (backToKw pos (keywordEach [] X.env)).all (fun x => x.1.isSome) && decide ([a].length + ([] : List Keyword).length + (if ([] : List Keyword).isEmpty then 0 else 1) < 30)) = true := by
    rw [st]; rfl
  refine (pe_bm PySem.F.plainAttrs_list PySem.F.slot_list_index PySem.F.type_list_index (mt_idx ok.hu) ho ha hbase hfew hl st rfl).weak fun σ H Q ⟨G, ρ, τ, R, h⟩ => ?_
  rw [wpR_bind] at h
  refine tO.step R h (fun _ _ z => z) fun x ρ1 v G1 H1 p s1 R1 a1 => ?_
  split at p
  · next hk =>
    have isL : tyV X.K "list" v H1 := by
      cases ed : x.see ρ1 with
      | none => rw [ed] at hk; simp at hk
      | some d =>
        rw [ed] at hk
        cases d with
        | list ds =>
          obtain ⟨a, vs, rfl, r, _⟩ := (Opd.vw (A := []) R1 a1 ed).lst R1.same
          exact .inl ⟨rfl, vs, SqL.rd r⟩
        | _ => simp [isLstD] at hk
    refine ⟨isL, ?_⟩
    rw [wpR_bind] at p
    refine tOs.step R1 p (fun _ _ z => z.mono s1 (Opd.sub _ _ _)) fun os ρ2 vs G2 H2 p s2 R2 a2 => ?_
    obtain ⟨o, e, p⟩ := wpR_of p
    cases ed : x.see ρ2 with
    | none => rw [ed] at e; cases e
    | some d =>
      cases es : sees ρ2 os with
      | none => rw [ed, es] at e; cases e
      | some ds =>
        rw [ed, es] at e
        simp only [Option.bind_some] at e
        have wa : VwAll G2 H2 vs ds := sees_vw (A := []) R2 a2 es
        have wx : Vw G2 H2 v d := by
          obtain ⟨A, eA⟩ := pushes_app os vs (x.push v τ)
          exact Opd.vw (A := A) (τ := τ) (by rw [← eA]; exact R2) a1 ed
        match d, ds, e with
        | .list l, [q], e =>
          simp only [meD] at e
          split at e
          · next hsh =>
            cases ej : idxOfD q l with
            | none => rw [ej] at e; cases e
            | some j =>
              rw [ej] at e
              cases e
              obtain ⟨h1, h2⟩ := Bool.and_eq_true_iff.mp hsh
              exact ⟨G2, l, q, j, R2.same, wx, wa, h1, h2, ej, p _ G2 H2 (s1.trans s2) ((R2.sub ((Opd.sub x v τ).trans (pushes_sub _ _ _))).addFz (.int _)) trivial⟩
          · cases e
        | .str l, [.str q], e => exact absurd (by rw [wx.str] at isL; exact isL) (show ¬ ("list" : String) = "str" by decide)
  · exact p.elim
theorem _root_.L2.PE.or {X : Cx} {e : Expr} {t t' : TE} (h : PE X e t) (h' : PE X e t') : PE X e (fun σ H Q => t σ H Q ∨ t' σ H Q) :=
  ⟨fun pins s σ H Q I q => q.elim (h.run pins s σ H Q I) (h'.run pins s σ H Q I)⟩
theorem Me.slot {m : Me} (hm : m ≠ .split) : Slot "str" m.py m.sid := by
  cases m with
  | index => exact PySem.F.slot_str_index
  | count => exact PySem.F.slot_str_count
  | join => exact PySem.F.slot_str_join
  | split => exact absurd rfl hm
theorem Me.typ {m : Me} (hm : m ≠ .split) : typeOf (.builtin m.sid) = pure (.type "method_descriptor") := by
  cases m with
  | index => exact PySem.F.type_str_index
  | count => exact PySem.F.type_str_count
  | join => exact PySem.F.type_str_join
  | split => exact absurd rfl hm
theorem me_scal {m : Me} {a : Str} {ds : List D} {t : T} (h : meD m (.str a) ds = some t) : ∃ e v, t = .fz e ∧ scV e = some v := by
  cases m with
  | split => cases ds <;> simp [meD] at h
  | count =>
    match ds, h with
    | [.str b], h => cases h; exact ⟨_, _, rfl, rfl⟩
  | index =>
    match ds, h with
    | [.str b], h =>
      simp only [meD] at h
      split at h
      · cases h; exact ⟨_, _, rfl, rfl⟩
      · cases h
  | join =>
    match ds, h with
    | [.list es], h =>
      simp only [meD] at h
      cases hs : strsD es with
      | none => rw [hs] at h; cases h
      | some ys =>
        rw [hs] at h
        simp only [Option.bind_some] at h
        split at h
        · cases h; exact ⟨_, _, rfl, rfl⟩
        · cases h
theorem d_str (ok : XOk Φ W c X) {m : Me} (hm : m ≠ .split) {o a : Expr} {oo : Rho → R Opd} {os : Rho → R (List Opd)} {ap pos : Pos} (ho : PE X o (tO X W oo)) (ha : PA X [a] (tOs X W os)) (h0 : noCall0 o = true) (hl : (ap.endLine == pos.line) = true) (hs : noStar a = true) :
    PE X (.Call (.Attribute o m.py ap) [a] [] pos) (tO X W fun ρ => (oo ρ).bind fun x ρ1 => if ((x.see ρ1).map isStrD).getD false then (os ρ1).bind fun os ρ2 => R.of ((x.see ρ2).bind fun d => (sees ρ2 os).bind fun ds => (meD m d ds).map Opd.tmp) ρ2 else .no) := by
  have hbase : attributeBase o m.py X.env (eval o X.env) = eval o X.env := by
    unfold attributeBase
    split
    · exact absurd h0 (by simp [noCall0])
    · rfl
  have st := star1 hs [] X.env
  have hfew : ((backTo pos (starEach [a] X.env)).all (fun x => !x.1) && (backToKw pos (keywordEach [] X.env)).all (fun x => x.1.isSome) && decide ([a].length + ([] : List Keyword).length + (if ([] : List Keyword).isEmpty then 0 else 1) < 30)) = true := by
    rw [st]; rfl
  refine (pe_bm PySem.F.plainAttrs_str (Me.slot hm) (Me.typ hm) (mt_str m) ho ha hbase hfew hl st rfl).weak fun σ H Q ⟨G, ρ, τ, R, h⟩ => ?_
  rw [wpR_bind] at h
  refine tO.step R h (fun _ _ z => z) fun x ρ1 v G1 H1 p s1 R1 a1 => ?_
  split at p
  · next hk =>
    have isS : ∃ z, v = .str z := by
      cases ed : x.see ρ1 with
      | none => rw [ed] at hk; simp at hk
      | some d =>
        rw [ed] at hk
        cases d with
        | str z => exact ⟨z, (Opd.vw (A := []) R1 a1 ed).str⟩
        | _ => simp [isStrD] at hk
    obtain ⟨z, rfl⟩ := isS
    refine ⟨rfl, ?_⟩
    rw [wpR_bind] at p
    refine tOs.step R1 p (fun _ _ z => z.mono s1 (Opd.sub _ _ _)) fun os ρ2 vs G2 H2 p s2 R2 a2 => ?_
    obtain ⟨t, e, p⟩ := wpR_of p
    cases ed : x.see ρ2 with
    | none => rw [ed] at e; cases e
    | some d =>
      cases es : sees ρ2 os with
      | none => rw [ed, es] at e; cases e
      | some ds =>
        rw [ed, es] at e
        simp only [Option.bind_some] at e
        have wa : VwAll G2 H2 vs ds := sees_vw (A := []) R2 a2 es
        have wx : Vw G2 H2 (.str z) d := by
          obtain ⟨A, eA⟩ := pushes_app os vs (x.push (.str z) τ)
          exact Opd.vw (A := A) (τ := τ) (by rw [← eA]; exact R2) a1 ed
        have dz : d = .str z := by
          rcases wx with w | ⟨_, _, _, w, _⟩
          · cases w; rfl
          · cases w
        subst dz
        cases em : meD m (.str z) ds with
        | none => rw [em] at e; cases e
        | some t' =>
          rw [em] at e
          cases e
          obtain ⟨e', v', rfl, ev⟩ := me_scal em
          refine ⟨G2, z, ds, e', R2.same, rfl, wa, hm, em, fun w ew => ?_⟩
          exact p w G2 H2 (s1.trans s2) ((R2.sub ((Opd.sub x _ τ).trans (pushes_sub _ _ _))).addFz (scV_rq ew G2)) trivial
  · exact p.elim
/-- a method of a text or of a list -/
theorem d_me (ok : XOk Φ W c X) {m : Me} (hm : m ≠ .split) {o a : Expr} {oo : Rho → R Opd} {os : Rho → R (List Opd)} {ap pos : Pos} (ho : PE X o (tO X W oo)) (ha : PA X [a] (tOs X W os)) (h0 : noCall0 o = true) (hl : (ap.endLine == pos.line) = true) (hs : noStar a = true) :
    PE X (.Call (.Attribute o m.py ap) [a] [] pos) (tO X W fun ρ => (oo ρ).bind fun x ρ1 => if ((x.see ρ1).map (meTy m)).getD false then (os ρ1).bind fun os ρ2 => R.of ((x.see ρ2).bind fun d => (sees ρ2 os).bind fun ds => (meD m d ds).map Opd.tmp) ρ2 else .no) := by
  have str := d_str ok hm ho ha h0 hl hs
  have go : ∀ {σ : St} {H : Hp} {Q : VK} {g : D → Bool} {G : Hp} {ρ ρ1 : Rho} {τ : List (V × T)} {x : Opd} {d : D}, Rel G ρ τ σ H → oo ρ = .ok x ρ1 → x.see ρ1 = some d → g d = true →
      wpR ((oo ρ).bind fun x ρ1 => if ((x.see ρ1).map (meTy m)).getD false then (os ρ1).bind fun os ρ2 => R.of ((x.see ρ2).bind fun d => (sees ρ2 os).bind fun ds => (meD m d ds).map Opd.tmp) ρ2 else .no) (fun o ρ' => ∀ v G' H', Same G G' → Rel G' ρ' (o.push v τ) σ H' → o.at_ v σ → Q v H') (ExP X W G τ σ) →
      tO X W (fun ρ => (oo ρ).bind fun x ρ1 => if ((x.see ρ1).map g).getD false then (os ρ1).bind fun os ρ2 => R.of ((x.see ρ2).bind fun d => (sees ρ2 os).bind fun ds => (meD m d ds).map Opd.tmp) ρ2 else .no) σ H Q := by
    intro σ H Q g G ρ ρ1 τ x d RR e1 e2 e3 h
    refine ⟨G, ρ, τ, RR, ?_⟩
    show wpR ((oo ρ).bind _) _ _
    rw [e1] at h ⊢
    have h : wpR (if ((x.see ρ1).map (meTy m)).getD false then (os ρ1).bind fun os ρ2 => R.of ((x.see ρ2).bind fun d => (sees ρ2 os).bind fun ds => (meD m d ds).map Opd.tmp) ρ2 else .no) _ _ := h
    show wpR (if ((x.see ρ1).map g).getD false then (os ρ1).bind fun os ρ2 => R.of ((x.see ρ2).bind fun d => (sees ρ2 os).bind fun ds => (meD m d ds).map Opd.tmp) ρ2 else .no) _ _
    rw [e2] at h ⊢
    show wpR (if g d = true then _ else _) _ _
    rw [if_pos e3]
    have h : wpR (if meTy m d = true then _ else _) _ _ := h
    split at h
    · exact h
    · exact h.elim
  have exc : ∀ {σ : St} {H : Hp} {Q : VK} {g : D → Bool} {G : Hp} {ρ ρ1 : Rho} {τ : List (V × T)} {x : Ex}, Rel G ρ τ σ H → oo ρ = .exc x ρ1 →
      wpR ((oo ρ).bind fun x ρ1 => if ((x.see ρ1).map (meTy m)).getD false then (os ρ1).bind fun os ρ2 => R.of ((x.see ρ2).bind fun d => (sees ρ2 os).bind fun ds => (meD m d ds).map Opd.tmp) ρ2 else .no) (fun o ρ' => ∀ v G' H', Same G G' → Rel G' ρ' (o.push v τ) σ H' → o.at_ v σ → Q v H') (ExP X W G τ σ) →
      tO X W (fun ρ => (oo ρ).bind fun x ρ1 => if ((x.see ρ1).map g).getD false then (os ρ1).bind fun os ρ2 => R.of ((x.see ρ2).bind fun d => (sees ρ2 os).bind fun ds => (meD m d ds).map Opd.tmp) ρ2 else .no) σ H Q := by
    intro σ H Q g G ρ ρ1 τ x RR e1 h
    refine ⟨G, ρ, τ, RR, ?_⟩
    show wpR ((oo ρ).bind _) _ _
    rw [e1] at h ⊢
    exact h
  by_cases hi : m = .index
  · subst hi
    refine ((d_index ok ho ha h0 hl hs).or str).weak fun σ H Q ⟨G, ρ, τ, RR, h⟩ => ?_
    have h : wpR ((oo ρ).bind _) _ _ := h
    cases e1 : oo ρ with
    | no => rw [e1] at h; exact h.elim
    | exc x ρ1 => exact .inl (exc RR e1 h)
    | ok x ρ1 =>
      cases e2 : x.see ρ1 with
      | none =>
        rw [e1] at h
        have h : wpR (if ((x.see ρ1).map (meTy .index)).getD false then _ else _) _ _ := h
        rw [e2] at h
        exact h.elim
      | some d =>
        cases d with
        | list ds => exact .inl (go RR e1 e2 rfl h)
        | str s => exact .inr (go RR e1 e2 rfl h)
        | _ =>
          rw [e1] at h
          have h : wpR (if ((x.see ρ1).map (meTy .index)).getD false then _ else _) _ _ := h
          rw [e2] at h
          exact h.elim
  · refine str.weak fun σ H Q ⟨G, ρ, τ, RR, h⟩ => ?_
    have h : wpR ((oo ρ).bind _) _ _ := h
    cases e1 : oo ρ with
    | no => rw [e1] at h; exact h.elim
    | exc x ρ1 => exact exc RR e1 h
    | ok x ρ1 =>
      cases e2 : x.see ρ1 with
      | none =>
        rw [e1] at h
        have h : wpR (if ((x.see ρ1).map (meTy m)).getD false then _ else _) _ _ := h
        rw [e2] at h
        exact h.elim
      | some d =>
        have no : meTy m d = false → False := fun z => by
          rw [e1] at h
          have h : wpR (if ((x.see ρ1).map (meTy m)).getD false then _ else _) _ _ := h
          rw [e2] at h
          have h : wpR (if meTy m d = true then _ else _) _ _ := h
          rw [z, if_neg Bool.false_ne_true] at h
          exact h.elim
        cases d with
        | str s => exact go RR e1 e2 rfl h
        | list ds => cases m <;> first | exact absurd rfl hi | exact absurd rfl hm | exact (no rfl).elim
        | _ => cases m <;> exact (no rfl).elim
theorem d_mu (ok : XOk Φ W c X) (m : Mu) {i : Nat} {x : Str} {as : List Expr} {os : Rho → R (List D)} {p0 ap pos : Pos} (hx : c.nameOk i x = true) (ha : PA X as (tDs X W os)) (har : as.length = m.ar) (hl : (ap.endLine == pos.line) = true) (hst : ∀ y ∈ as, noStar y = true)
    (h0 : as = [] → os = fun ρ => .ok [] ρ) :
    PE X (.Call (.Attribute (.Name x p0) m.py ap) as [] pos) (tO X W fun ρ => if isOl (slotT ρ i) then (os ρ).bind (muFin m i) else .no) := by
  have slot : Slot "list" m.py m.id := by
    cases m with
    | append => exact PySem.F.slot_list_append
    | extend => exact PySem.F.slot_list_extend
    | pop => exact PySem.F.slot_list_pop
    | popAt => exact PySem.F.slot_list_pop
    | insert => exact PySem.F.slot_list_insert
  have typ : typeOf (.builtin m.id) = pure (.type "method_descriptor") := by
    cases m with
    | append => exact PySem.F.type_list_append
    | extend => exact PySem.F.type_list_extend
    | pop => exact PySem.F.type_list_pop
    | popAt => exact PySem.F.type_list_pop
    | insert => exact PySem.F.type_list_insert
  have fin : ∀ {σ : St} {H : Hp} {Q : VK}, (∃ G ρ τ, Rel G ρ τ σ H ∧ wpR ((os ρ).bind (muFin m i)) (fun o ρ' => ∀ v G' H', Same G G' → Rel G' ρ' (o.push v τ) σ H' → o.at_ v σ → Q v H') (ExP X W G τ σ)) → ∀ v, σ[i]? = some (some v) → tDs X W os σ H fun vs H1 => rMu m v vs H1 Q := by
    intro σ H Q ⟨G, ρ, τ, R, h⟩ v ev
    rw [wpR_bind] at h
    refine tDs.step R h (fun _ _ z => z) fun ds ρ1 vs G1 H1 p s1 R1 r1 => ?_
    unfold muFin at p
    cases q : slotT ρ1 i with
    | none => rw [q] at p; exact p.elim
    | some t =>
      rw [q] at p
      cases t with
      | fz _ => exact p.elim
      | od _ _ => exact p.elim
      | lk _ _ => exact p.elim
      | ol xs =>
        simp only at p
        cases em : muD m xs ds with
        | none => rw [em] at p; exact p.elim
        | some yd =>
          obtain ⟨ys, d⟩ := yd
          rw [em] at p
          obtain ⟨w, ew, R2⟩ := R1.out (slotT_some q)
          rw [ev] at ew
          cases ew
          obtain ⟨a, us, ea, g, eh, rq, put, _⟩ := R2.held.mid.ol
          subst ea
          refine ⟨G1, xs, ds, a, us, ys, d, R1.same, rfl, eh, rq, r1, em, fun u ws rw1 ru => ?_⟩
          have R3 : Rel G1 (ρ1.set i none) ((.ref a, .ol ys) :: τ) σ (upd H1 a (.lst ws)) := ⟨Same.updFree R1.same g, R2.slots, (put ws ys rw1).unmid⟩
          have R4 := Rel.lay R3 ev
          rw [List.set_set] at R4
          exact p u G1 _ s1 (R4.addFz ru) trivial
  have typed : ∀ {σ : St} {H : Hp} {Q : VK}, (∃ G ρ τ, Rel G ρ τ σ H ∧ isOl (slotT ρ i) = true) → ∃ v, σ[i]? = some (some v) ∧ tyV X.K "list" v H := by
    intro σ H Q ⟨G, ρ, τ, R, h⟩
    cases q : slotT ρ i with
    | none => rw [q] at h; cases h
    | some t =>
      rw [q] at h
      cases t with
      | fz _ => cases h
      | od _ _ => cases h
      | lk _ _ => cases h
      | ol xs =>
        obtain ⟨v, ev, hh⟩ := R.slot (slotT_some q)
        obtain ⟨a, us, ea, g, eh, rq, put, _⟩ := hh.ol
        subst ea
        exact ⟨_, ev, .inl ⟨rfl, us, SqL.rd (.inl eh)⟩⟩
  have main : ∀ {σ : St} {H : Hp} {Q : VK}, tO X W (fun ρ => if isOl (slotT ρ i) then (os ρ).bind (muFin m i) else .no) σ H Q → ∃ v, σ[i]? = some (some v) ∧ tyV X.K "list" v H ∧ tDs X W os σ H fun vs H1 => rMu m v vs H1 Q := by
    intro σ H Q ⟨G, ρ, τ, R, h⟩
    simp only at h
    split at h
    · next hk =>
      obtain ⟨v, ev, ty⟩ := typed (Q := Q) ⟨G, ρ, τ, R, hk⟩
      exact ⟨v, ev, ty, fin ⟨G, ρ, τ, R, h⟩ v ev⟩
    · exact h.elim
  have hbase : attributeBase (.Name x p0) m.py X.env (eval (.Name x p0) X.env) = eval (.Name x p0) X.env := rfl
  cases as with
  | nil =>
    refine (pe_bm0 PySem.F.plainAttrs_list slot typ (mt_mu m) (d_var ok hx) hbase hl).weak fun σ H Q q => ?_
    obtain ⟨v, ev, ty, q⟩ := main q
    refine ⟨v, ev, ty, ?_⟩
    rw [h0 rfl] at q
    obtain ⟨G, ρ, τ, R, q⟩ := q
    exact q [] G H (Same.refl _) R .nil
  | cons e es =>
    have st := star1 (hst e (List.mem_cons_self ..)) es X.env
    have rest : ∀ y ∈ es, noStar y = true := fun y hy => hst y (List.mem_cons_of_mem _ hy)
    have short : (e :: es).length < 30 := by rw [har]; cases m <;> decide
    have none1 : ∀ l : List Expr, (∀ y ∈ l, noStar y = true) → (backTo pos (starEach l X.env)).all (fun x => !x.1) = true := fun l => by
      induction l with
      | nil => intro _; rfl
      | cons a r ih =>
        intro hl
        rw [star1 (hl a (List.mem_cons_self ..))]
        show (true && (backTo pos (starEach r X.env)).all fun x => !x.1) = true
        rw [ih fun y hy => hl y (List.mem_cons_of_mem _ hy)]
        rfl
    have hfew : ((backTo pos (starEach (e :: es) X.env)).all (fun x => !x.1) && (backToKw pos (keywordEach [] X.env)).all (fun x => x.1.isSome) && decide ((e :: es).length + ([] : List Keyword).length + (if ([] : List Keyword).isEmpty then 0 else 1) < 30)) = true := by
      rw [none1 _ hst, decide_eq_true (by simpa using short)]
      rfl
    refine (pe_bm PySem.F.plainAttrs_list slot typ (mt_mu m) (d_var ok hx) ha hbase hfew hl st (plainAll rest)).weak fun σ H Q q => ?_
    exact main q
end
end L2.Eng

/-! EngD7: targets, walks, comprehensions. -/
namespace L2.Eng
open PySem PySem.Spec PyProof.Rows

/-! ### slots that are put out of sight -/
theorem hideS : ∀ {σ : St} {ρ : Rho} (i : Nat), SlotsOk σ ρ → SlotsOk (σ.set i none) (ρ.set i none) ∧ its (σ.set i none) (ρ.set i none) = its σ (ρ.set i none)
  | [], [], _, _ => ⟨trivial, rfl⟩
  | none :: σ, none :: ρ, 0, k => ⟨k, rfl⟩
  | some _ :: σ, none :: ρ, 0, k => ⟨k, rfl⟩
  | some _ :: σ, some _ :: ρ, 0, k => ⟨k, rfl⟩
  | none :: σ, none :: ρ, i + 1, k => hideS (σ := σ) (ρ := ρ) i k
  | some _ :: σ, none :: ρ, i + 1, k => hideS (σ := σ) (ρ := ρ) i k
  | some v :: σ, some t :: ρ, i + 1, k => by
    obtain ⟨a, b⟩ := hideS (σ := σ) (ρ := ρ) i k
    exact ⟨a, congrArg ((v, t) :: ·) b⟩
theorem unhideS : ∀ {σ : St} {ρ : Rho} (i : Nat), SlotsOk (σ.set i none) ρ → SlotsOk σ (ρ.set i none) ∧ its σ (ρ.set i none) = its (σ.set i none) ρ
  | [], [], _, _ => ⟨trivial, rfl⟩
  | none :: σ, none :: ρ, 0, k => ⟨k, rfl⟩
  | some _ :: σ, none :: ρ, 0, k => ⟨k, rfl⟩
  | none :: σ, none :: ρ, i + 1, k => unhideS (σ := σ) (ρ := ρ) i k
  | some _ :: σ, none :: ρ, i + 1, k => unhideS (σ := σ) (ρ := ρ) i k
  | some v :: σ, some t :: ρ, i + 1, k => by
    obtain ⟨a, b⟩ := unhideS (σ := σ) (ρ := ρ) i k
    exact ⟨a, congrArg ((v, t) :: ·) b⟩
  | none :: _, some _ :: _, 0, k => False.elim k
  | some _ :: _, some _ :: _, 0, k => False.elim k
  | none :: _, some _ :: _, _ + 1, k => False.elim k
  | none :: _, [], 0, k => False.elim k
  | none :: _, [], _ + 1, k => False.elim k
  | some _ :: _, [], 0, k => False.elim k
  | some _ :: _, [], _ + 1, k => False.elim k
  | [], _ :: _, _, k => False.elim k
theorem slotT_of {ρ : Rho} {i : Nat} {t : T} (h : ρ[i]? = some (some t)) : slotT ρ i = some t := by unfold slotT; rw [h]; rfl
theorem slotT_none {ρ : Rho} {i : Nat} (h : slotT ρ i = none) : ρ[i]? = none ∨ ρ[i]? = some none := by
  unfold slotT at h
  cases e : ρ[i]? with
  | none => exact .inl rfl
  | some o => rw [e] at h; cases o with
    | none => exact .inr rfl
    | some t => cases h
section
variable {G H : Hp} {ρ : Rho} {τ : List (V × T)} {σ : St}
theorem Rel.hide (R : Rel G ρ τ σ H) (i : Nat) : ∃ A, Rel G (ρ.set i none) (A ++ τ) (σ.set i none) H ∧ ∀ {G' : Hp} {ρ' : Rho} {τ' : List (V × T)} {H' : Hp}, Rel G' ρ' (A ++ τ') (σ.set i none) H' → Rel G' (ρ'.set i (slotT ρ i)) τ' σ H' := by
  have un : ∀ {G' : Hp} {ρ' : Rho} {τ' : List (V × T)} {H' : Hp}, Rel G' ρ' τ' (σ.set i none) H' → Rel G' (ρ'.set i none) τ' σ H' := fun {G' ρ' τ' H'} R' => by
    obtain ⟨a, b⟩ := unhideS i R'.slots
    exact ⟨R'.same, a, by rw [b]; exact R'.held⟩
  cases e : slotT ρ i with
  | none =>
    obtain ⟨a, b⟩ := hideS i R.slots
    refine ⟨[], ⟨R.same, a, ?_⟩, fun R' => un R'⟩
    rw [b, set_none_self (slotT_none e)]
    exact R.held
  | some t =>
    obtain ⟨v, ev, R1⟩ := R.out (slotT_some e)
    obtain ⟨a, b⟩ := hideS i R.slots
    refine ⟨[(v, t)], ⟨R.same, a, by rw [b]; exact R1.held⟩, fun {G' ρ' τ' H'} R' => ?_⟩
    have R2 := Rel.lay (un R') ev
    rw [List.set_set] at R2
    exact R2
theorem slotT_wipe {i : Nat} : ∀ {own : List Nat}, i ∉ own → slotT (wipeR ρ own) i = slotT ρ i
  | [], _ => rfl
  | j :: own, h => by
    have hj : j ≠ i := fun e => h (e ▸ List.mem_cons_self ..)
    show slotT ((wipeR ρ own).set j none) i = _
    unfold slotT
    rw [List.getElem?_set_ne hj]
    exact slotT_wipe fun m => h (List.mem_cons_of_mem _ m)
theorem Rel.hideAll (R : Rel G ρ τ σ H) : ∀ {own : List Nat}, own.Nodup → ∃ A, Rel G (wipeR ρ own) (A ++ τ) (L2.wipe σ own) H ∧ ∀ {G' : Hp} {ρ' : Rho} {τ' : List (V × T)} {H' : Hp}, Rel G' ρ' (A ++ τ') (L2.wipe σ own) H' → Rel G' (backR ρ ρ' own) τ' σ H'
  | [], _ => ⟨[], R, fun R' => R'⟩
  | i :: own, nd => by
    obtain ⟨n1, n2⟩ := List.nodup_cons.mp nd
    obtain ⟨A1, R1, b1⟩ := Rel.hideAll R n2
    obtain ⟨A2, R2, b2⟩ := R1.hide i
    refine ⟨A2 ++ A1, by rw [List.append_assoc]; exact R2, fun {G' ρ' τ' H'} R' => ?_⟩
    rw [List.append_assoc] at R'
    have R3 := b2 R'
    rw [slotT_wipe n1] at R3
    exact b1 R3
end
theorem wipe_same : ∀ {σ σ' : St} {own : List Nat}, σ.length = σ'.length → (∀ j, j ∉ own → σ[j]? = σ'[j]?) → wipe σ own = wipe σ' own := by
  intro σ σ' own hl h
  have at_ : ∀ (σ : St) (own : List Nat) (j : Nat), (wipe σ own)[j]? = if j ∈ own then (if j < σ.length then some none else none) else σ[j]? := by
    intro σ own
    induction own with
    | nil => intro j; simp [wipe]
    | cons i r ih =>
      intro j
      show ((wipe σ r).set i none)[j]? = _
      by_cases e : i = j
      · subst e
        rw [if_pos (List.mem_cons_self ..), List.getElem?_set_self', ih i]
        by_cases hr : i ∈ r
        · rw [if_pos hr]; split <;> simp
        · rw [if_neg hr]
          by_cases hi : i < σ.length
          · rw [if_pos hi, List.getElem?_eq_getElem hi]; rfl
          · rw [if_neg hi, List.getElem?_eq_none_iff.mpr (Nat.le_of_not_lt hi)]; rfl
      · rw [List.getElem?_set_ne e, ih j]
        have : (j ∈ i :: r) = (j ∈ r) := by simp [Ne.symm e]
        simp only [this]
  apply List.ext_getElem?
  intro j
  rw [at_, at_, hl]
  by_cases m : j ∈ own
  · rw [if_pos m, if_pos m]
  · rw [if_neg m, if_neg m]; exact h j m

/-! ### targets -/
def gAll : List Nat → TGs
  | [] => gNil
  | i :: is => gCons (gName i) (gAll is)
/-- a tuple's or a list's items, each to its target -/
def gSeq (K : PySem.W.Frag) (n : Nat) (t : TGs) : TG := fun v σ H Q => gTup K n t v σ H Q ∨ gLst K n t v σ H Q
theorem pg_seq {X : Cx} {pos : Pos} {es : List Expr} {k : Nat} {t : TGs} {n : Nat} (hc : X.calm = true) (h : PGs X es t) (hn : (assignEach es X.env).length = n) (hst : (assignEach es X.env).findIdx? (·.1) = none) : PG X (.Tuple es k pos) (gSeq X.K n t) :=
  ⟨fun pins s σ H v u Q I r hw => hw.elim (fun w => (pg_tup hc h hn hst).run pins s σ H v u Q I r w) (fun w => (pg_lst hc h hn hst).run pins s σ H v u Q I r w)⟩
def gOf (K : PySem.W.Frag) : Tg → TG
  | .one i => gName i
  | .tup is => gSeq K is.length (gAll is)
theorem storeOk_split {c : Ctx} {i : Nat} {x : Str} (h : c.storeOk i x = true) : c.N[i]? = some x ∧ locB c.sc x = true := by
  unfold Ctx.storeOk at h
  simpa using h
section
variable {Φ : Fx} {W : WX} {c : Ctx} {X : Cx}
theorem g_name (ok : XOk Φ W c X) {i : Nat} {x : Str} {pos : Pos} (h : c.storeOk i x = true) : PG X (.Name x pos) (gName i) := by
  obtain ⟨h1, h2⟩ := storeOk_split h
  exact pg_name (by rw [ok.hN]; exact ok.nd) (by rw [ok.hN]; exact h1) (ok.scp.loc x h2).1 (ok.scp.loc x h2).2
theorem g_names (ok : XOk Φ W c X) : ∀ {is : List Nat} {es : List Expr}, ckTgs c is es = true → PGs X es (gAll is) ∧ (assignEach es X.env).length = is.length ∧ (assignEach es X.env).findIdx? (·.1) = none
  | [], [], _ => ⟨pgs_nil, rfl, rfl⟩
  | i :: is, .Name x p :: es, h => by
    simp only [ckTgs, Bool.and_eq_true] at h
    obtain ⟨a, b, d⟩ := g_names ok h.2
    refine ⟨pgs_cons (g_name ok h.1) a (by rfl), ?_, ?_⟩
    · show (assignEach es X.env).length + 1 = _
      rw [b]; rfl
    · show List.findIdx? (fun x => x.1) ((false, assign (.Name x p) X.env) :: assignEach es X.env) = none
      rw [List.findIdx?_cons]
      simp [d]
  | [], _ :: _, h => by simp [ckTgs] at h
  | _ :: _, [], h => by simp [ckTgs] at h
theorem g_of (ok : XOk Φ W c X) {tg : Tg} {e : Expr} (h : ckTg c tg e = true) : PG X e (gOf X.K tg) := by
  cases tg with
  | one i =>
    cases e <;> simp only [ckTg] at h <;> try contradiction
    exact g_name ok h
  | tup is =>
    cases e <;> simp only [ckTg] at h <;> try contradiction
    obtain ⟨a, b, d⟩ := g_names ok h
    exact pg_seq ok.calm a b d
end
section
variable {G H : Hp} {ρ : Rho} {τ : List (V × T)} {σ : St}
/-- the slots but these are as they were -/
def But (l : List Nat) (σ σ' : St) : Prop := σ'.length = σ.length ∧ ∀ j, j ∉ l → σ'[j]? = σ[j]?
theorem But.refl (l : List Nat) (σ : St) : But l σ σ := ⟨rfl, fun _ _ => rfl⟩
theorem But.trans {l : List Nat} {σ σ1 σ2 : St} (a : But l σ σ1) (b : But l σ1 σ2) : But l σ σ2 := ⟨b.1.trans a.1, fun j h => (b.2 j h).trans (a.2 j h)⟩
theorem But.mono {l m : List Nat} {σ σ1 : St} (a : But l σ σ1) (h : ∀ i ∈ l, i ∈ m) : But m σ σ1 := ⟨a.1, fun j hj => a.2 j fun z => hj (h j z)⟩
theorem But.set (σ : St) (i : Nat) (v : Option V) : But [i] σ (σ.set i v) := ⟨by simp, fun j h => by rw [List.getElem?_set_ne]; intro e; exact h (by simp [e])⟩
theorem put_many {K : PySem.W.Frag} : ∀ {is : List Nat} {vs : List V} {ds : List D} {ρ ρ1 : Rho} {σ : St} {Q : St → Hp → Prop}, Rel G ρ τ σ H → RqAll G vs ds → setMany is ds ρ = some ρ1 → (∀ i ∈ is, i < σ.length) →
    (∀ σ2, Rel G ρ1 τ σ2 H → But is σ σ2 → Q σ2 H) → gAll is vs σ H Q
  | [], [], [], ρ, ρ1, σ, Q, R, _, e, _, k => by
    cases e
    exact ⟨rfl, k σ R (.refl _ _)⟩
  | i :: is, v :: vs, d :: ds, ρ, ρ1, σ, Q, R, .cons r rs, e, hl, k => by
    refine ⟨v, vs, rfl, ?_⟩
    have R1 : Rel G (ρ.set i (some (.fz d))) τ (σ.set i (some v)) H := (R.addFz r).store (hl i (List.mem_cons_self ..))
    refine put_many (K := K) R1 rs e (fun j hj => by rw [List.length_set]; exact hl j (List.mem_cons_of_mem _ hj)) fun σ2 R2 b => ?_
    exact k σ2 R2 (((But.set σ i (some v)).mono fun j hj => by simp at hj; subst hj; exact List.mem_cons_self ..).trans (b.mono fun j hj => List.mem_cons_of_mem _ hj))
  | [], _ :: _, [], _, _, _, _, _, h, _, _, _ => by cases h
  | [], [], _ :: _, _, _, _, _, _, h, _, _, _ => by cases h
  | [], _ :: _, _ :: _, _, _, _, _, _, _, e, _, _ => by simp [setMany] at e
  | _ :: _, [], [], _, _, _, _, _, _, e, _, _ => by simp [setMany] at e
  | _ :: _, _ :: _, [], _, _, _, _, _, h, _, _, _ => by cases h
  | _ :: _, [], _ :: _, _, _, _, _, _, h, _, _, _ => by cases h
theorem setMany_len : ∀ {is : List Nat} {ds : List D} {ρ ρ1 : Rho}, setMany is ds ρ = some ρ1 → ds.length = is.length := by
  intro is
  induction is with
  | nil => intro ds ρ ρ1 h; cases ds <;> simp_all [setMany]
  | cons i r ih => intro ds ρ ρ1 h; cases ds with
    | nil => simp [setMany] at h
    | cons d ds => simp only [setMany] at h; simp [ih h]
theorem put_tg {K : PySem.W.Frag} {tg : Tg} {v : V} {d : D} {ρ1 : Rho} {Q : St → Hp → Prop} (R : Rel G ρ τ σ H) (r : Rq G v d) (e : tg.put d ρ = some ρ1) (hl : ∀ i ∈ tg.is, i < σ.length)
    (k : ∀ σ2, Rel G ρ1 τ σ2 H → But tg.is σ σ2 → Q σ2 H) : gOf K tg v σ H Q := by
  cases tg with
  | one i =>
    cases e
    exact k _ ((R.addFz r).store (hl i (by simp [Tg.is]))) (But.set σ i (some v))
  | tup is =>
    cases d with
    | tuple ds =>
      obtain ⟨a, vs, rfl, ra, rs⟩ := r.tup'
      simp only [Tg.put] at e
      exact .inl ⟨a, vs, rfl, SqT.rd (Rd.mono R.same ra), by rw [rs.length, setMany_len e], put_many (K := K) R rs e hl k⟩
    | list ds =>
      obtain ⟨a, vs, rfl, ra, rs⟩ := r.lst'
      simp only [Tg.put] at e
      exact .inr ⟨a, vs, rfl, SqL.rd (Rd.mono R.same ra), by rw [rs.length, setMany_len e], put_many (K := K) R rs e hl k⟩
    | _ => simp [Tg.put] at e
end
theorem ckTg_lt {Φ : Fx} {W : WX} {c : Ctx} {X : Cx} (ok : XOk Φ W c X) {tg : Tg} {e : Expr} (h : ckTg c tg e = true) : ∀ i ∈ tg.is, i < X.N.length := by
  have one : ∀ {i : Nat} {x : Str}, c.storeOk i x = true → i < X.N.length := fun {i x} h => by
    rw [ok.hN]
    exact (List.getElem?_eq_some_iff.mp (storeOk_split h).1).1
  cases tg with
  | one i =>
    cases e <;> simp only [ckTg] at h <;> try contradiction
    intro j hj
    simp [Tg.is] at hj
    subst hj
    exact one h
  | tup is =>
    cases e <;> simp only [ckTg] at h <;> try contradiction
    rename_i es _ _
    show ∀ i ∈ is, _
    revert es
    induction is with
    | nil => intro _ _ i hi; cases hi
    | cons i r ih =>
      intro es h j hj
      cases es with
      | nil => simp [ckTgs] at h
      | cons e es =>
        cases e <;> simp only [ckTgs] at h <;> try contradiction
        simp only [Bool.and_eq_true] at h
        rcases List.mem_cons.mp hj with rfl | hj
        · exact one h.1
        · exact ih es h.2 j hj
end L2.Eng

/-! EngD8: walks, comprehensions. -/
namespace L2.Eng
open PySem PySem.Spec PyProof.Rows

/-! ### walks -/
def SrcOk (G0 : Hp) (src : Src) (J : L2.It) (A : List (V × T)) (σ : St) : Prop :=
  ∀ (G : Hp) (ρ : Rho) (τ : List (V × T)) (σ' : St) (H : Hp), Same G0 G → Rel G ρ (A ++ τ) σ' H → (∀ k i n, src = .sl k i n → slotT ρ i ≠ none → σ'[i]? = σ[i]?) →
    (∀ j d, j < src.len → src.item j ρ = some d → J.go j H ∧ ∀ x H', J.yld j H x H' → H' = H ∧ Rq G x d) ∧ (src.fin ρ = true → J.stop src.len H)
section
variable (X : Cx) (W : WX)
def tI (f : Rho → R Src) : TI := fun σ H Rk => ∃ G ρ τ, Rel G ρ τ σ H ∧ wpR (f ρ) (fun src ρ' => ∀ J A G' H', Same G G' → Rel G' ρ' (A ++ τ) σ H' → SrcOk G' src J A σ → Rk J H') (ExP X W G τ σ)
end
theorem _root_.L2.PI.weak {X : Cx} {tg e : Expr} {t t' : TI} (h : PI X tg e t) (w : ∀ σ H R, t' σ H R → t σ H R) : PI X tg e t' := ⟨fun pins s σ H R I q => h.run pins s σ H R I (w _ _ _ q)⟩
theorem _root_.L2.PI.or {X : Cx} {tg e : Expr} {t t' : TI} (h : PI X tg e t) (h' : PI X tg e t') : PI X tg e (fun σ H R => t σ H R ∨ t' σ H R) :=
  ⟨fun pins s σ H R I q => q.elim (h.run pins s σ H R I) (h'.run pins s σ H R I)⟩
theorem itl_item {K : PySem.W.Frag} {G H : Hp} {a : Addr} {ds : List D} {j : Nat} {d : D} (s : Same G H) (w : Vw G H (.ref a) (.list ds)) (e : ds[j]? = some d) : (Itl K a).go j H ∧ ∀ x H', (Itl K a).yld j H x H' → H' = H ∧ Rq G x d := by
  obtain ⟨b, vs, eb, r, k⟩ := w.lst s
  cases eb
  obtain ⟨v, ev, rv⟩ := k.get e
  refine ⟨⟨vs, v, SqL.rd r, ev⟩, fun x H' ⟨eH, hx⟩ => ⟨eH, ?_⟩⟩
  have := hx vs (SqL.rd r)
  rw [ev] at this
  cases this
  exact rv
theorem itl_stop {K : PySem.W.Frag} {G H : Hp} {a : Addr} {ds : List D} (s : Same G H) (w : Vw G H (.ref a) (.list ds)) : (Itl K a).stop ds.length H := by
  obtain ⟨b, vs, eb, r, k⟩ := w.lst s
  cases eb
  exact ⟨vs, SqL.rd r, by rw [k.length]; exact Nat.le_refl _⟩
theorem itt_item {K : PySem.W.Frag} {G H : Hp} {a : Addr} {ds : List D} {j : Nat} {d : D} (s : Same G H) (w : Vw G H (.ref a) (.tuple ds)) (e : ds[j]? = some d) : (Itt K a).go j H ∧ ∀ x H', (Itt K a).yld j H x H' → H' = H ∧ Rq G x d := by
  obtain ⟨b, vs, eb, r, k⟩ := w.tup s
  cases eb
  obtain ⟨v, ev, rv⟩ := k.get e
  refine ⟨⟨vs, v, SqT.rd r, ev⟩, fun x H' ⟨eH, hx⟩ => ⟨eH, ?_⟩⟩
  have := hx vs (SqT.rd r)
  rw [ev] at this
  cases this
  exact rv
theorem itt_stop {K : PySem.W.Frag} {G H : Hp} {a : Addr} {ds : List D} (s : Same G H) (w : Vw G H (.ref a) (.tuple ds)) : (Itt K a).stop ds.length H := by
  obtain ⟨b, vs, eb, r, k⟩ := w.tup s
  cases eb
  exact ⟨vs, SqT.rd r, by rw [k.length]; exact Nat.le_refl _⟩
theorem vw_inj {G H : Hp} {v : V} {d e : D} : ∀ _ : Vw G H v d, True := fun _ => trivial
/-- the slot i refers to a and holds a list: the list's kind stays -/
theorem slot_vw {G H : Hp} {ρ : Rho} {τ : List (V × T)} {σ : St} {i : Nat} {v : V} {d : D} (R : Rel G ρ τ σ H) (e : (slotT ρ i).bind T.view = some d) (ev : σ[i]? = some (some v)) : Vw G H v d := by
  cases q : slotT ρ i with
  | none => rw [q] at e; cases e
  | some t =>
    rw [q] at e
    obtain ⟨w, e1, h⟩ := R.slot (slotT_some q)
    rw [ev] at e1
    cases e1
    exact h.vw e
theorem lst_not_tup {G H : Hp} {a : Addr} {ds es : List D} (s : Same G H) (w : Vw G H (.ref a) (.list ds)) (w' : Vw G H (.ref a) (.tuple es)) : False := by
  obtain ⟨b, vs, eb, r, _⟩ := w.lst s
  obtain ⟨b', vs', eb', r', _⟩ := w'.tup s
  cases eb
  cases eb'
  rcases r with r | ⟨o, r⟩ <;> rcases r' with r' | ⟨o', r'⟩ <;> rw [r] at r' <;> cases r'
section
variable {Φ : Fx} {W : WX} {c : Ctx} {X : Cx}
def opdI (o : Rho → R Opd) (ρ : Rho) : R Src := (o ρ).bind fun x ρ1 => R.of ((x.see ρ1).bind (srcD x)) ρ1
/-- a text's signs -/
theorem srcS {G0 : Hp} {s : Str} {σ : St} : SrcOk G0 (.tmp false (signsD s)) (Its s) [] σ := fun G ρ τ σ' H _ R _ => by
  have len : (signsD s).length = s.cps.size := by
    unfold signsD
    rw [List.length_map, Array.length_toList]
  refine ⟨fun j d hj e => ?_, fun _ => ?_⟩
  · have hj' : j < s.cps.size := by rw [← len]; exact hj
    refine ⟨hj', fun x H' ⟨eH, c, hc, ex⟩ => ⟨eH, ?_⟩⟩
    have e : (signsD s)[j]? = some d := e
    unfold signsD at e
    rw [List.getElem?_map, Array.getElem?_toList, hc] at e
    cases e
    rw [ex]
    exact .str _
  · show s.cps.size ≤ (signsD s).length
    rw [len]
    exact Nat.le_refl _
/-- the operand's own temporary thing -/
def Opd.own (o : Opd) (v : V) : List (V × T) := match o with
  | .tmp t => [(v, t)]
  | .sl _ => []
theorem Opd.push_own (o : Opd) (v : V) (τ : List (V × T)) : o.push v τ = o.own v ++ τ := by cases o <;> rfl
theorem fin_at {k : Bool} {i n : Nat} {ρ : Rho} (h : (Src.sl k i n).fin ρ = true) : ∃ d ds, (slotT ρ i).bind T.view = some d ∧ seqK k d = some ds ∧ ds.length = n := by
  simp only [Src.fin] at h
  cases e : (slotT ρ i).bind T.view with
  | none => rw [e] at h; cases h
  | some d =>
    rw [e] at h
    simp only [Option.bind_some] at h
    cases e2 : seqK k d with
    | none => rw [e2] at h; cases h
    | some ds => rw [e2] at h; exact ⟨d, ds, rfl, e2, of_decide_eq_true h⟩
theorem item_at {k : Bool} {i n j : Nat} {ρ : Rho} {z : D} (h : (Src.sl k i n).item j ρ = some z) : ∃ d ds, (slotT ρ i).bind T.view = some d ∧ seqK k d = some ds ∧ ds[j]? = some z := by
  simp only [Src.item] at h
  cases e : (slotT ρ i).bind T.view with
  | none => rw [e] at h; cases h
  | some d =>
    rw [e] at h
    simp only [Option.bind_some] at h
    cases e2 : seqK k d with
    | none => rw [e2] at h; cases h
    | some ds =>
      rw [e2] at h
      simp only [Option.bind_some] at h
      split at h
      · exact ⟨d, ds, rfl, e2, h⟩
      · cases h
theorem slot_ne {ρ : Rho} {i : Nat} {d : D} (h : (slotT ρ i).bind T.view = some d) : slotT ρ i ≠ none := by
  intro e
  rw [e] at h
  cases h
theorem srcL {G0 : Hp} {x : Opd} {a : Addr} {ds : List D} {σ : St} (K : PySem.W.Frag) (h : x.at_ (.ref a) σ) (hv : ∀ t, x = .tmp t → t.view = some (.list ds)) : SrcOk G0 (opdSrc x (false, ds)) (Itl K a) (x.own (.ref a)) σ := by
  intro G ρ τ σ' H _ R keep
  cases x with
  | tmp t =>
    have w : Vw G H (.ref a) (.list ds) := (Rel.tmp (A := []) R).vw (hv t rfl)
    exact ⟨fun j d _ e => itl_item R.same w e, fun _ => itl_stop R.same w⟩
  | sl i =>
    refine ⟨fun j d _ e => ?_, fun e => ?_⟩
    · obtain ⟨z, es, e1, e2, e3⟩ := item_at e
      have ev := (keep false i _ rfl (slot_ne e1)).trans h
      have w := slot_vw R e1 ev
      cases z <;> simp only [seqK] at e2 <;> try contradiction
      cases e2
      exact itl_item R.same w e3
    · obtain ⟨z, es, e1, e2, e3⟩ := fin_at e
      have ev := (keep false i _ rfl (slot_ne e1)).trans h
      have w := slot_vw R e1 ev
      cases z <;> simp only [seqK] at e2 <;> try contradiction
      cases e2
      have := itl_stop (K := K) R.same w
      rw [e3] at this
      exact this
theorem srcT {G0 : Hp} {x : Opd} {a : Addr} {ds : List D} {σ : St} (K : PySem.W.Frag) (h : x.at_ (.ref a) σ) (hv : ∀ t, x = .tmp t → t.view = some (.tuple ds)) : SrcOk G0 (opdSrc x (true, ds)) (Itt K a) (x.own (.ref a)) σ := by
  intro G ρ τ σ' H _ R keep
  cases x with
  | tmp t =>
    have w : Vw G H (.ref a) (.tuple ds) := (Rel.tmp (A := []) R).vw (hv t rfl)
    exact ⟨fun j d _ e => itt_item R.same w e, fun _ => itt_stop R.same w⟩
  | sl i =>
    refine ⟨fun j d _ e => ?_, fun e => ?_⟩
    · obtain ⟨z, es, e1, e2, e3⟩ := item_at e
      have ev := (keep true i _ rfl (slot_ne e1)).trans h
      have w := slot_vw R e1 ev
      cases z <;> simp only [seqK] at e2 <;> try contradiction
      cases e2
      exact itt_item R.same w e3
    · obtain ⟨z, es, e1, e2, e3⟩ := fin_at e
      have ev := (keep true i _ rfl (slot_ne e1)).trans h
      have w := slot_vw R e1 ev
      cases z <;> simp only [seqK] at e2 <;> try contradiction
      cases e2
      have := itt_stop (K := K) R.same w
      rw [e3] at this
      exact this
theorem i_opd {e tg : Expr} {o : Rho → R Opd} (he : PE X e (tO X W o)) : PI X tg e (tI X W (opdI o)) := by
  refine (((pi_list he).or (pi_tup he)).or (pi_str he)).weak fun σ H Rk ⟨G, ρ, τ, R, h⟩ => ?_
  unfold opdI at h
  rw [wpR_bind] at h
  cases ho : o ρ with
  | no => rw [ho] at h; exact h.elim
  | exc x ρ1 => exact .inl (.inl ⟨G, ρ, τ, R, by rw [ho] at h ⊢; exact h⟩)
  | ok x ρ1 =>
    rw [ho] at h
    obtain ⟨src, es, p⟩ := wpR_of (show wpR (Eng.R.of _ ρ1) _ _ from h)
    cases ed : x.see ρ1 with
    | none => rw [ed] at es; cases es
    | some d =>
      rw [ed] at es
      have hv : ∀ t, x = .tmp t → t.view = some d := fun t et => by subst et; exact ed
      cases d with
      | list ds =>
        cases es
        refine .inl (.inl ⟨G, ρ, τ, R, ?_⟩)
        rw [ho]
        intro v G1 H1 s1 R1 a1
        obtain ⟨a, vs, rfl, r, k⟩ := (Opd.vw (A := []) R1 a1 ed).lst R1.same
        refine ⟨a, rfl, ⟨vs, SqL.rd r⟩, p _ (x.own (.ref a)) G1 H1 s1 ?_ (srcL X.K a1 hv)⟩
        rw [← Opd.push_own]
        exact R1
      | tuple ds =>
        cases es
        refine .inl (.inr ⟨G, ρ, τ, R, ?_⟩)
        rw [ho]
        intro v G1 H1 s1 R1 a1
        obtain ⟨a, vs, rfl, r, k⟩ := (Opd.vw (A := []) R1 a1 ed).tup R1.same
        refine ⟨a, rfl, ⟨vs, SqT.rd r⟩, p _ (x.own (.ref a)) G1 H1 s1 ?_ (srcT X.K a1 hv)⟩
        rw [← Opd.push_own]
        exact R1
      | str s =>
        cases es
        refine .inr ⟨G, ρ, τ, R, ?_⟩
        rw [ho]
        intro v G1 H1 s1 R1 a1
        have ev := (Opd.vw (A := []) R1 a1 ed).str
        subst ev
        exact ⟨s, rfl, p _ [] G1 H1 s1 (R1.sub (Opd.sub _ _ _)) srcS⟩
      | _ => cases es
theorem srcR {G0 : Hp} {lo c : Int} {n : Nat} {σ : St} : SrcOk G0 (.rng lo c n) (Itc lo c n) [] σ := fun G ρ τ σ' H _ R _ =>
  ⟨fun j d hj e => ⟨hj, fun x H' ⟨eH, ex⟩ => ⟨eH, by cases e; rw [ex]; exact .int _⟩⟩, fun _ => Nat.le_refl n⟩
theorem srcR1 {G0 : Hp} {lo : Int} {n : Nat} {σ : St} : SrcOk G0 (.rng lo 1 n) (Itr lo n) [] σ := fun G ρ τ σ' H _ R _ =>
  ⟨fun j d hj e => ⟨hj, fun x H' ⟨eH, ex⟩ => ⟨eH, by cases e; rw [ex, Int.mul_one]; exact .int _⟩⟩, fun _ => Nat.le_refl n⟩
theorem rngOk_split {i j : Int} (h : rngOk i j = true) : -(2 ^ 62) ≤ i ∧ i < 2 ^ 62 ∧ -(2 ^ 62) ≤ j ∧ j < 2 ^ 62 := of_decide_eq_true h
def rng1I (o : Rho → R Opd) (ρ : Rho) : R Src := (o ρ).bind fun x ρ1 => R.of ((x.see ρ1).bind fun d => match d with | .int j => if rngOk 0 j then some (.rng 0 1 j.toNat) else none | _ => none) ρ1
theorem i_rng1 (ok : XOk Φ W c X) {a tg : Expr} {oa : Rho → R Opd} {p pos : Pos} (h1 : c.bltOk "range" = true) (ha : PE X a (tO X W oa)) (hs : noStar a = true) : PI X tg (.Call (.Name "range" p) [a] [] pos) (tI X W (rng1I oa)) := by
  obtain ⟨g1, g2, _, _⟩ := ok.blt h1
  refine (pi_range1 g1 g2 (pa_cons ha pa_nil (star1 hs _ _)) (star1 hs _ _)).weak fun σ H Rk ⟨G, ρ, τ, R, h⟩ => ?_
  unfold rng1I at h
  rw [wpR_bind] at h
  refine tO.step R h (fun _ _ z => z) fun x ρ1 v G1 H1 p s1 R1 a1 => ?_
  obtain ⟨src, e, p⟩ := wpR_of p
  cases ed : x.see ρ1 with
  | none => rw [ed] at e; cases e
  | some d =>
    rw [ed] at e
    cases d with
    | int j =>
      simp only [Option.bind_some] at e
      split at e
      · next hj =>
        cases e
        have w : Vw G1 H1 v (.int j) := Opd.vw (A := []) R1 a1 ed
        obtain ⟨_, _, b3, b4⟩ := rngOk_split hj
        exact ⟨j, by rw [w.int], b3, b4, p _ [] G1 H1 s1 (R1.sub (Opd.sub _ _ _)) srcR1⟩
      · cases e
    | _ => cases e
def rng2I (oa ob : Rho → R Opd) (ρ : Rho) : R Src := (oa ρ).bind fun x ρ1 => (ob ρ1).bind fun y ρ2 => R.of ((x.see ρ2).bind fun d => (y.see ρ2).bind fun e => match d, e with | .int i, .int j => if rngOk i j then some (.rng i 1 (j - i).toNat) else none | _, _ => none) ρ2
theorem i_rng2 (ok : XOk Φ W c X) {a b tg : Expr} {oa ob : Rho → R Opd} {p pos : Pos} (h1 : c.bltOk "range" = true) (ha : PE X a (tO X W oa)) (hs : noStar a = true) (hb : PE X b (tO X W ob)) (hs2 : noStar b = true) :
    PI X tg (.Call (.Name "range" p) [a, b] [] pos) (tI X W (rng2I oa ob)) := by
  obtain ⟨g1, g2, _, _⟩ := ok.blt h1
  refine (pi_range2 g1 g2 (pa_cons ha (pa_cons hb pa_nil (star1 hs2 _ _)) (star1 hs _ _)) (by rw [star1 hs, star1 hs2]; rfl) (star1 hs2 _ _)).weak fun σ H Rk ⟨G, ρ, τ, R, h⟩ => ?_
  unfold rng2I at h
  simp only [wpR_bind] at h
  refine d_two (a := a) (b := b) R h fun x y v w ρ2 G2 H2 p s R2 a1 a2 => ?_
  obtain ⟨src, e, p⟩ := wpR_of p
  obtain ⟨d, f, e1, e2, e⟩ := bind2 e
  cases d with
  | int i =>
    cases f with
    | int j =>
      simp only at e
      split at e
      · next hj =>
        cases e
        have w1 := (Opd.vw2 R2 a1 e1).int
        have w2 := (Opd.vw (A := []) R2 a2 e2).int
        exact ⟨i, j, by rw [w1, w2], rngOk_split hj, p _ [] G2 H2 s (R2.sub (Opd.sub2 _ _ _ _ _)) srcR1⟩
      · cases e
    | _ => cases e
  | _ => cases e
def revR1I (o : Rho → R Opd) (ρ : Rho) : R Src := (o ρ).bind fun x ρ1 => R.of ((x.see ρ1).bind fun d => match d with | .int j => if rngOk 0 j then some (.rng ((j.toNat : Int) - 1) (-1) j.toNat) else none | _ => none) ρ1
theorem i_revR1 (ok : XOk Φ W c X) {a tg : Expr} {oa : Rho → R Opd} {p p2 pos pos2 : Pos} (h0 : c.bltOk "reversed" = true) (h1 : c.bltOk "range" = true) (ha : PE X a (tO X W oa)) (hs : noStar a = true) :
    PI X tg (.Call (.Name "reversed" p) [.Call (.Name "range" p2) [a] [] pos2] [] pos) (tI X W (revR1I oa)) := by
  obtain ⟨f1, f2, _, _⟩ := ok.blt h0
  obtain ⟨g1, g2, _, _⟩ := ok.blt h1
  refine (pi_revR f1 f2 (prg_1 g1 g2 ha (star1 hs _ _)) (by rfl)).weak fun σ H Rk ⟨G, ρ, τ, R, h⟩ => ?_
  unfold revR1I at h
  rw [wpR_bind] at h
  refine tO.step R h (fun _ _ z => z) fun x ρ1 v G1 H1 p s1 R1 a1 => ?_
  obtain ⟨src, e, p⟩ := wpR_of p
  cases ed : x.see ρ1 with
  | none => rw [ed] at e; cases e
  | some d =>
    rw [ed] at e
    cases d with
    | int j =>
      simp only [Option.bind_some] at e
      split at e
      · next hj =>
        cases e
        have w : Vw G1 H1 v (.int j) := Opd.vw (A := []) R1 a1 ed
        obtain ⟨_, _, b3, b4⟩ := rngOk_split hj
        refine ⟨j, w.int, by decide, by decide, b3, b4, p _ [] G1 H1 s1 (R1.sub (Opd.sub _ _ _)) ?_⟩
        have e1 : (j - 0).toNat = j.toNat := by rw [Int.sub_zero]
        rw [e1, Int.zero_add]
        exact srcR
      · cases e
    | _ => cases e
end
end L2.Eng

/-! EngD9: comprehensions. -/
namespace L2.Eng
open PySem PySem.Spec PyProof.Rows

theorem _root_.L2.PE.weakL {X : Cx} {e : Expr} {t t' : TE} (h : PE X e t) (w : ∀ σ H Q, σ.length = X.N.length → t' σ H Q → t σ H Q) : PE X e t' := ⟨fun pins s σ H Q I q => h.run pins s σ H Q I (w _ _ _ I.len q)⟩
theorem lookup_mapK (P : Str → NameKind → Bool) : ∀ {names : List (Str × NameKind)} {x : Str} {k : NameKind}, names.lookup x = some k →
    (names.map fun (n, k) => if P n k = true then (n, NameKind.cell) else (n, k)).lookup x = some (if P x k = true then .cell else k)
  | [], _, _, h => by simp at h
  | (n, k₀) :: r, x, k, h => by
    rw [List.map_cons]
    by_cases e : x = n
    · subst e
      have h1 : k₀ = k := by simpa [List.lookup] using h
      subst h1
      by_cases q : P x k₀ = true
      · simp [List.lookup, q]
      · simp [List.lookup, q]
    · have b : (x == n) = false := beq_eq_false_iff_ne.mpr e
      have h1 : r.lookup x = some k := by simpa [List.lookup, b] using h
      have ih := lookup_mapK P h1
      show List.lookup x ((if P n k₀ = true then (n, NameKind.cell) else (n, k₀)) :: _) = _
      by_cases q : P n k₀ = true
      · rw [if_pos q]
        show (match x == n with | true => some NameKind.cell | false => List.lookup x _) = _
        rw [b]
        exact ih
      · rw [if_neg q]
        show (match x == n with | true => some k₀ | false => List.lookup x _) = _
        rw [b]
        exact ih
section
variable {Φ : Fx} {W : WX} {c : Ctx} {X : Cx}
theorem takesN0 {X : Cx} : L2N.Takes X (fun _ _ _ _ => False) := fun _ _ ⟨_, _, _, _, _, _, _, _, _, _, _, _, _, _, _, _, w⟩ => w.elim
theorem visB_of {sc : Scope} {x : Str} (h : visB sc x = true) : ∃ k, sc.names.lookup x = some k ∧ (k = .local ∨ k = .cell ∨ k = .free) := by
  unfold visB at h
  split at h <;> first | (exact ⟨_, ‹_›, by simp⟩) | cases h
theorem locB_of {sc : Scope} {x : Str} (h : locB sc x = true) : ∃ k, sc.names.lookup x = some k ∧ (k = .local ∨ k = .cell) := by
  unfold locB at h
  split at h <;> first | (exact ⟨_, ‹_›, by simp⟩) | cases h
theorem glbB_of {sc : Scope} {x : Str} (h : glbB sc x = true) : sc.names.lookup x = some .globalImplicit := by
  unfold glbB at h
  split at h <;> first | assumption | cases h
theorem XOk.bblk (ok : XOk Φ W c X) {W1 : WX} {s : Shared} {H : Hp} {scope : Scope} {cl : List (Str × Addr)} {C : Addr} {fp : List Addr} {xb : Value → Shared → Prop}
    (tk : L2N.Takes (bblk X s H scope (compEnvC scope cl C X.env) fp xb) W1) (air : Air (bblk X s H scope (compEnvC scope cl C X.env) fp xb) W1) : XOk Φ W1 ⟨c.N, scope, c.tb⟩ (bblk X s H scope (compEnvC scope cl C X.env) fp xb) := by
  have look : ∀ {x : Str} {k : NameKind}, scope.names.lookup x = some k → ∃ k', (compEnvC scope cl C X.env).scope.names.lookup x = some k' ∧ (k' = k ∨ (k = .free ∧ k' = .cell)) := by
    intro x k h
    have q := lookup_mapK (fun n k => k == .free && X.env.scope.kind == .function && X.env.kindOf n == some .cell) h
    refine ⟨_, q, ?_⟩
    split
    · next hb =>
      simp only [Bool.and_eq_true] at hb
      cases k <;> first | exact .inr ⟨rfl, rfl⟩ | (exact absurd hb.1.1 (by decide))
    · exact .inl rfl
  refine ⟨ok.hN, ok.nd, ⟨fun x h => ?_, fun x h => ?_, fun x h => ?_, fun x h => ?_⟩, ok.calm, ok.hu, tk, air, ok.mod⟩
  · obtain ⟨k, e, hk⟩ := visB_of h
    obtain ⟨k', e', hk'⟩ := look e
    rcases hk' with rfl | ⟨rfl, rfl⟩
    · rcases hk with rfl | rfl | rfl
      · exact .inl e'
      · exact .inr (.inl e')
      · exact .inr (.inr e')
    · exact .inr (.inl e')
  · obtain ⟨k', e', hk'⟩ := look (glbB_of h)
    rcases hk' with rfl | ⟨h1, _⟩
    · exact e'
    · cases h1
  · obtain ⟨k, e, hk⟩ := locB_of h
    obtain ⟨k', e', hk'⟩ := look e
    rcases hk' with rfl | ⟨rfl, rfl⟩
    · rcases hk with rfl | rfl
      · exact ⟨.inl e', .inr e'⟩
      · refine ⟨.inr e', .inl ?_⟩
        show (scope.names.lookup x == some .cell) = true
        rw [e]
        rfl
    · rcases hk with h | h <;> cases h
  · rcases h with h | h
    · obtain ⟨k', e', hk'⟩ := look h
      rcases hk' with rfl | ⟨h1, _⟩
      · exact .inl e'
      · cases h1
    · obtain ⟨k', e', hk'⟩ := look h
      rcases hk' with rfl | ⟨_, rfl⟩
      · exact .inr e'
      · exact .inl e'
theorem XOk.blk (ok : XOk Φ W c X) {s : Shared} {H : Hp} {scope : Scope} {cl : List (Str × Addr)} {C : Addr} {fp : List Addr} :
    XOk Φ (fun _ _ _ _ => False) ⟨c.N, scope, c.tb⟩ (X.blk s H scope (compEnvC scope cl C X.env) fp) := by
  obtain ⟨fe, out, L, hs, hf, hx, _⟩ := ok.air
  exact ok.bblk (xb := fun _ _ => False) takesN0 ⟨fe, out, L, hs, hf, hx, fun _ _ ⟨_, _, _, _, _, _, _, _, _, _, _, _, _, _, _, _, w⟩ => w.elim⟩
theorem blk_of (ok : XOk Φ W c X) {scope : Scope} {own : List (Str × Nat)} (h : blkC c.N c.sc scope own = true) : BlkOk X.N X.env.scope scope own := by
  have b := blkOk_by h
  rw [ok.hN]
  exact ⟨b.kind, b.uniq, b.ix, fun y hy e => ok.scp.free y.1 (b.free y hy e), b.own⟩
theorem c_nil : PTs X [] (tK X W fun ρ => .ok true ρ) := ⟨fun pins s σ H Q I ⟨G, ρ, τ, R, h⟩ => pts_nil.run pins s σ H Q I (h G H (Same.refl _) R)⟩
theorem c_one {e : Expr} {C : Rho → R Bool} (h : PT X e (tK X W C)) : PTs X [e] (tK X W C) := pts_one h
theorem perm4 {α : Type} (x : α) (A B C : List α) : (x :: (A ++ (B ++ C))).Perm (B ++ (x :: (A ++ C))) := by
  refine (List.Perm.cons x (List.perm_append_comm_assoc A B C)).trans ?_
  exact List.perm_middle.symm
theorem perm5 {α : Type} (x : α) (A B C : List α) : (x :: (A ++ (B ++ C))).Perm (A ++ (B ++ (x :: C))) := by
  have h1 : (x :: (A ++ (B ++ C))) = x :: ((A ++ B) ++ C) := by rw [List.append_assoc]
  have h2 : A ++ (B ++ (x :: C)) = (A ++ B) ++ x :: C := by rw [List.append_assoc]
  rw [h1, h2]
  exact List.perm_middle.symm
/-- what a comprehension computes -/
def lcF (own : List Nat) (tg : Tg) (src : Rho → R Src) (C : Rho → R Bool) (el : Rho → R D) (ρ : Rho) : R Opd :=
  (src ρ).bind fun src ρ1 => ((lcRun own tg src C el src.len 0 [] (wipeR ρ1 own)).lets fun ρ2 => backR ρ1 (wipeR ρ2 own) own).bind fun ds ρ2 => .ok (.tmp (.ol ds)) (backR ρ1 ρ2 own)
theorem wpR_lets {α : Type} {r : R α} {b : Rho → Rho} {P : α → Rho → Prop} {E : Ex → Rho → Prop} : wpR (r.lets b) P E = wpR r P (fun x ρ => E x (b ρ)) := by
  cases r <;> rfl
/-- the walk of a comprehension -/
theorem lc_rd {own : List Nat} {tg : Tg} {src : Rho → R Src} {C : Rho → R Bool} {el : Rho → R D} (nd : own.Nodup) (htg : ∀ i ∈ tg.is, i ∈ own) (hlt : ∀ i ∈ tg.is, i < X.N.length)
    {σ : St} {H : Hp} {Q : VK} (hlen : σ.length = X.N.length) (h : tO X W (lcF own tg src C el) σ H Q) : tLc (tI X W src) (gOf X.K tg) (tK X (fun cls d _ H' => W cls d σ H') C) (tD X (fun cls d _ H' => W cls d σ H') el) own σ H Q := by
  obtain ⟨G, ρ, τ, R, h⟩ := h
  unfold lcF at h
  simp only [wpR_bind, wpR_lets] at h
  refine ⟨G, ρ, τ, R, h.mono (fun src ρ1 p J A G1 H1 s1 R1 hJ L0 hL0 => ?_) fun _ _ z => z⟩
  obtain ⟨B, R2, back⟩ := Rel.hideAll R1 nd
  have inOwn : ∀ {σ2 : St}, But tg.is (L2.wipe σ own) σ2 → L2.wipe σ2 own = L2.wipe σ own := fun {σ2} b => by
    refine wipe_same (b.1.trans (wipe_length _ _)) fun j hj => ?_
    rw [b.2 j fun z => hj (htg j z)]
    exact wipe_out hj
  have lens : ∀ i ∈ tg.is, i < (L2.wipe σ own).length := fun i hi => by
    rw [wipe_length, hlen]
    exact hlt i hi
  let Fin : List D → Rho → Prop := fun ds ρ2 => wpR (Eng.R.ok (Opd.tmp (T.ol ds)) (backR ρ1 ρ2 own)) (fun o ρ' => ∀ v G' H', Same G G' → Rel G' ρ' (o.push v τ) σ H' → o.at_ v σ → Q v H') (ExP X W G τ σ)
  let Er : Ex → Rho → Prop := fun x ρ2 => ExP X W G τ σ x (backR ρ1 (wipeR ρ2 own) own)
  refine ⟨fun i m H => i + m = src.len ∧ ∃ G2 ρ2 acc, Same G1 G2 ∧ Rel G2 ρ2 ((.ref L0, .ol acc) :: (B ++ (A ++ τ))) (L2.wipe σ own) H ∧ wpR (lcRun own tg src C el m i acc ρ2) Fin Er, ⟨src.len, Nat.zero_add _, G1, wipeR ρ1 own, [], Same.refl _, ?_, p⟩, ?_⟩
  · exact ⟨Same.updNew R2.same hL0, R2.slots, (R2.held.newList R2.same hL0 .nil).unmid⟩
  · intro i m H2 ⟨hm, G2, ρ2, acc, s2, R3, p⟩
    have RA : Rel G2 ρ2 (A ++ ((.ref L0, .ol acc) :: (B ++ τ))) (L2.wipe σ own) H2 := R3.perm (perm4 _ _ _ _)
    have keep : ∀ k i n, src = .sl k i n → slotT ρ2 i ≠ none → (L2.wipe σ own)[i]? = σ[i]? := fun k i n _ hne => by
      by_cases ho : i ∈ own
      · exfalso
        cases e : slotT ρ2 i with
        | none => exact hne e
        | some t =>
          obtain ⟨v, ev, _⟩ := R3.slot (slotT_some e)
          exact (wipe_some ev).2 ho
      · exact wipe_out ho
    obtain ⟨items, stops⟩ := hJ G2 ρ2 _ _ H2 s2 RA keep
    cases m with
    | zero =>
      unfold lcRun at p
      split at p
      · next hf =>
        have hi : i = src.len := by omega
        subst hi
        refine .inl ⟨stops hf, ?_⟩
        have Rb := back (R3.perm (perm5 _ _ _ _))
        exact p _ G2 H2 (s1.trans s2) ((Rb.perm List.perm_middle).sub (List.Sublist.cons_cons _ (List.sublist_append_right _ _))) trivial
      · exact p.elim
    | succ m =>
      unfold lcRun at p
      have hi : i < src.len := by omega
      cases ei : src.item i ρ2 with
      | none => rw [ei] at p; exact p.elim
      | some d =>
        rw [ei] at p
        simp only at p
        obtain ⟨go, yld⟩ := items i d hi ei
        refine .inr ⟨go, fun H' => i + 1 + m = src.len ∧ ∃ G2 ρ2 acc, Same G1 G2 ∧ Rel G2 ρ2 ((.ref L0, .ol acc) :: (B ++ (A ++ τ))) (L2.wipe σ own) H' ∧ wpR (lcRun own tg src C el m (i + 1) acc ρ2) Fin Er, fun H' hN => ⟨m, Nat.lt_succ_self m, hN⟩, fun x H' hy => ?_⟩
        obtain ⟨rfl, rx⟩ := yld x H' hy
        cases ep : tg.put d ρ2 with
        | none => rw [ep] at p; exact p.elim
        | some ρ3 =>
          rw [ep] at p
          simp only at p
          refine put_tg R3 rx ep lens fun σ2 R4 bt => ⟨inOwn bt, ?_⟩
          have outs : ∀ {G2' : Hp} {acc' : List D} {x : Ex} {ρ' : Rho}, Same G1 G2' → Er x ρ' → ExP X (fun cls d _ H' => W cls d σ H') G2' ((.ref L0, .ol acc') :: (B ++ (A ++ τ))) σ2 x ρ' := fun {G2' acc' x ρ'} sg z cls d G' H' ex s' R' => by
            obtain ⟨A5, R6, _⟩ := Rel.hideAll R' nd
            rw [inOwn bt] at R6
            have R7 := R6.sub (List.sublist_append_right _ _)
            have Rb := back (R7.perm (perm5 _ _ _ _))
            exact z cls d G' H' ex ((s1.trans sg).trans s') ((Rb.perm List.perm_middle).sub ((List.sublist_append_right _ _).trans (List.sublist_cons_self _ _)))
          have stepC : wpR (C ρ3) (fun k ρ4 => wpR (if k = true then (match el ρ4 with | .ok y ρ5 => if acc.length < sizeLine then lcRun own tg src C el m (i + 1) (acc ++ [y]) (wipeR ρ5 own) else .no | .exc x ρ5 => .exc x ρ5 | .no => .no) else lcRun own tg src C el m (i + 1) acc (wipeR ρ4 own)) Fin Er) Er := by
            cases ec : C ρ3 with
            | no => rw [ec] at p; exact p.elim
            | exc x ρ4 => rw [ec] at p; exact p
            | ok k ρ4 =>
              rw [ec] at p
              cases k with
              | true => exact p
              | false => exact p
          refine tK.step R4 stepC (fun _ _ z => outs s2 z) fun k ρ4 G4 H4 p s4 R5 => ?_
          cases k with
          | false =>
            rw [if_neg Bool.false_ne_true] at p ⊢
            obtain ⟨A5, R6, _⟩ := Rel.hideAll R5 nd
            rw [inOwn bt] at R6
            exact ⟨by omega, G4, wipeR ρ4 own, acc, s2.trans s4, R6.sub (List.sublist_append_right _ _), p⟩
          | true =>
            rw [if_pos rfl] at p ⊢
            have stepE : wpR (el ρ4) (fun y ρ5 => wpR (if acc.length < sizeLine then lcRun own tg src C el m (i + 1) (acc ++ [y]) (wipeR ρ5 own) else .no) Fin Er) Er := by
              cases ee : el ρ4 with
              | no => rw [ee] at p; exact p.elim
              | exc x ρ5 => rw [ee] at p; exact p
              | ok y ρ5 => rw [ee] at p; exact p
            refine tD.step R5 stepE (fun _ _ z => outs (s2.trans s4) z) fun y ρ5 v G5 H5 p s5 R6 ry => ?_
            split at p
            · next hl =>
              obtain ⟨a, vs, ea, g, eh, rq, put, _⟩ := R6.held.mid.ol
              cases ea
              refine ⟨vs, eh, by rw [rq.length]; exact hl, by omega, G5, wipeR ρ5 own, acc ++ [y], (s2.trans s4).trans s5, ?_, p⟩
              have R7 : Rel G5 ρ5 ((.ref L0, .ol (acc ++ [y])) :: (B ++ (A ++ τ))) σ2 (upd H5 L0 (.lst (vs ++ [v]))) := ⟨Same.updFree R6.same g, R6.slots, (put _ _ (rq.append (.cons ry .nil))).unmid⟩
              obtain ⟨A8, R8, _⟩ := Rel.hideAll R7 nd
              rw [inOwn bt] at R8
              exact R8.sub (List.sublist_append_right _ _)
            · exact p.elim
/-- a comprehension as a value -/
theorem d_lc (ok : XOk Φ W c X) {own : List Nat} {tg : Tg} {te ie ee : Expr} {ifs : List Expr} {scope : Scope} {pos : Pos} {src : Rho → R Src} {C : Rho → R Bool} {el : Rho → R D}
    (hb : blkC c.N c.sc scope (own.filterMap fun i => (c.N[i]?).map fun x => (x, i)) = true) (hown : (own.filterMap fun i => (c.N[i]?).map fun x => (x, i)).map (·.2) = own) (nd : own.Nodup) (htg : ∀ i ∈ tg.is, i ∈ own) (hset : noSet ie = true)
    (hi : PI X te ie (tI X W src)) (hg : ∀ (W1 : WX) (X' : Cx), XOk Φ W1 ⟨c.N, scope, c.tb⟩ X' → X'.K = X.K → PG X' te (gOf X.K tg))
    (hlt : ∀ i ∈ tg.is, i < X.N.length)
    (ht : ∀ (W1 : WX) (X' : Cx), XOk Φ W1 ⟨c.N, scope, c.tb⟩ X' → PTs X' ifs (tK X' W1 C)) (he : ∀ (W1 : WX) (X' : Cx), XOk Φ W1 ⟨c.N, scope, c.tb⟩ X' → PE X' ee (tD X' W1 el)) :
    PE X (.ListComp ee [⟨te, ie, ifs, 0⟩] scope pos) (tO X W (lcF own tg src C el)) := by
  have hs : ∀ x, foldedSetIterable ie X.env x = pure x := by
    intro x
    cases ie <;> first | rfl | cases hset
  have p := pe_bx (pos := pos) ok.calm ok.air (by rw [ok.hN]; exact ok.nd) hi (blk_of ok hb) (g := gOf X.K tg) (tt := fun σ => tK X (fun cls d _ H' => W cls d σ H') C) (te := fun σ => tD X (fun cls d _ H' => W cls d σ H') el) (fun W1 s H C cl fp xb a b => hg _ _ (ok.bblk a b) rfl) (fun σ s H C cl fp xb a b => ht _ _ (ok.bblk a b)) (fun σ s H C cl fp xb a b => he _ _ (ok.bblk a b)) hs
  rw [hown] at p
  exact p.weakL fun σ H Q hlen h => lc_rd nd htg hlt hlen h
theorem _root_.L2.PS.weakL {X : Cx} {e : Stmt} {t t' : TS} (h : PS X e t) (w : ∀ D σ H, σ.length = X.N.length → t' D σ H → t D σ H) : PS X e t' := ⟨fun pins s σ H D I q => h.run pins s σ H D I (w _ _ _ I.len q)⟩
/-- a comprehension stored to a name -/
theorem d_setLc (ok : XOk Φ W c X) {own : List Nat} {tg : Tg} {te ie ee : Expr} {ifs : List Expr} {scope : Scope} {pos : Pos} {src : Rho → R Src} {C : Rho → R Bool} {el : Rho → R D} {i : Nat} {y : Str} {py spos : Pos}
    (hy : X.N[i]? = some y) (hyl : X.env.scope.names.lookup y = some .local) (hsw : swapsWith (.ListComp ee [⟨te, ie, ifs, 0⟩] scope pos) (some (.Name y py)) spos.line X.env = pure true)
    (hb : blkC c.N c.sc scope (own.filterMap fun i => (c.N[i]?).map fun x => (x, i)) = true) (hown : (own.filterMap fun i => (c.N[i]?).map fun x => (x, i)).map (·.2) = own) (nd : own.Nodup) (htg : ∀ i ∈ tg.is, i ∈ own) (hset : noSet ie = true)
    (hi : PI X te ie (tI X W src)) (hg : ∀ (W1 : WX) (X' : Cx), XOk Φ W1 ⟨c.N, scope, c.tb⟩ X' → X'.K = X.K → PG X' te (gOf X.K tg))
    (hlt : ∀ i ∈ tg.is, i < X.N.length)
    (ht : ∀ (W1 : WX) (X' : Cx), XOk Φ W1 ⟨c.N, scope, c.tb⟩ X' → PTs X' ifs (tK X' W1 C)) (he : ∀ (W1 : WX) (X' : Cx), XOk Φ W1 ⟨c.N, scope, c.tb⟩ X' → PE X' ee (tD X' W1 el)) :
    PS X (.Assign [.Name y py] (.ListComp ee [⟨te, ie, ifs, 0⟩] scope pos) spos) (tAsg (tO X W (lcF own tg src C el)) (gName i)) := by
  have hs : ∀ x, foldedSetIterable ie X.env x = pure x := by
    intro x
    cases ie <;> first | rfl | cases hset
  have p := ps_setBx (py := py) (spos := spos) ok.calm ok.air (by rw [ok.hN]; exact ok.nd) hy hyl hsw hi (blk_of ok hb) (g := gOf X.K tg) (tt := fun σ => tK X (fun cls d _ H' => W cls d σ H') C) (te := fun σ => tD X (fun cls d _ H' => W cls d σ H') el) (fun W1 s H C cl fp xb a b => hg _ _ (ok.bblk a b) rfl) (fun σ s H C cl fp xb a b => ht _ _ (ok.bblk a b)) (fun σ s H C cl fp xb a b => he _ _ (ok.bblk a b)) hs
  rw [hown] at p
  exact p.weakL fun D σ H hlen h => lc_rd nd htg hlt hlen h
end
end L2.Eng

/-! EngZ: list(reversed(a list)), list(reversed(range(n))). -/
namespace RT
open PySem PyProof.Rows
open Sem (wp)
section
variable {prog : Program} {w : World} {A : Around} {E : Value → Shared → Prop} {s : Shared}
theorem init_list_rev {R : Result → Shared → Prop} {it l : Addr} {items : Array Value} (hh : A.handled = none) (hit : s.heap.IsRevIter it l ((items.size : Int) - 1)) (hl : s.heap.IsList l items) (hne : l ≠ it) (hn : items.size ≤ sizeLine) (S : Addr) (hS : s.heap.get? S = some { cls := .type "list", data := .seq #[] })
    (hSi : S ≠ it) (hSl : S ≠ l)
    (hR : ∀ h' tk acc' c', (∀ b o, b ≠ S → b ≠ it → s.heap.get? b = some o → h'.get? b = some o) → h'.get? S = some { cls := .type "list", dict := none, data := .seq acc' c', slots := #[] } →
      ItemsOf (fun i v => items[items.size - 1 - i]? = some v) acc' items.size → R (.ok (.ret .none)) { s with heap := h', toks := tk }) :
    wpAny (model prog w) A.in1 (Builtin.«list.__init__» ⟨[.ref S, .ref it], []⟩)
      (fun fin s' => match fin with | .done f => R (.ok f) s' | .again c' => c'.quiet = true ∧ codeAny (model prog w) A c' R s') (fun e s' => R (.error e) s') s := by
  have W := (Walks.listRev (prog := prog) (w := w) (A := A.in1) hh it l hne items).toS
  have hSf : S ∉ [it, l] := by simp only [List.mem_cons, List.not_mem_nil, or_false, not_or]; exact ⟨hSi, hSl⟩
  show wpAny _ _ (do let old ← Builtin.List.listItems (.ref S); Builtin.List.listUpdate (.ref S) (fun _ => #[]); letGo old.toList.reverse; Builtin.List.listExtendWith (.ref S) (.ref it) .none) _ _ s
  refine wpAny_bind ?_
  unfold Builtin.List.listItems
  refine wpAny_bind (wpAny_seqItems hS rfl (wpAny_pure ?_))
  show wpAny _ _ (updateSeq S (fun _ => #[]) >>= fun _ => letGo (#[] : Array Value).toList.reverse >>= fun _ => Builtin.List.listExtendWith (.ref S) (.ref it) .none) _ _ s
  refine wpAny_bind (wpAny_updateSeq hS rfl ?_)
  have hS₂ := Heap.get?_update_self (Obj.mapSeq (fun _ => (#[] : Array Value))) hS rfl
  have oth : ∀ b o, b ≠ S → s.heap.get? b = some o → (s.heap.update S (Obj.mapSeq (fun _ => (#[] : Array Value)))).get? b = some o :=
    fun b o hb e => (Heap.get?_update_other _ _ (Ne.symm hb)).trans e
  refine wpAny_bind (wpAny_letGo ?_)
  have hit1 : (s.heap.update S (Obj.mapSeq (fun _ => (#[] : Array Value)))).IsRevIter it l ((items.size : Int) - 1) := hit.at fun o e => oth it o (Ne.symm hSi) e
  have hl1 : (s.heap.update S (Obj.mapSeq (fun _ => (#[] : Array Value)))).IsList l items := by
    obtain ⟨ol, hol, r⟩ := hl
    exact ⟨ol, oth l ol (Ne.symm hSl) hol, r⟩
  have hT : ({ s with heap := s.heap.update S (Obj.mapSeq (fun _ => (#[] : Array Value))) } : Shared).TypeIs (.ref it) "list_reverseiterator" := Heap.IsRevIter.typeIs (s := { s with heap := s.heap.update S (Obj.mapSeq (fun _ => (#[] : Array Value))) }) hit1
  have h1 : Builtin.List.listSameRef (.ref S) (.ref it) = false := by simp [Builtin.List.listSameRef, hSi]
  unfold Builtin.List.listExtendWith
  refine wpAny_bind (wpAny_typeOf hT ?_)
  rw [if_neg (by rw [h1]; decide)]
  refine wpAny_bind (wpAny_pyIter_revIter (s := { s with heap := s.heap.update S (Obj.mapSeq (fun _ => (#[] : Array Value))) }) hit1 ?_)
  refine wpAny_bind (wpAny_holding ?_)
  unfold Builtin.List.listLengthHint
  refine wpAny_bind (wpAny_specialOf hT nolen_lri ?_)
  show wpAny _ A.in1 (specialOf (Value.ref it) (Str.ofString "__length_hint__") >>= _) _ _ _
  refine wpAny_bind (wpAny_specialOf hT hint_lri ?_)
  generalize hid : ("list_reverseiterator.__length_hint__" : String) = id0
  wp_delta
  rw [show splitId id0 = some ("list_reverseiterator", "__length_hint__") from by subst hid; decide +kernel]
  subst hid
  refine wpAny_bind (wpAny_isInstance (b := true) hT (by rw [isSubtype_type]; kernel_rfl) ?_)
  refine wpAny_pure ?_
  rw [if_neg (by decide)]
  have e0 : ((items.size : Nat) : Int) - 1 - ((0 : Nat) : Int) = (items.size : Int) - 1 := by omega
  refine wpAny_pure ⟨plainId_quiet F.plain_extend_loop _, codeAny_extend_loopS W hn _ hSf _ items.size 0 _ _ _ rfl (Nat.zero_le _) ⟨Nat.zero_le _, by rw [e0]; exact hit1, hl1⟩ hS₂ (ItemsOf.nil _) fun s' acc' c' hm hS' hacc => ?_⟩
  rw [Moved.eq_with hm]
  refine hR s'.heap s'.toks acc' c' (fun b o hb hbi e => hm.heap b o (fun hmem => ?_) (oth b o hb e)) hS' hacc
  rcases List.mem_cons.mp hmem with e' | hmem
  · exact hb e'
  · exact hbi (List.mem_singleton.mp hmem)
theorem call_list_rev {it l : Addr} {items : Array Value} {Q : Value → Shared → Prop} (hh : A.handled = none) (hit : s.heap.IsRevIter it l ((items.size : Int) - 1)) (hl : s.heap.IsList l items) (hne : l ≠ it) (hn : items.size ≤ sizeLine)
    (hQ : ∀ (h' : Heap) (tk : Nat) (acc : Array Value) (c' : Nat), (∀ b o, b ≠ it → s.heap.get? b = some o → h'.get? b = some o) → h'.get? s.heap.objs.size = some { cls := .type "list", dict := none, data := .seq acc c', slots := #[] } →
      ItemsOf (fun i v => items[items.size - 1 - i]? = some v) acc items.size → Q (.ref s.heap.objs.size) { s with heap := h', toks := tk }) :
    wpAny (model prog w) A (call (.type "list") [.ref it]) Q E s := by
  obtain ⟨oi, hoi, _⟩ := id hit
  obtain ⟨ol, hol, _⟩ := id hl
  have hSi : s.heap.objs.size ≠ it := Nat.ne_of_gt (Heap.lt_size hoi)
  have hSl : s.heap.objs.size ≠ l := Nat.ne_of_gt (Heap.lt_size hol)
  refine callType_codes (Q₁ := fun obj s₁ => obj = .ref s.heap.objs.size ∧ s₁ = { s with heap := s.heap.push { cls := .type "list", data := .seq #[] } }) F.called_list (F.typeCall_list_1 _) F.entry_list_init
    (code_list_new _ ⟨rfl, rfl⟩) fun obj s₁ h₁ => ?_
  obtain ⟨rfl, rfl⟩ := h₁
  have hS : (s.heap.push { cls := .type "list", data := .seq #[] }).get? s.heap.objs.size = some { cls := .type "list", data := .seq #[] } := Heap.get?_push_size _ rfl
  refine ⟨⟨_, hS, rfl⟩, F.args_list_init_2 _ _, init_list_rev (A := A.in1) hh (hit.at fun o e => Heap.get?_push_of_some _ e) (hl.push _) hne hn _ hS hSi hSl fun h' tk acc' c' hk hS' hacc => ?_⟩
  exact ⟨rfl, hQ h' tk acc' c' (fun b o hb e => hk b o (Nat.ne_of_lt (Heap.lt_size e)) hb (Heap.get?_push_of_some _ e)) hS' hacc⟩
end
section
variable {prog : Program} {w : World} {A : Around} {E : Value → Shared → Prop} {s : Shared}
theorem call_rit_hint {I : Addr} {i k c : Int} {Q : Value → Shared → Prop} (hr : IsRangeIter s.heap I i k c)
    (h : Q (.int k s.toks) { s with toks := s.toks + 1 }) :
    wpAny (model prog w) A (call (.builtin "range_iterator.__length_hint__") [.ref I]) Q E s := by
  have hT : s.TypeIs (.ref I) "range_iterator" := ⟨_, hr, rfl⟩
  refine wpAny_call_entry F.slot_range_iterator_length_hint hT F.entry_range_iterator_length_hint ?_ (F.args_range_iterator_length_hint_1 _)
  obtain ⟨hp, g, d, tk, os⟩ := s
  wp_walk using AutoSeq1.wpAny_loadPart' hr
  exact ⟨_, rfl, h⟩
theorem init_list_rit {R : Result → Shared → Prop} {it : Addr} {a c : Int} {n : Nat} (hh : A.handled = none) (hit : IsRangeIter s.heap it a (n : Int) c) (hn : n ≤ 16777216) (S : Addr) (hS : s.heap.get? S = some { cls := .type "list", data := .seq #[] })
    (hSi : S ≠ it)
    (hR : ∀ h' tk acc' c', (∀ b o, b ≠ S → b ≠ it → s.heap.get? b = some o → h'.get? b = some o) → h'.get? S = some { cls := .type "list", dict := none, data := .seq acc' c', slots := #[] } →
      ItemsOf (fun i v => ∃ t, v = .int (a + i * c) t) acc' n → R (.ok (.ret .none)) { s with heap := h', toks := tk }) :
    wpAny (model prog w) A.in1 (Builtin.«list.__init__» ⟨[.ref S, .ref it], []⟩)
      (fun fin s' => match fin with | .done f => R (.ok f) s' | .again c' => c'.quiet = true ∧ codeAny (model prog w) A c' R s') (fun e s' => R (.error e) s') s := by
  have W := (Walks.range (prog := prog) (w := w) (A := A.in1) hh it a c n).toS
  have hSf : S ∉ [it] := by simp only [List.mem_cons, List.not_mem_nil, or_false]; exact hSi
  show wpAny _ _ (do let old ← Builtin.List.listItems (.ref S); Builtin.List.listUpdate (.ref S) (fun _ => #[]); letGo old.toList.reverse; Builtin.List.listExtendWith (.ref S) (.ref it) .none) _ _ s
  refine wpAny_bind ?_
  unfold Builtin.List.listItems
  refine wpAny_bind (wpAny_seqItems hS rfl (wpAny_pure ?_))
  show wpAny _ _ (updateSeq S (fun _ => #[]) >>= fun _ => letGo (#[] : Array Value).toList.reverse >>= fun _ => Builtin.List.listExtendWith (.ref S) (.ref it) .none) _ _ s
  refine wpAny_bind (wpAny_updateSeq hS rfl ?_)
  have hS₂ := Heap.get?_update_self (Obj.mapSeq (fun _ => (#[] : Array Value))) hS rfl
  have oth : ∀ b o, b ≠ S → s.heap.get? b = some o → (s.heap.update S (Obj.mapSeq (fun _ => (#[] : Array Value)))).get? b = some o :=
    fun b o hb e => (Heap.get?_update_other _ _ (Ne.symm hb)).trans e
  refine wpAny_bind (wpAny_letGo ?_)
  have hit1 : IsRangeIter (s.heap.update S (Obj.mapSeq (fun _ => (#[] : Array Value)))) it a (n : Int) c := oth it _ (Ne.symm hSi) hit
  have hT : ({ s with heap := s.heap.update S (Obj.mapSeq (fun _ => (#[] : Array Value))) } : Shared).TypeIs (.ref it) "range_iterator" := ⟨_, hit1, rfl⟩
  have h1 : Builtin.List.listSameRef (.ref S) (.ref it) = false := by simp [Builtin.List.listSameRef, hSi]
  unfold Builtin.List.listExtendWith
  refine wpAny_bind (wpAny_typeOf hT ?_)
  rw [if_neg (by rw [h1]; decide)]
  refine wpAny_bind (wpAny_pyIter_rangeiter (s := { s with heap := s.heap.update S (Obj.mapSeq (fun _ => (#[] : Array Value))) }) hit1 ?_)
  refine wpAny_bind (wpAny_holding ?_)
  unfold Builtin.List.listLengthHint
  refine wpAny_bind (wpAny_specialOf hT F.nolen_ra ?_)
  show wpAny _ A.in1 (specialOf (Value.ref it) (Str.ofString "__length_hint__") >>= _) _ _ _
  refine wpAny_bind (wpAny_specialOf hT F.hint_ra ?_)
  generalize hid : ("range_iterator.__length_hint__" : String) = id0
  wp_delta
  rw [show splitId id0 = some ("range_iterator", "__length_hint__") from by subst hid; decide +kernel]
  subst hid
  refine wpAny_bind (wpAny_isInstance (b := true) hT (by rw [isSubtype_type]; kernel_rfl) ?_)
  show wpAny _ A.in1 (call (.builtin "range_iterator.__length_hint__") [.ref it] >>= _) _ _ _
  refine wpAny_bind (call_rit_hint (s := { s with heap := s.heap.update S (Obj.mapSeq (fun _ => (#[] : Array Value))) }) hit1 ?_)
  refine wpAny_bind (m := asInt? _) (wpAny_pure ?_)
  have htl : Builtin.List.listTooLong ((n : Int).toNat) = false := by simp [Builtin.List.listTooLong, sizeLine]; omega
  dsimp only
  rw [if_neg (by rw [htl]; decide)]
  refine wpAny_pure ?_
  rw [if_neg (by decide)]
  have e0 : a + ((0 : Nat) : Int) * c = a := by omega
  have e1 : (n : Int) - ((0 : Nat) : Int) = n := by omega
  refine wpAny_pure ⟨plainId_quiet F.plain_extend_loop _, codeAny_extend_loopS W (by rw [sizeLine_eq]; omega) _ hSf _ n 0 _ _ _ rfl (Nat.zero_le _) (by show IsRangeIter _ _ (a + ((0 : Nat) : Int) * c) ((n : Int) - ((0 : Nat) : Int)) c; rw [e0, e1]; exact hit1) hS₂ (ItemsOf.nil _) fun s' acc' c' hm hS' hacc => ?_⟩
  rw [Moved.eq_with hm]
  refine hR s'.heap s'.toks acc' c' (fun b o hb hbi e => hm.heap b o (fun hmem => ?_) (oth b o hb e)) hS' hacc
  rcases List.mem_cons.mp hmem with e' | hmem
  · exact hb e'
  · exact hbi (List.mem_singleton.mp hmem)
theorem call_list_rit {it : Addr} {a c : Int} {n : Nat} {Q : Value → Shared → Prop} (hh : A.handled = none) (hit : IsRangeIter s.heap it a (n : Int) c) (hn : n ≤ 16777216)
    (hQ : ∀ (h' : Heap) (tk : Nat) (acc : Array Value) (c' : Nat), (∀ b o, b ≠ it → s.heap.get? b = some o → h'.get? b = some o) → h'.get? s.heap.objs.size = some { cls := .type "list", dict := none, data := .seq acc c', slots := #[] } →
      ItemsOf (fun i v => ∃ t, v = .int (a + i * c) t) acc n → Q (.ref s.heap.objs.size) { s with heap := h', toks := tk }) :
    wpAny (model prog w) A (call (.type "list") [.ref it]) Q E s := by
  have hSi : s.heap.objs.size ≠ it := Nat.ne_of_gt (Heap.lt_size hit)
  refine callType_codes (Q₁ := fun obj s₁ => obj = .ref s.heap.objs.size ∧ s₁ = { s with heap := s.heap.push { cls := .type "list", data := .seq #[] } }) F.called_list (F.typeCall_list_1 _) F.entry_list_init
    (code_list_new _ ⟨rfl, rfl⟩) fun obj s₁ h₁ => ?_
  obtain ⟨rfl, rfl⟩ := h₁
  have hS : (s.heap.push { cls := .type "list", data := .seq #[] }).get? s.heap.objs.size = some { cls := .type "list", data := .seq #[] } := Heap.get?_push_size _ rfl
  refine ⟨⟨_, hS, rfl⟩, F.args_list_init_2 _ _, init_list_rit (A := A.in1) hh (Heap.get?_push_of_some _ hit) hn _ hS hSi fun h' tk acc' c' hk hS' hacc => ?_⟩
  exact ⟨rfl, hQ h' tk acc' c' (fun b o hb e => hk b o (Nat.ne_of_lt (Heap.lt_size e)) hb (Heap.get?_push_of_some _ e)) hS' hacc⟩
end
open L2
/-- list(reversed(x)), x a list: a new list -/
def tLstRev (K : PySem.W.Frag) (te : L2.TE) : L2.TE := fun σ H Q => te σ H fun v H1 => ∃ (a : Addr) (xs : List V), v = .ref a ∧ SqL K H1 a xs ∧ ∀ q, H1 q = none → Q (.ref q) (upd H1 q (.lst xs.reverse))
section
variable {X : Cx}
theorem pe_lstRev {e : Expr} {te : L2.TE} {p p2 pos pos2 : Pos} (hc : X.calm = true) (hg : Gl X "list") (hm : X.mg "list" = none) (hg2 : Gl X "reversed") (hm2 : X.mg "reversed" = none) (he : PE X e te)
    (hs : starEach [e] X.env = (false, eval e X.env) :: starEach [] X.env := by rfl)
    (hs2 : starEach [.Call (.Name "reversed" p2) [e] [] pos2] X.env = (false, eval (.Call (.Name "reversed" p2) [e] [] pos2) X.env) :: starEach [] X.env := by rfl) :
    PE X (.Call (.Name "list" p) [.Call (.Name "reversed" p2) [e] [] pos2] [] pos) (tLstRev X.K te) := by
  refine ⟨fun pins s σ H Q I h => ?_⟩
  refine Call_ (ld_blt I hg hm boot_list (PyProof.Rows.callWith_type1 (args_cons (Call_ (ld_blt I hg2 hm2 PyProof.Rows.boot_reversed (PyProof.Rows.callWith_type1 (args_cons (thn (he.run pins s σ H _ I h) fun u s1 ⟨v, H1, I1, r1, q1⟩ => args_nil ?_) hs) hs rfl))) hs2) hs2 rfl))
  obtain ⟨a, xs, ev, hq, q⟩ := q1
  subst ev
  obtain rfl : u = Value.ref a := r1
  obtain ⟨its, rv, p', hz⟩ := I1.list hq
  refine call_reversed_list p'.isList (args_nil ?_)
  have hl := p'.isList
  obtain ⟨ol, hol, _⟩ := id hl
  have hne : a ≠ s1.heap.objs.size := Nat.ne_of_lt (Heap.lt_size hol)
  have hn : its.toArray.size ≤ sizeLine := by rw [List.size_toArray, ← rv.length]; exact hz
  refine call_list_rev (s := { s1 with heap := s1.heap.push (revObj a ((its.toArray.size : Int) - 1)) }) (I1.ok.hd hc) ⟨_, Heap.get?_push_size _ rfl, rfl, rfl⟩ (hl.push _) hne hn fun h' tk acc c' hk hS hi => ?_
  have hsz : s1.heap.objs.size ≤ (s1.heap.push (revObj a ((its.toArray.size : Int) - 1))).objs.size := by simp [Heap.push]
  refine ⟨.ref (s1.heap.push (revObj a ((its.toArray.size : Int) - 1))).objs.size, upd H1 (s1.heap.push (revObj a ((its.toArray.size : Int) - 1))).objs.size (.lst xs.reverse), I1.laid (t' := tk) (fun c o e => hk c o (Nat.ne_of_lt (Heap.lt_size e)) (Heap.get?_push_of_some _ e)) hsz (show ObjOk X.prog X.w _ _ _ (.lst xs.reverse) from ⟨by rw [List.length_reverse]; exact hz, acc.toList, c', vals_rev rv hi, ?_⟩), rfl, q _ (I1.hok.fresh hsz)⟩
  rw [Array.toArray_toList]
  exact hS
/-- the ints of a range, from its end -/
def tLstRevRg (tr : L2.St → Hp → (Int → Int → Hp → Prop) → Prop) : L2.TE := fun σ H Q => tr σ H fun a b H1 => RgOk a b ∧ ∀ q, H1 q = none → Q (.ref q) (upd H1 q (.lst (rgV a b).reverse))
theorem vals_rgRev {a b : Int} {acc : Array Value} (h : ItemsOf (fun i v => ∃ t, v = .int (a + (((b - a).toNat : Nat) : Int) - 1 + i * (-1)) t) acc (b - a).toNat) : Vals (rgV a b).reverse acc.toList := by
  have e : acc.toList.length = (b - a).toNat := by rw [Array.length_toList]; exact h.1
  have e2 : (rgV a b).reverse = (List.range acc.toList.length).map fun j => V.int (a + (((b - a).toNat : Nat) : Int) - 1 + (j : Nat) * (-1)) := by
    unfold rgV
    rw [e]
    refine List.ext_getElem (by simp) fun j h1 h2 => ?_
    have hj : j < (b - a).toNat := by simpa using h1
    simp only [List.getElem_reverse, List.getElem_map, List.getElem_range, List.length_map, List.length_range]
    congr 1
    omega
  rw [e2]
  refine vals_of_get acc.toList _ fun j u hj => ?_
  obtain ⟨t, rfl⟩ := h.2 j u (by rw [← hj, Array.getElem?_toList])
  exact ⟨t, rfl⟩
theorem pe_lstRevRg {e : Expr} {tr : L2.St → Hp → (Int → Int → Hp → Prop) → Prop} {p p2 pos pos2 : Pos} (hc : X.calm = true) (hg : Gl X "list") (hm : X.mg "list" = none) (hg2 : Gl X "reversed") (hm2 : X.mg "reversed" = none) (he : PRg X e tr)
    (hs : starEach [e] X.env = (false, eval e X.env) :: starEach [] X.env := by rfl)
    (hs2 : starEach [.Call (.Name "reversed" p2) [e] [] pos2] X.env = (false, eval (.Call (.Name "reversed" p2) [e] [] pos2) X.env) :: starEach [] X.env := by rfl) :
    PE X (.Call (.Name "list" p) [.Call (.Name "reversed" p2) [e] [] pos2] [] pos) (tLstRevRg tr) := by
  refine ⟨fun pins s σ H Q I h => ?_⟩
  refine Call_ (ld_blt I hg hm boot_list (PyProof.Rows.callWith_type1 (args_cons (Call_ (ld_blt I hg2 hm2 PyProof.Rows.boot_reversed (PyProof.Rows.callWith_type1 (args_cons (thn (he pins s σ H _ I h) fun u s1 hx => args_nil ?_) hs) hs rfl))) hs2) hs2 rfl))
  obtain ⟨r, a, b, t, w1, v, H1, eu, hr, I1, ok, q⟩ := hx
  subst eu
  obtain ⟨b1, b2, b3, b4, b5⟩ := ok
  have hn : Builtin.Range.rangeSize a b 1 = (((b - a).toNat : Nat) : Int) := rangeSize_nat a b
  refine call_reversed_range hr (smallRev_one b1 b2 b3 b4) (args_nil ?_)
  have e1 : a + (Builtin.Range.rangeSize a b 1 - 1) * 1 = a + (((b - a).toNat : Nat) : Int) - 1 := by rw [hn]; omega
  have hit : IsRangeIter (s1.heap.push (rngRevObj a b 1)) s1.heap.objs.size (a + (((b - a).toNat : Nat) : Int) - 1) (((b - a).toNat : Nat) : Int) (-1) := by
    rw [← e1, ← hn]
    exact Heap.get?_push_size _ rfl
  refine call_list_rit (s := { s1 with heap := s1.heap.push (rngRevObj a b 1) }) (I1.ok.hd hc) hit b5 fun h' tk acc c' hk hS hi => ?_
  have hsz : s1.heap.objs.size ≤ (s1.heap.push (rngRevObj a b 1)).objs.size := by simp [Heap.push]
  refine ⟨.ref (s1.heap.push (rngRevObj a b 1)).objs.size, upd H1 (s1.heap.push (rngRevObj a b 1)).objs.size (.lst (rgV a b).reverse), I1.laid (t' := tk) (fun c o e => hk c o (Nat.ne_of_lt (Heap.lt_size e)) (Heap.get?_push_of_some _ e)) hsz (show ObjOk X.prog X.w _ _ _ (.lst (rgV a b).reverse) from ⟨?_, acc.toList, c', vals_rgRev hi, ?_⟩), rfl, q _ (I1.hok.fresh hsz)⟩
  · rw [List.length_reverse, rgV_length, sizeLine_eq]; omega
  · rw [Array.toArray_toList]; exact hS
end
end RT

/-! EngDA: lists turned round, dicts. -/
namespace L2.Eng
open PySem PySem.Spec PyProof.Rows

/-! ### entries of dicts -/
theorem find_rel {κ : Type} [DecidableEq κ] {kf : D → Option κ} {G : Hp} {k : κ} {e : D} (he : kf e = some k) : ∀ {vs : List (κ × V)} {ds : List (D × D)}, Paired (fun (p : κ × V) (q : D × D) => kf q.1 = some p.1 ∧ Rq G p.2 q.2) vs ds →
    (valV vs k = none ∧ (ds.find? fun p => decide (kf p.1 = kf e)) = none) ∨ ∃ v p, valV vs k = some v ∧ (ds.find? fun p => decide (kf p.1 = kf e)) = some p ∧ Rq G v p.2
  | _, _, .nil => .inl ⟨rfl, rfl⟩
  | p :: vs, q :: ds, .cons h t => by
    by_cases hk : p.1 = k
    · refine .inr ⟨p.2, q, valV_pos hk, ?_, h.2⟩
      rw [List.find?_cons, decide_eq_true (by rw [h.1, he, hk])]
    · have hne : decide (kf q.1 = kf e) = false := decide_eq_false (by rw [h.1, he]; exact fun z => hk (Option.some.inj z))
      rw [valV_neg hk, List.find?_cons, hne]
      exact find_rel he t
theorem any_rel {κ : Type} [DecidableEq κ] {kf : D → Option κ} {G : Hp} {k : κ} {e : D} (he : kf e = some k) : ∀ {vs : List (κ × V)} {ds : List (D × D)}, Paired (fun (p : κ × V) (q : D × D) => kf q.1 = some p.1 ∧ Rq G p.2 q.2) vs ds →
    (vs.any fun kv => decide (kv.1 = k)) = ds.any fun p => decide (kf p.1 = kf e)
  | _, _, .nil => rfl
  | p :: vs, q :: ds, .cons h t => by
    rw [List.any_cons, List.any_cons, any_rel he t]
    congr 1
    refine decide_eq_decide.mpr ?_
    rw [h.1, he]
    exact ⟨fun z => by rw [z], fun z => Option.some.inj z⟩
theorem put_rel {κ : Type} [DecidableEq κ] {kf : D → Option κ} {G : Hp} {k : κ} {e d : D} {v : V} (he : kf e = some k) (hv : Rq G v d) {vs : List (κ × V)} {ds : List (D × D)} (h : Paired (fun (p : κ × V) (q : D × D) => kf q.1 = some p.1 ∧ Rq G p.2 q.2) vs ds) :
    Paired (fun (p : κ × V) (q : D × D) => kf q.1 = some p.1 ∧ Rq G p.2 q.2) (putK vs k v) (if (ds.any fun p => decide (kf p.1 = kf e)) then ds.map fun p => if decide (kf p.1 = kf e) then (p.1, d) else p else ds ++ [(e, d)]) := by
  unfold putK
  rw [any_rel he h]
  split
  · next hx =>
    clear hx
    induction h with
    | nil => exact .nil
    | @cons p q vs ds h t ih =>
      refine .cons ?_ ih
      dsimp only
      by_cases hk : p.1 = k
      · rw [if_pos hk, if_pos (decide_eq_true (by rw [h.1, he, hk]))]
        exact ⟨h.1, hv⟩
      · rw [if_neg hk, if_neg (by rw [decide_eq_true_eq, h.1, he]; exact fun z => hk (Option.some.inj z))]
        exact h
  · next hx =>
    clear hx
    induction h with
    | nil => exact .cons ⟨he, hv⟩ .nil
    | cons h t ih => exact .cons h ih
theorem RqD.put {G : Hp} {b : Bool} {u : DV} {kvs : List (D × D)} {e d : D} {v : V} (h : RqD G b u kvs) (hk : keyOk b e = true) (hv : Rq G v d) : (b = false ∧ ∃ vs k, u = .k vs ∧ keyD e = some k ∧ RqD G b (.k (putK vs k v)) (putKD b kvs e d)) ∨
    (b = true ∧ ∃ vs k, u = .t vs ∧ tkD e = some k ∧ RqD G b (.t (putK vs k v)) (putKD b kvs e d)) := by
  cases h with
  | @k vs ds h =>
    obtain ⟨k, ek⟩ := Option.isSome_iff_exists.mp (show (keyD e).isSome = true from hk)
    exact .inl ⟨rfl, vs, k, rfl, ek, .k (put_rel ek hv h)⟩
  | @t vs ds h =>
    obtain ⟨k, ek⟩ := Option.isSome_iff_exists.mp (show (tkD e).isSome = true from hk)
    exact .inr ⟨rfl, vs, k, rfl, ek, .t (put_rel ek hv h)⟩
theorem key_vw {G H : Hp} {v : V} {e : D} {k : Key} (w : Vw G H v e) (h : keyD e = some k) : v = kV k := by
  cases e <;> cases h
  · exact w.int
  · exact w.str
theorem keys_rq {G : Hp} : ∀ {vs : List V} {ds : List D} {ks : List Key}, RqAll G vs ds → keysD ds = some ks → vs = ks.map kV
  | _, _, ks, .nil, h => by cases h; rfl
  | _, _, ks, .cons (d := d) (ds := ds) a b, h => by
    unfold keysD at h
    cases e1 : keyD d with
    | none => rw [e1] at h; cases h
    | some k =>
      cases e2 : keysD ds with
      | none => rw [e1, e2] at h; cases h
      | some kk =>
        rw [e1, e2] at h
        cases h
        rw [List.map_cons, ← keys_rq b e2, key_vw (H := G) (.inl a) e1]
theorem tk_vw {G H : Hp} {v : V} {e : D} {k : List Key} (s : Same G H) (w : Vw G H v e) (h : tkD e = some k) : ∃ b, v = .ref b ∧ H b = some (.tup (k.map kV)) := by
  cases e <;> try cases h
  rename_i ds
  rcases w with w | ⟨_, _, _, _, z, _⟩
  · cases w with
    | @tup a xs _ r q =>
      refine ⟨a, rfl, ?_⟩
      rw [← keys_rq q h]
      exact s _ _ r
  · cases z
/-- what a look into a dict gives -/
theorem dget_of {G H : Hp} {a : Addr} {b : Bool} {u : DV} {kvs : List (D × D)} {y : V} {e : D} (s : Same G H) (hu : Rd H a u.ho) (h : RqD G b u kvs) (w : Vw G H y e) (hk : keyOk b e = true) :
    ∃ o, DGet H a y o ∧ ((o = none ∧ getKD b kvs e = none) ∨ ∃ v d, o = some v ∧ getKD b kvs e = some d ∧ Rq G v d) := by
  cases h with
  | @k vs ds h =>
    obtain ⟨k, ek⟩ := Option.isSome_iff_exists.mp (show (keyD e).isSome = true from hk)
    refine ⟨valV vs k, .inl ⟨vs, k, hu, key_vw w ek, rfl⟩, ?_⟩
    rcases find_rel ek h with ⟨e1, e2⟩ | ⟨v, p, e1, e2, r⟩
    · exact .inl ⟨e1, by unfold getKD; exact congrArg (Option.map (·.2)) e2⟩
    · exact .inr ⟨v, p.2, e1, by unfold getKD; exact congrArg (Option.map (·.2)) e2, r⟩
  | @t vs ds h =>
    obtain ⟨k, ek⟩ := Option.isSome_iff_exists.mp (show (tkD e).isSome = true from hk)
    obtain ⟨bb, rfl, eb⟩ := tk_vw s w ek
    refine ⟨valV vs k, .inr ⟨vs, k, bb, hu, rfl, eb, rfl⟩, ?_⟩
    rcases find_rel ek h with ⟨e1, e2⟩ | ⟨v, p, e1, e2, r⟩
    · exact .inl ⟨e1, by unfold getKD; exact congrArg (Option.map (·.2)) e2⟩
    · exact .inr ⟨v, p.2, e1, by unfold getKD; exact congrArg (Option.map (·.2)) e2, r⟩
/-- the dict that an operand shows -/
def DVw (G H : Hp) (v : V) (q : Bool × List (D × D)) : Prop := ∃ a u, v = .ref a ∧ Rd H a (DV.ho u) ∧ RqD G q.1 u q.2
theorem Held.dvw {G H : Hp} {v : V} {t : T} {q : Bool × List (D × D)} {L : List (V × T)} (h : Held G H ((v, t) :: L)) (s : Same G H) (e : dOf t = some q) : DVw G H v q := by
  cases t with
  | fz d => cases e
  | ol d => cases e
  | od b kvs =>
    cases e
    obtain ⟨a, u, rfl, _, e, r, _⟩ := h.od
    exact ⟨a, u, rfl, .inl e, r⟩
  | lk b kvs =>
    cases e
    obtain ⟨a, o, u, rfl, e, r, _⟩ := h.lk
    exact ⟨a, u, rfl, .inr ⟨o, s _ _ e⟩, r⟩
theorem Opd.dvw {G H : Hp} {ρ : Rho} {A τ : List (V × T)} {σ : St} {o : Opd} {v : V} {q : Bool × List (D × D)} (R : Rel G ρ (A ++ o.push v τ) σ H) (a : o.at_ v σ) (e : o.dic ρ = some q) : DVw G H v q := by
  cases o with
  | tmp t => exact (Rel.tmp R).dvw R.same e
  | sl i =>
    simp only [Opd.dic] at e
    cases z : slotT ρ i with
    | none => rw [z] at e; cases e
    | some t =>
      rw [z] at e
      obtain ⟨w, e1, h⟩ := R.slot (slotT_some z)
      rw [show σ[i]? = some (some v) from a] at e1
      cases e1
      exact h.dvw R.same e
theorem Opd.dvw2 {G H : Hp} {ρ : Rho} {τ : List (V × T)} {σ : St} {o p : Opd} {v w : V} {q : Bool × List (D × D)} (R : Rel G ρ (p.push w (o.push v τ)) σ H) (a : o.at_ v σ) (e : o.dic ρ = some q) : DVw G H v q := by
  cases p with
  | tmp t => exact Opd.dvw (A := [(w, t)]) R a e
  | sl i => exact Opd.dvw (A := []) R a e
theorem DVw.isD {G H : Hp} {v : V} {q : Bool × List (D × D)} (h : DVw G H v q) : ∃ a, v = .ref a ∧ IsD H a := by
  obtain ⟨a, u, rfl, r, _⟩ := h
  cases u with
  | k vs => exact ⟨a, rfl, .inl ⟨vs, r⟩⟩
  | t vs => exact ⟨a, rfl, .inr ⟨vs, r⟩⟩
section
variable {Φ : Fx} {W : WX} {c : Ctx} {X : Cx}
theorem d_lrv (ok : XOk Φ W c X) {a : Expr} {oa : Rho → R Opd} {p1 p2 pos pos2 : Pos} (h1 : c.bltOk "list" = true) (h2 : c.bltOk "reversed" = true) (ha : PE X a (tO X W oa)) (hs : noStar a = true) :
    PE X (.Call (.Name "list" p1) [.Call (.Name "reversed" p2) [a] [] pos2] [] pos) (tO X W fun ρ => (oa ρ).bind fun x ρ1 => R.of ((x.see ρ1).bind fun d => (lrvD d).map Opd.tmp) ρ1) := by
  obtain ⟨g1, g2, _, _⟩ := ok.blt h1
  obtain ⟨k1, k2, _, _⟩ := ok.blt h2
  refine (RT.pe_lstRev ok.calm g1 g2 k1 k2 ha (star1 hs _ _) (by rfl)).weak fun σ H Q ⟨G, ρ, τ, R, h⟩ => ?_
  rw [wpR_bind] at h
  refine tO.step R h (fun _ _ z => z) fun x ρ1 v G1 H1 p s1 R1 a1 => ?_
  obtain ⟨o, e, p⟩ := wpR_of p
  cases ed : x.see ρ1 with
  | none => rw [ed] at e; cases e
  | some d =>
    rw [ed] at e
    cases d with
    | list ds =>
      cases e
      obtain ⟨b, vs, rfl, r, k⟩ := (Opd.vw (A := []) R1 a1 ed).lst R1.same
      refine ⟨b, vs, rfl, SqL.rd r, fun q hq => ?_⟩
      obtain ⟨G2, s2, R2⟩ := (R1.sub (Opd.sub _ _ _)).new (.ol hq k.reverse)
      exact p _ G2 _ (s1.trans s2) R2 trivial
    | _ => cases e
theorem d_lrr (ok : XOk Φ W c X) {a : Expr} {oa : Rho → R Opd} {p1 p2 p3 pos pos2 pos3 : Pos} (h1 : c.bltOk "list" = true) (h2 : c.bltOk "reversed" = true) (h3 : c.bltOk "range" = true) (ha : PE X a (tO X W oa)) (hs : noStar a = true) :
    PE X (.Call (.Name "list" p1) [.Call (.Name "reversed" p2) [.Call (.Name "range" p3) [a] [] pos3] [] pos2] [] pos) (tO X W fun ρ => (oa ρ).bind fun x ρ1 => R.of ((x.see ρ1).bind fun d => (lrrD d).map Opd.tmp) ρ1) := by
  obtain ⟨g1, g2, _, _⟩ := ok.blt h1
  obtain ⟨k1, k2, _, _⟩ := ok.blt h2
  obtain ⟨j1, j2, _, _⟩ := ok.blt h3
  refine (RT.pe_lstRevRg ok.calm g1 g2 k1 k2 (prg_1 j1 j2 ha (star1 hs _ _)) (by rfl) (by rfl)).weak fun σ H Q ⟨G, ρ, τ, R, h⟩ => ?_
  rw [wpR_bind] at h
  refine tO.step R h (fun _ _ z => z) fun x ρ1 v G1 H1 p s1 R1 a1 => ?_
  obtain ⟨o, e, p⟩ := wpR_of p
  cases ed : x.see ρ1 with
  | none => rw [ed] at e; cases e
  | some d =>
    rw [ed] at e
    simp only [Option.bind_some] at e
    cases d with
    | int j =>
      simp only [lrrD] at e
      split at e
      · next hj =>
        cases e
        have w : Vw G1 H1 v (.int j) := Opd.vw (A := []) R1 a1 ed
        refine ⟨j, w.int, ⟨by decide, by decide, hj.1, ?_, ?_⟩, fun q hq => ?_⟩
        · have := hj.2; omega
        · have := hj.2; omega
        · obtain ⟨G2, s2, R2⟩ := (R1.sub (Opd.sub _ _ _)).new (.ol hq (rng_rq G1 0 j).reverse)
          exact p _ G2 _ (s1.trans s2) R2 trivial
      · cases e
    | _ => simp [lrrD] at e
theorem d_dn (b : Bool) {pos : Pos} : PE X (.Dict [] [] pos) (tO X W fun ρ => .ok (.tmp (.od b [])) ρ) := by
  cases b with
  | false =>
    refine pe_dnewK.weak fun σ H Q ⟨G, ρ, τ, R, h⟩ q hq => ?_
    obtain ⟨G2, s2, R2⟩ := R.new (.od (u := .k []) hq (.k .nil))
    exact h _ G2 _ s2 R2 trivial
  | true =>
    refine pe_dnewT.weak fun σ H Q ⟨G, ρ, τ, R, h⟩ q hq => ?_
    obtain ⟨G2, s2, R2⟩ := R.new (.od (u := .t []) hq (.t .nil))
    exact h _ G2 _ s2 R2 trivial
theorem d_d1 {k v : Expr} {dk dv : Rho → R D} {pos : Pos} (hk : PE X k (tD X W dk)) (hv : PE X v (tD X W dv)) :
    PE X (.Dict [some k] [v] pos) (tO X W fun ρ => (dk ρ).bind fun x ρ1 => (dv ρ1).bind fun y ρ2 => if (keyD x).isSome then .ok (.tmp (.od false [(x, y)])) ρ2 else .no) := by
  refine (pe_disp (pps_cons hk hv pps_nil) rfl rfl (fun z => by cases z) (Nat.le_of_ble_eq_true rfl)).weak fun σ H Q ⟨G, ρ, τ, R, h⟩ q hq => ?_
  simp only [wpR_bind] at h
  obtain ⟨G1, s1, R1⟩ := R.new (.od (u := .k []) hq (.k .nil))
  have up : ∀ x ρ', ExP X W G τ σ x ρ' → ExP X W G1 ((V.ref q, T.od false []) :: τ) σ x ρ' := fun x ρ' z => z.mono s1 (List.sublist_cons_self _ _)
  refine tD.step R1 h up fun x ρ1 kv G2 H2 p s2 R2 r2 => ?_
  refine tD.step R2 p (fun x ρ' z => (up x ρ' z).mono s2 (List.Sublist.refl _)) fun y ρ2 vv G3 H3 p s3 R3 r3 => ?_
  split at p
  case isFalse => exact p.elim
  case isTrue hx =>
  obtain ⟨kk, ek⟩ := Option.isSome_iff_exists.mp hx
  obtain ⟨a, u, ea, g, eh, rq, put, _⟩ := R3.held.mid.od
  cases ea
  cases rq with
  | @k vs _ z =>
  cases z
  refine ⟨eh, [(kk, vv)], ?_, Nat.le_of_ble_eq_true rfl, ?_⟩
  · rw [key_vw (H := G2) (.inl r2) ek]
    rfl
  · have R4 : Rel G3 ρ2 ((.ref q, .od false [(x, y)]) :: τ) σ (upd H3 q (.dK (mergeK [] [(kk, vv)]))) := ⟨Same.updFree R3.same g, R3.slots, (put (.k [(kk, vv)]) [(x, y)] (.k (.cons ⟨ek, r3⟩ .nil))).unmid⟩
    exact p _ G3 _ ((s1.trans s2).trans s3) R4 trivial
theorem pairs_rel {G H : Hp} (K : PySem.W.Frag) (s : Same G H) : ∀ {vs : List V} {ds : List D} {es : List (D × D)}, RqAll G vs ds → pairsD ds = some es →
    ∃ (ps : List Addr) (kvs : List (Key × V)), vs = ps.map V.ref ∧ Paired (fun p kv => SqT K H p [kV kv.1, kv.2]) ps kvs ∧ Paired (fun (p : Key × V) (q : D × D) => keyD q.1 = some p.1 ∧ Rq G p.2 q.2) kvs es
  | _, _, es, .nil, h => by cases h; exact ⟨[], [], rfl, .nil, .nil⟩
  | _, _, es, .cons (d := d) (ds := ds) a b, h => by
    unfold pairsD at h
    split at h
    · rename_i e; cases e
    · rename_i k v r e
      injection e with e1 e2
      subst e1
      subst e2
      split at h
      case isFalse => cases h
      case isTrue hk =>
      obtain ⟨kk, ek⟩ := Option.isSome_iff_exists.mp hk
      cases e3 : pairsD ds with
      | none => rw [e3] at h; cases h
      | some es' =>
        rw [e3] at h
        cases h
        obtain ⟨ps, kvs, rfl, h1, h2⟩ := pairs_rel K s b e3
        cases a with
        | @tup ad xs _ r q =>
          cases q with
          | cons a1 q =>
            cases q with
            | cons a2 q =>
              cases q
              rename_i w1 w2
              have e4 := key_vw (H := G) (.inl a1) ek
              subst e4
              exact ⟨ad :: ps, (kk, w2) :: kvs, rfl, .cons (.inl (.inl (s _ _ r))) h1, .cons ⟨ek, a2⟩ h2⟩
    · cases h
theorem merge_rel {G : Hp} : ∀ {more : List (Key × V)} {es : List (D × D)} {vs : List (Key × V)} {ds : List (D × D)}, Paired (fun (p : Key × V) (q : D × D) => keyD q.1 = some p.1 ∧ Rq G p.2 q.2) more es →
    Paired (fun (p : Key × V) (q : D × D) => keyD q.1 = some p.1 ∧ Rq G p.2 q.2) vs ds → Paired (fun (p : Key × V) (q : D × D) => keyD q.1 = some p.1 ∧ Rq G p.2 q.2) (mergeK vs more) (mergeKD ds es)
  | _, _, vs, ds, .nil, h => h
  | p :: more, q :: es, vs, ds, .cons a b, h => merge_rel (more := more) (es := es) b (put_rel a.1 a.2 h)
theorem boot_dict : bootBuiltins "dict" = some (.type "dict") := by decide +kernel
theorem d_dpr (ok : XOk Φ W c X) {a : Expr} {oa : Rho → R Opd} {p pos : Pos} (h1 : c.bltOk "dict" = true) (ha : PE X a (tO X W oa)) (hs : noStar a = true) :
    PE X (.Call (.Name "dict" p) [a] [] pos) (tO X W fun ρ => (oa ρ).bind fun x ρ1 => R.of ((x.see ρ1).bind fun d => (dprD d).map Opd.tmp) ρ1) := by
  obtain ⟨g1, g2, g3, g4⟩ := ok.blt h1
  refine (pe_val (.inr ⟨_, rfl⟩) (call_dictP ok.calm) g1 g2 boot_dict (pa_cons ha pa_nil (star1 hs _ _)) g4 g3 (fun y hy => by simp at hy; subst hy; exact hs)).weak fun σ H Q ⟨G, ρ, τ, R, h⟩ => ?_
  rw [wpR_bind] at h
  refine tO.step R h (fun _ _ z => z) fun x ρ1 v G1 H1 p s1 R1 a1 => ?_
  obtain ⟨o, e, p⟩ := wpR_of p
  cases ed : x.see ρ1 with
  | none => rw [ed] at e; cases e
  | some d =>
    rw [ed] at e
    cases d with
    | list ds =>
      simp only [Option.bind_some, dprD] at e
      cases ep : pairsD ds with
      | none => rw [ep] at e; cases e
      | some es =>
        rw [ep] at e
        cases e
        obtain ⟨b, vs, rfl, r, k⟩ := (Opd.vw (A := []) R1 a1 ed).lst R1.same
        obtain ⟨ps, kvs, rfl, q1, q2⟩ := pairs_rel X.K R1.same k ep
        refine ⟨b, ps, kvs, rfl, SqL.rd r, q1, fun q hq => ?_⟩
        obtain ⟨G2, s2, R2⟩ := (R1.sub (Opd.sub _ _ _)).new (.od (u := .k (mergeK [] kvs)) hq (.k (merge_rel q2 .nil)))
        exact p _ G2 _ (s1.trans s2) R2 trivial
    | _ => cases e
theorem dbind2 {α : Type} {x : Option (Bool × List (D × D))} {y : Option D} {f : Bool × List (D × D) → D → Option α} {a : α} (h : (x.bind fun d => y.bind fun e => f d e) = some a) : ∃ d e, x = some d ∧ y = some e ∧ f d e = some a := by
  cases x with
  | none => cases h
  | some d => cases y with
    | none => cases h
    | some e => exact ⟨d, e, rfl, rfl, h⟩
theorem d_dat (ok : XOk Φ W c X) {a b : Expr} {oa ob : Rho → R Opd} {pos : Pos} (ha : PE X a (tO X W oa)) (hb : PE X b (tO X W ob)) (hs : noSlice b = true) :
    PE X (.Subscript a b pos) (tO X W fun ρ => (oa ρ).bind fun x ρ1 => (ob ρ1).bind fun y ρ2 => R.of ((x.dic ρ2).bind fun q => (y.see ρ2).bind fun e => (datD q e).map fun f => .tmp (.fz f)) ρ2) := by
  have hu := ok.hu
  have hp : NoSl b := by
    intro o i
    cases b <;> first | rfl | cases hs
  refine (pe_dget (by omega) ha hb hp).weak fun σ H Q ⟨G, ρ, τ, R, h⟩ => ?_
  simp only [wpR_bind] at h
  refine d_two (a := a) (b := b) R h fun x y v w ρ2 G2 H2 p s R2 a1 a2 => ?_
  obtain ⟨o, e, p⟩ := wpR_of p
  obtain ⟨q, f, e1, e2, e⟩ := dbind2 e
  obtain ⟨ad, u, rfl, rd, rq⟩ := Opd.dvw2 R2 a1 e1
  unfold datD at e
  split at e
  case isFalse => cases e
  case isTrue hk =>
  obtain ⟨o', g, q'⟩ := dget_of R2.same rd rq (Opd.vw (A := []) R2 a2 e2) hk
  rcases q' with ⟨_, z⟩ | ⟨vv, d, rfl, z, r⟩
  · rw [z] at e; cases e
  · rw [z] at e
    cases e
    exact ⟨ad, vv, rfl, g, p vv G2 H2 s ((R2.sub (Opd.sub2 _ _ _ _ _)).addFz r) trivial⟩
theorem d_dinK {neg : Bool} {a b : Expr} {oa ob : Rho → R Opd} {G H : Hp} {ρ : Rho} {τ : List (V × T)} {σ : St} {P : Bool → Rho → Prop} {K : VK}
    (R : Rel G ρ τ σ H) (h : wpR ((ob ρ).bind fun y ρ1 => (oa ρ1).bind fun x ρ2 => Eng.R.of ((y.see ρ2).bind fun e => (x.dic ρ2).bind fun q => (dinD q e).map fun r => if neg then !r else r) ρ2) P (ExP X W G τ σ)) (k : ∀ b ρ2 G2 H2, P b ρ2 → Same G G2 → Rel G2 ρ2 τ σ H2 → K (.bl b) H2) :
    tO X W ob σ H fun y H1 => tO X W oa σ H1 fun x H2 => ∃ a o, x = .ref a ∧ DGet H2 a y o ∧ K (.bl (if neg then !o.isSome else o.isSome)) H2 := by
  simp only [wpR_bind] at h
  refine d_two (a := b) (b := a) R h fun y x w v ρ2 G2 H2 p s R2 a2 a1 => ?_
  obtain ⟨o, e, p⟩ := wpR_of p
  cases e2 : y.see ρ2 with
  | none => rw [e2] at e; cases e
  | some f =>
    cases e1 : x.dic ρ2 with
    | none => rw [e2, e1] at e; cases e
    | some q =>
      rw [e2, e1] at e
      simp only [Option.bind_some, dinD] at e
      obtain ⟨ad, u, rfl, rd, rq⟩ := Opd.dvw (A := []) R2 a1 e1
      by_cases hk : keyOk q.1 f = true
      case neg => rw [if_neg hk] at e; cases e
      case pos =>
      rw [if_pos hk] at e
      obtain ⟨o', g, q'⟩ := dget_of R2.same rd rq (Opd.vw2 R2 a2 e2) hk
      have es : o'.isSome = (getKD q.1 q.2 f).isSome := by
        rcases q' with ⟨rfl, z⟩ | ⟨vv, d, rfl, z, r⟩
        · rw [z]; rfl
        · rw [z]; rfl
      cases e
      refine ⟨ad, o', rfl, g, ?_⟩
      rw [es]
      exact k _ ρ2 G2 H2 p s (R2.sub (Opd.sub2 _ _ _ _ _))
theorem d_din (ok : XOk Φ W c X) (neg : Bool) {a b : Expr} {oa ob : Rho → R Opd} {pos : Pos} (ha : PE X a (tO X W oa)) (hb : PE X b (tO X W ob)) (hs : noSet a = true) :
    PE X (.Compare b [if neg then .NotIn else .In] [a] pos) (tO X W fun ρ => ofB ((ob ρ).bind fun y ρ1 => (oa ρ1).bind fun x ρ2 => R.of ((y.see ρ2).bind fun e => (x.dic ρ2).bind fun q => (dinD q e).map fun r => if neg then !r else r) ρ2)) ∧
    PT X (.Compare b [if neg then .NotIn else .In] [a] pos) (tK X W ((fun ρ => (ob ρ).bind fun y ρ1 => (oa ρ1).bind fun x ρ2 => R.of ((y.see ρ2).bind fun e => (x.dic ρ2).bind fun q => (dinD q e).map fun r => if neg then !r else r) ρ2))) := by
  have hu := ok.hu
  cases neg with
  | false =>
    refine ⟨(pe_cmp (pc_din (by omega) hb ha) (noSet_in hs _)).weak fun σ H Q ⟨G, ρ, τ, R, h⟩ => ?_, (pt_cmp (pc_din (by omega) hb ha) (noSet_in hs _)).weak fun σ H Q ⟨G, ρ, τ, R, h⟩ => ?_⟩
    · simp only [ofB, wpR_map] at h
      exact d_dinK (neg := false) (a := a) (b := b) R h fun b ρ2 G2 H2 p s R2 => p _ G2 H2 s (R2.addFz (.bl b)) trivial
    · exact d_dinK (neg := false) (a := a) (b := b) (K := fun v H => ∃ b, v = .bl b ∧ Q b H) R h fun b ρ2 G2 H2 p s R2 => ⟨b, rfl, p G2 H2 s R2⟩
  | true =>
    refine ⟨(pe_cmp (pc_dnotin (by omega) hb ha) (noSet_in hs _)).weak fun σ H Q ⟨G, ρ, τ, R, h⟩ => ?_, (pt_cmp (pc_dnotin (by omega) hb ha) (noSet_in hs _)).weak fun σ H Q ⟨G, ρ, τ, R, h⟩ => ?_⟩
    · simp only [ofB, wpR_map] at h
      exact d_dinK (neg := true) (a := a) (b := b) R h fun b ρ2 G2 H2 p s R2 => p _ G2 H2 s (R2.addFz (.bl b)) trivial
    · exact d_dinK (neg := true) (a := a) (b := b) (K := fun v H => ∃ b, v = .bl b ∧ Q b H) R h fun b ρ2 G2 H2 p s R2 => ⟨b, rfl, p G2 H2 s R2⟩
theorem push_app (o : Opd) (v : V) (τ : List (V × T)) : ∃ A, o.push v τ = A ++ τ := by
  cases o with
  | tmp t => exact ⟨[(v, t)], rfl⟩
  | sl i => exact ⟨[], rfl⟩
theorem base_get {m : Str} {o : Expr} (h0 : noCall0 o = true) : attributeBase o m X.env (eval o X.env) = eval o X.env := by
  unfold attributeBase
  split
  · exact absurd h0 (by simp [noCall0])
  · rfl
theorem dge_fin {G H : Hp} {ρ : Rho} {τ : List (V × T)} {σ : St} {x y : Opd} {v w u : V} {g : Opd} {f : D} (R : Rel G ρ (y.push w (x.push v τ)) σ H) (a1 : x.at_ v σ) (a2 : y.at_ w σ) (r : Rq G u f)
    (e : ((x.dic ρ).bind fun q => (y.see ρ).bind fun e => (dgeD q e f).map fun g => Opd.tmp (.fz g)) = some g) :
    ∃ a o r, v = .ref a ∧ DGet H a w o ∧ g = .tmp (.fz r) ∧ Rq G (o.getD u) r := by
  obtain ⟨q, k, e1, e2, e⟩ := dbind2 e
  unfold dgeD at e
  by_cases hk : keyOk q.1 k = true
  case neg => rw [if_neg hk] at e; cases e
  case pos =>
  rw [if_pos hk] at e
  cases e
  obtain ⟨ad, uu, rfl, rd, rq⟩ := Opd.dvw2 R a1 e1
  obtain ⟨o', g, q'⟩ := dget_of R.same rd rq (Opd.vw (A := []) R a2 e2) hk
  refine ⟨ad, o', _, rfl, g, rfl, ?_⟩
  rcases q' with ⟨rfl, zz⟩ | ⟨vv, d, rfl, zz, r⟩
  · rw [zz]
    exact r
  · rw [zz]
    exact r
theorem d_dge1 (ok : XOk Φ W c X) {o a : Expr} {oa ob : Rho → R Opd} {ap pos : Pos} (ha : PE X o (tO X W oa)) (hb : PE X a (tO X W ob)) (h0 : noCall0 o = true) (hl : (ap.endLine == pos.line) = true) (hs : noStar a = true) :
    PE X (.Call (.Attribute o "get" ap) [a] [] pos) (tO X W fun ρ => (oa ρ).bind fun x ρ1 => if (x.dic ρ1).isSome then (ob ρ1).bind fun y ρ2 => (R.ok (.none : D) ρ2).bind fun f ρ3 => R.of ((x.dic ρ3).bind fun q => (y.see ρ3).bind fun e => (dgeD q e f).map fun g => .tmp (.fz g)) ρ3 else .no) := by
  have hu := ok.hu
  have st := star1 hs [] X.env
  refine (pe_dget1 (by omega) ha hb ⟨base_get h0, by rw [st]; rfl, hl, by rw [st]; rfl⟩).weak fun σ H Q ⟨G, ρ, τ, R, h⟩ => ?_
  rw [wpR_bind] at h
  refine tO.step R h (fun _ _ z => z) fun x ρ1 v G1 H1 p s1 R1 a1 => ?_
  split at p
  case isFalse => exact p.elim
  case isTrue hd =>
  obtain ⟨q, eq⟩ := Option.isSome_iff_exists.mp hd
  obtain ⟨ad, rfl, isd⟩ := (Opd.dvw (A := []) R1 a1 eq).isD
  refine ⟨ad, rfl, isd, ?_⟩
  rw [wpR_bind] at p
  refine tO.step R1 p (fun _ _ z => z.mono s1 (Opd.sub _ _ _)) fun y ρ2 w G2 H2 p s2 R2 a2 => ?_
  obtain ⟨g, e, p⟩ := wpR_of (show wpR (Eng.R.of _ ρ2) _ _ from p)
  obtain ⟨ad', o', r, ev, dg, rfl, rr⟩ := dge_fin R2 a1 a2 .non e
  cases ev
  exact ⟨o', dg, p _ G2 H2 (s1.trans s2) ((R2.sub (Opd.sub2 _ _ _ _ _)).addFz rr) trivial⟩
theorem d_dge2 (ok : XOk Φ W c X) {o a b : Expr} {oa ob : Rho → R Opd} {dc : Rho → R D} {ap pos : Pos} (ha : PE X o (tO X W oa)) (hb : PE X a (tO X W ob)) (hc : PE X b (tD X W dc)) (h0 : noCall0 o = true) (hl : (ap.endLine == pos.line) = true) (hs : noStar a = true) (hs2 : noStar b = true) :
    PE X (.Call (.Attribute o "get" ap) [a, b] [] pos) (tO X W fun ρ => (oa ρ).bind fun x ρ1 => if (x.dic ρ1).isSome then (ob ρ1).bind fun y ρ2 => (dc ρ2).bind fun f ρ3 => R.of ((x.dic ρ3).bind fun q => (y.see ρ3).bind fun e => (dgeD q e f).map fun g => .tmp (.fz g)) ρ3 else .no) := by
  have hu := ok.hu
  have st := star1 hs [b] X.env
  have st2 := star1 hs2 [] X.env
  refine (pe_dget2 (by omega) ha hb hc ⟨base_get h0, by rw [st, st2]; rfl, hl, by rw [st, st2]; rfl⟩).weak fun σ H Q ⟨G, ρ, τ, R, h⟩ => ?_
  rw [wpR_bind] at h
  refine tO.step R h (fun _ _ z => z) fun x ρ1 v G1 H1 p s1 R1 a1 => ?_
  split at p
  case isFalse => exact p.elim
  case isTrue hd =>
  obtain ⟨q, eq⟩ := Option.isSome_iff_exists.mp hd
  obtain ⟨ad, rfl, isd⟩ := (Opd.dvw (A := []) R1 a1 eq).isD
  refine ⟨ad, rfl, isd, ?_⟩
  rw [wpR_bind] at p
  refine tO.step R1 p (fun _ _ z => z.mono s1 (Opd.sub _ _ _)) fun y ρ2 w G2 H2 p s2 R2 a2 => ?_
  rw [wpR_bind] at p
  refine tD.step R2 p (fun _ _ z => (z.mono s1 (Opd.sub _ _ _)).mono s2 (Opd.sub _ _ _)) fun f ρ3 u G3 H3 p s3 R3 r3 => ?_
  obtain ⟨g, e, p⟩ := wpR_of p
  obtain ⟨ad', o', r, ev, dg, rfl, rr⟩ := dge_fin R3 a1 a2 r3 e
  cases ev
  exact ⟨o', dg, p _ G3 H3 ((s1.trans s2).trans s3) ((R3.sub (Opd.sub2 _ _ _ _ _)).addFz rr) trivial⟩
/-! ### walks over lists turned round, over dicts -/
def revI (dd : Rho → R D) (ρ : Rho) : R Src := (dd ρ).bind fun d ρ1 => R.of (match d with | .list ds => some (.tmp false ds.reverse) | _ => none) ρ1
theorem srcV {G0 : Hp} {a : Addr} {ds : List D} {σ : St} (K : PySem.W.Frag) : SrcOk G0 (.tmp false ds.reverse) (Itv K a ds.length) [(.ref a, .fz (.list ds))] σ := fun G ρ τ σ' H _ R _ => by
  have rq : Rq G (.ref a) (.list ds) := R.fz
  cases rq with
  | @lst _ vs _ r k =>
  have rd := Rd.mono R.same r
  refine ⟨fun j d hj e => ?_, fun _ => ?_⟩
  · have hj' : j < ds.length := by simpa [Src.len] using hj
    have e : ds.reverse[j]? = some d := e
    rw [List.getElem?_reverse hj'] at e
    obtain ⟨v, ev, rv⟩ := k.get e
    refine ⟨⟨hj', vs, v, SqL.rd rd, ev⟩, fun x H' ⟨eH, hx⟩ => ⟨eH, ?_⟩⟩
    have := hx vs (SqL.rd rd)
    rw [ev] at this
    cases this
    exact rv
  · show ds.length ≤ ds.reverse.length
    rw [List.length_reverse]
    exact Nat.le_refl _
theorem i_rev (ok : XOk Φ W c X) {a tg : Expr} {dd : Rho → R D} {p pos : Pos} (h0 : c.bltOk "reversed" = true) (ha : PE X a (tD X W dd)) (hs : noStar a = true) :
    PI X tg (.Call (.Name "reversed" p) [a] [] pos) (tI X W (revI dd)) := by
  obtain ⟨f1, f2, _, _⟩ := ok.blt h0
  refine (RT.pi_revA f1 f2 ha (star1 hs _ _)).weak fun σ H Rk ⟨G, ρ, τ, R, h⟩ => ?_
  unfold revI at h
  rw [wpR_bind] at h
  refine tD.step R h (fun _ _ z => z) fun d ρ1 v G1 H1 p s1 R1 r1 => ?_
  obtain ⟨src, e, p⟩ := wpR_of p
  cases d with
  | list ds =>
    cases e
    obtain ⟨b, vs, rfl, r, k⟩ := r1.lst'
    have rd := Rd.mono R1.same r
    refine ⟨b, vs, rfl, .inl ⟨SqL.rd rd, ?_⟩⟩
    rw [k.length]
    exact p _ [(.ref b, .fz (.list ds))] G1 H1 s1 (R1.addFz r1) (srcV X.K)
  | _ => cases e
/-- the keys of the locked dict at slot i -/
def srcK (i : Nat) (ρ : Rho) : R Src := match slotT ρ i with
  | some (.lk false kvs) => .ok (.tmp false (kvs.map (·.1))) ρ
  | _ => .no
theorem kV_rq {G : Hp} {k : Key} {d : D} (h : keyD d = some k) : Rq G (kV k) d := by
  cases d <;> cases h
  · exact .int _
  · exact .str _
theorem paired_get {α β : Type} {P : α → β → Prop} : ∀ {as : List α} {bs : List β}, Paired P as bs → ∀ {j : Nat} {a : α} {b : β}, as[j]? = some a → bs[j]? = some b → P a b
  | _, _, .nil, j, a, b, h, _ => by simp at h
  | _, _, .cons x t, 0, a, b, h1, h2 => by
    cases h1
    cases h2
    exact x
  | _, _, .cons x t, j + 1, a, b, h1, h2 => paired_get t (by simpa using h1) (by simpa using h2)
theorem srcKs {G0 : Hp} {a : Addr} {o : Obj} {vs : List (Key × V)} {kvs : List (D × D)} {σ : St} (g : G0 a = some (.frz o (.dK vs))) (h : Paired (fun (p : Key × V) (q : D × D) => keyD q.1 = some p.1 ∧ Rq G0 p.2 q.2) vs kvs) :
    SrcOk G0 (.tmp false (kvs.map (·.1))) (Itk a o vs) [] σ := fun G ρ τ σ' H s R _ => by
  have ha := R.same _ _ (s _ _ g)
  have hl : vs.length = kvs.length := Paired.length h
  refine ⟨fun j d hj e => ?_, fun _ => ?_⟩
  · have hj' : j < kvs.length := by simpa [Src.len] using hj
    have e : (kvs.map (·.1))[j]? = some d := e
    refine ⟨⟨ha, by omega⟩, fun x H' ⟨eH, k, v, ek, ex⟩ => ⟨eH, ?_⟩⟩
    rw [List.getElem?_map] at e
    cases eq : kvs[j]? with
    | none => rw [eq] at e; cases e
    | some q =>
      rw [eq] at e
      cases e
      rw [ex]
      exact kV_rq (paired_get h ek eq).1
  · refine ⟨ha, ?_⟩
    show vs.length ≤ (kvs.map (·.1)).length
    rw [List.length_map, hl]
    exact Nat.le_refl _
theorem i_dks (ok : XOk Φ W c X) {i : Nat} {x : Str} {p : Pos} {tg : Expr} (hx : c.nameOk i x = true) : PI X tg (.Name x p) (tI X W (srcK i)) := by
  refine (pi_keys (d_var ok hx)).weak fun σ H Rk ⟨G, ρ, τ, R, h⟩ => ?_
  unfold srcK at h
  cases e : slotT ρ i with
  | none => rw [e] at h; exact h.elim
  | some t =>
    rw [e] at h
    cases t with
    | lk b kvs =>
      cases b with
      | true => exact h.elim
      | false =>
        obtain ⟨v, ev, hh⟩ := R.slot (slotT_some e)
        obtain ⟨a, o, u, rfl, g, r, _⟩ := hh.lk
        cases r with
        | @k vs _ r =>
        refine ⟨_, ev, a, o, rfl, .inl ⟨vs, R.same _ _ g, ?_⟩⟩
        exact h (Itk a o vs) [] G H (Same.refl _) R (srcKs g r)
    | _ => exact h.elim
/-- the dict at slot i is locked -/
theorem Rel.lock {G H : Hp} {ρ : Rho} {τ : List (V × T)} {σ : St} {i : Nat} {kvs : List (D × D)} (R : Rel G ρ τ σ H) (e : slotT ρ i = some (.od false kvs)) : ∃ a vs, σ[i]? = some (some (.ref a)) ∧ G a = none ∧ H a = some (.dK vs) ∧
    ∀ o, Rel (upd G a (.frz o (.dK vs))) (ρ.set i (some (.lk false kvs))) τ σ (upd H a (.frz o (.dK vs))) := by
  obtain ⟨v, ev, R1⟩ := R.out (slotT_some e)
  obtain ⟨a, u, rfl, g, eh, rq, _, lock⟩ := R1.held.mid.od
  cases rq with
  | @k vs _ rq =>
  refine ⟨a, vs, ev, g, eh, fun o => ?_⟩
  have R2 : Rel (upd G a (.frz o (.dK vs))) (ρ.set i none) ((.ref a, .lk false kvs) :: τ) σ (upd H a (.frz o (.dK vs))) := ⟨Same.updBoth R.same, R1.slots, (lock o).unmid⟩
  have R3 := Rel.lay R2 ev
  rw [List.set_set] at R3
  exact R3
/-- .. and unlocked -/
theorem Rel.unlock {G H G0 : Hp} {ρ ρ2 : Rho} {τ : List (V × T)} {σ : St} {i : Nat} {a : Addr} {o : Obj} {vs : List (Key × V)} (R : Rel G ρ τ σ H) (ev : σ[i]? = some (some (.ref a))) (s : Same (upd G0 a (.frz o (.dK vs))) G) (g0 : G0 a = none) (e : unlkR i ρ = some ρ2) :
    H a = some (.frz o (.dK vs)) ∧ ∃ G', Same G0 G' ∧ Rel G' ρ2 τ σ (upd H a (.dK vs)) := by
  have ga : G a = some (.frz o (.dK vs)) := s _ _ upd_same
  refine ⟨R.same _ _ ga, ?_⟩
  unfold unlkR at e
  cases q : slotT ρ i with
  | none => rw [q] at e; cases e
  | some t =>
    rw [q] at e
    cases t with
    | lk b kvs =>
      cases e
      obtain ⟨v', ev', R4⟩ := R.out (slotT_some q)
      rw [ev] at ev'
      cases ev'
      obtain ⟨a', o', u', ea, g', rq', K⟩ := R4.held.mid.lk
      cases ea
      rw [ga] at g'
      have eu : (DV.ho u') = .dK vs := by
        injection g' with g'
        injection g' with _ g'
        exact g'.symm
      rw [eu] at K
      refine ⟨drp G a, Same.toDrp ((Same.updOut g0).trans s) g0, ?_⟩
      have R5 : Rel (drp G a) (ρ.set i none) ((.ref a, .od b kvs) :: τ) σ (upd H a (.dK vs)) := ⟨Same.drp R.same, R4.slots, K.unmid⟩
      have R6 := Rel.lay R5 ev
      rw [List.set_set] at R6
      exact R6
    | _ => cases e
theorem slotT_set {ρ : Rho} {i : Nat} {x : Option T} {t : T} (e : slotT ρ i = some t) : slotT (ρ.set i x) i = x := by
  have hl := (List.getElem?_eq_some_iff.mp (slotT_some e)).1
  unfold slotT
  rw [List.getElem?_set_self hl]
  rfl
theorem slotT_ne {ρ : Rho} {i j : Nat} (h : j ≠ i) (x : Option T) : slotT (ρ.set j x) i = slotT ρ i := by
  unfold slotT
  rw [List.getElem?_set_ne h]
theorem wpR_calm {α : Type} {r : R α} {P : α → Rho → Prop} {E : Ex → Rho → Prop} : wpR r.calm P E = wpR r P (fun _ _ => False) := by
  cases r <;> rfl
theorem tI.of0 {f : Rho → R Src} {σ : St} {H : Hp} {Rk : L2.It → Hp → Prop} (h : tI X (fun _ _ _ _ => False) f σ H Rk) : tI X W f σ H Rk := by
  obtain ⟨G, ρ, τ, R, h⟩ := h
  exact ⟨G, ρ, τ, R, h.mono (fun _ _ p => p) fun _ _ z cls d G' H' e s R => (z cls d G' H' e s R).elim⟩
theorem tLc_of0 {f : Rho → R Src} {g : TG} {tt : TT} {te : TE} {vs : List Nat} {σ : St} {H : Hp} {Q : VK} (h : tLc (tI X (fun _ _ _ _ => False) f) g tt te vs σ H Q) : tLc (tI X W f) g tt te vs σ H Q := by
  unfold tLc at h ⊢
  exact tI.of0 h
theorem lcd_rd {s i : Nat} {C : Rho → R Bool} {el : Rho → R D} {σ : St} {H : Hp} {Q : VK} (hlt : s < X.N.length) (hlen : σ.length = X.N.length) (h : tO X W (fun ρ => lcdRun s i C el ρ) σ H Q) :
    ∃ a vs, H a = some (.dK vs) ∧ ∀ o, tLc (tI X W (srcK i)) (gOf X.K (.one s)) (tK X (fun _ _ _ _ => False) C) (tD X (fun _ _ _ _ => False) el) [s] σ (upd H a (.frz o (.dK vs))) fun v H' => H' a = some (.frz o (.dK vs)) ∧ Q v (upd H' a (.dK vs)) := by
  obtain ⟨G, ρ, τ, R, h⟩ := h
  unfold lcdRun at h
  dsimp only at h
  cases e : slotT ρ i with
  | none => rw [e] at h; exact h.elim
  | some t =>
    rw [e] at h
    cases t with
    | od b kvs =>
      cases b with
      | true => exact h.elim
      | false =>
      simp only at h
      split at h
      case isTrue => exact h.elim
      case isFalse hsi =>
      obtain ⟨a, vs, ev, g, eh, lock⟩ := R.lock e
      refine ⟨a, vs, eh, fun o => ?_⟩
      refine tLc_of0 (lc_rd (W := fun _ _ _ _ => False) (own := [s]) (tg := .one s) (by simp) (fun i hi => hi) (fun i hi => by rw [List.mem_singleton.mp hi]; exact hlt) hlen ⟨_, _, τ, lock o, ?_⟩)
      have es : srcK i (ρ.set i (some (.lk false kvs))) = .ok (.tmp false (kvs.map (·.1))) (ρ.set i (some (.lk false kvs))) := by
        unfold srcK
        rw [slotT_set e]
      unfold lcF
      rw [es]
      show wpR (((lcRun [s] (.one s) (.tmp false (kvs.map (·.1))) C el (kvs.map (·.1)).length 0 [] ((ρ.set i (some (.lk false kvs))).set s none)).lets _).bind _) _ _
      rw [List.length_map]
      rw [wpR_bind, wpR_calm] at h
      rw [wpR_bind, wpR_lets]
      refine h.mono (fun ds ρ2 p => ?_) fun x ρ2 p => p.elim
      intro v G' H' s1 R' _
      have eb : backR (ρ.set i (some (.lk false kvs))) ρ2 [s] = ρ2.set s (slotT ρ s) := by
        show ρ2.set s (slotT (ρ.set i (some (.lk false kvs))) s) = _
        rw [slotT_ne (fun z => hsi z.symm)]
      rw [eb] at R'
      cases eu : unlkR i (ρ2.set s (slotT ρ s)) with
      | none => rw [eu] at p; exact p.elim
      | some ρ3 =>
        rw [eu] at p
        obtain ⟨ha, G2, s2, R2⟩ := R'.unlock ev s1 g eu
        exact ⟨ha, p v G2 _ s2 R2 trivial⟩
    | _ => exact h.elim
/-- a comprehension over a dict's keys -/
theorem d_lcd (ok : XOk Φ W c X) {s i : Nat} {te x : Str} {ee : Expr} {ifs : List Expr} {scope : Scope} {pos p1 p2 : Pos} {C : Rho → R Bool} {el : Rho → R D}
    (hb : blkC c.N c.sc scope ([s].filterMap fun i => (c.N[i]?).map fun x => (x, i)) = true) (hown : ([s].filterMap fun i => (c.N[i]?).map fun x => (x, i)).map (·.2) = [s]) (hsto : Ctx.storeOk ⟨c.N, scope, c.tb⟩ s te = true) (hx : c.nameOk i x = true)
    (hlt : s < X.N.length)
    (ht : ∀ X' : Cx, XOk Φ (fun _ _ _ _ => False) ⟨c.N, scope, c.tb⟩ X' → PTs X' ifs (tK X' (fun _ _ _ _ => False) C)) (he : ∀ X' : Cx, XOk Φ (fun _ _ _ _ => False) ⟨c.N, scope, c.tb⟩ X' → PE X' ee (tD X' (fun _ _ _ _ => False) el)) :
    PE X (.ListComp ee [⟨.Name te p1, .Name x p2, ifs, 0⟩] scope pos) (tO X W fun ρ => lcdRun s i C el ρ) := by
  have p := pe_lc (pos := pos) ok.calm (by rw [ok.hN]; exact ok.nd) (i_dks (W := W) ok (p := p2) (tg := .Name te p1) hx) (blk_of ok hb) (g := gOf X.K (.one s)) (tt := tK X (fun _ _ _ _ => False) C) (te := tD X (fun _ _ _ _ => False) el) (fun s' H C cl fp => g_name ok.blk hsto) (fun s H C cl fp => ht _ ok.blk) (fun s H C cl fp => he _ ok.blk) (fun _ => rfl)
  rw [hown] at p
  refine (pe_lock p).weakL fun σ H Q hlen h => ?_
  obtain ⟨a, vs, eh, k⟩ := lcd_rd hlt hlen h
  exact ⟨a, .dK vs, eh, trivial, fun o => k o⟩
theorem d_setLcd (ok : XOk Φ W c X) {s i j : Nat} {te x y : Str} {ee : Expr} {ifs : List Expr} {scope : Scope} {pos p1 p2 py spos : Pos} {C : Rho → R Bool} {el : Rho → R D}
    (hy : X.N[j]? = some y) (hyl : X.env.scope.names.lookup y = some .local) (hsw : swapsWith (.ListComp ee [⟨.Name te p1, .Name x p2, ifs, 0⟩] scope pos) (some (.Name y py)) spos.line X.env = pure true)
    (hb : blkC c.N c.sc scope ([s].filterMap fun i => (c.N[i]?).map fun x => (x, i)) = true) (hown : ([s].filterMap fun i => (c.N[i]?).map fun x => (x, i)).map (·.2) = [s]) (hsto : Ctx.storeOk ⟨c.N, scope, c.tb⟩ s te = true) (hx : c.nameOk i x = true)
    (hlt : s < X.N.length)
    (ht : ∀ X' : Cx, XOk Φ (fun _ _ _ _ => False) ⟨c.N, scope, c.tb⟩ X' → PTs X' ifs (tK X' (fun _ _ _ _ => False) C)) (he : ∀ X' : Cx, XOk Φ (fun _ _ _ _ => False) ⟨c.N, scope, c.tb⟩ X' → PE X' ee (tD X' (fun _ _ _ _ => False) el)) :
    PS X (.Assign [.Name y py] (.ListComp ee [⟨.Name te p1, .Name x p2, ifs, 0⟩] scope pos) spos) (tAsg (tO X W fun ρ => lcdRun s i C el ρ) (gName j)) := by
  have p := ps_setLc (py := py) (spos := spos) ok.calm (by rw [ok.hN]; exact ok.nd) hy hyl hsw (i_dks (W := W) ok (p := p2) (tg := .Name te p1) hx) (blk_of ok hb) (g := gOf X.K (.one s)) (tt := tK X (fun _ _ _ _ => False) C) (te := tD X (fun _ _ _ _ => False) el) (fun s' H C cl fp => g_name ok.blk hsto) (fun s H C cl fp => ht _ ok.blk) (fun s H C cl fp => he _ ok.blk) (fun _ => rfl)
  rw [hown] at p
  refine (ps_lock p).weakL fun D σ H hlen h => ?_
  obtain ⟨a, vs, eh, k⟩ := lcd_rd hlt hlen h
  exact ⟨a, .dK vs, eh, trivial, fun o => k o⟩
end
end L2.Eng

/-! EngF: every expression that the checker takes. -/
namespace L2.Eng
open PySem PySem.Spec PyProof.Rows

def SE (Φ : Fx) (a : E) : Prop := ∀ {c : Ctx} {W : WX} {X : Cx}, XOk Φ W c X → ∀ {e : Expr}, ckE c a e = true → PE X e (tO X W (ev2 Φ a).1) ∧ (tOk a = true → PT X e (tK X W (ev2 Φ a).2)) ∧
  (tOk a = true → ∀ op xs p, e = .BoolOp op xs p → PW X e (tK X W (ev2 Φ a).2))
def SEs (Φ : Fx) (es : Es) : Prop := ∀ {c : Ctx} {W : WX} {X : Cx}, XOk Φ W c X → ∀ {xs : List Expr}, ckEs c es xs = true → PA X xs (tOs X W (evOs Φ es)) ∧ PA X xs (tDs X W (evDs Φ es))
def SOE (Φ : Fx) (o : OE) : Prop := ∀ {c : Ctx} {W : WX} {X : Cx}, XOk Φ W c X → (∀ {x : Option Expr}, ckOE c o x = true → PO X x (tOI X W (evOI Φ o))) ∧ ∀ {ifs : List Expr}, ckC c o ifs = true → PTs X ifs (tK X W (evC Φ o))
def SIt (Φ : Fx) (i : It) : Prop := ∀ {c : Ctx} {W : WX} {X : Cx}, XOk Φ W c X → ∀ {e tg : Expr}, ckI c i e = true → PI X tg e (tI X W (evI Φ i))
section
variable {Φ : Fx}
/-- an expression whose truth is that of its value -/
theorem plainS {a : E} {o : Rho → R Opd} (he : ev2 Φ a = dfl o) (h : ∀ {c : Ctx} {W : WX} {X : Cx}, XOk Φ W c X → ∀ {e : Expr}, ckE c a e = true → PE X e (tO X W o) ∧ (plainT e = true)) (hb : ∀ {c : Ctx} {op xs p}, ckE c a (.BoolOp op xs p) = false) : SE Φ a := by
  intro c W X ok e hc
  obtain ⟨h1, h2⟩ := h ok hc
  rw [he]
  refine ⟨h1, fun _ => d_truth h1 h2, fun _ op xs p ee => ?_⟩
  subst ee
  rw [hb] at hc
  cases hc
theorem s_nm (i : Nat) : SE Φ (.nm i) := plainS rfl (fun ok e hc => by
  cases e <;> simp only [ckE] at hc <;> try contradiction
  exact ⟨d_nm ok hc, rfl⟩) (by intros; rfl)
theorem s_mv (i : Nat) : SE Φ (.mv i) := plainS rfl (fun ok e hc => by
  cases e <;> simp only [ckE] at hc <;> try contradiction
  exact ⟨d_mv ok hc, rfl⟩) (by intros; rfl)
theorem s_int (i : Int) : SE Φ (.int i) := plainS rfl (fun ok e hc => by
  cases e <;> try (simp only [ckE] at hc; done)
  case Constant v k p =>
    cases v <;> simp only [ckE] at hc <;> try contradiction
    have hc := of_decide_eq_true hc
    subst hc
    exact ⟨d_const pe_int fun _ => .int _, rfl⟩
  all_goals (simp only [ckE] at hc; contradiction)) (by intros; rfl)
theorem s_str (x : Str) : SE Φ (.str x) := plainS rfl (fun ok e hc => by
  cases e <;> try (simp only [ckE] at hc; done)
  case Constant v k p =>
    cases v <;> simp only [ckE] at hc <;> try contradiction
    have hc := of_decide_eq_true hc
    subst hc
    exact ⟨d_const pe_str fun _ => .str _, rfl⟩
  all_goals (simp only [ckE] at hc; contradiction)) (by intros; rfl)
theorem s_bl (b : Bool) : SE Φ (.bl b) := plainS rfl (fun ok e hc => by
  cases e <;> try (simp only [ckE] at hc; done)
  case Constant v k p =>
    cases v <;> simp only [ckE] at hc <;> try contradiction
    have hc := beq_iff_eq.mp hc
    subst hc
    exact ⟨d_const pe_bl fun _ => .bl _, rfl⟩
  all_goals (simp only [ckE] at hc; contradiction)) (by intros; rfl)
theorem s_non : SE Φ .non := plainS rfl (fun ok e hc => by
  cases e <;> try (simp only [ckE] at hc; done)
  case Constant v k p =>
    cases v <;> simp only [ckE] at hc <;> try contradiction
    exact ⟨d_const pe_non fun _ => .non, rfl⟩
  all_goals (simp only [ckE] at hc; contradiction)) (by intros; rfl)
theorem s_glb (x : Str) (d : D) : SE Φ (.glb x d) := plainS rfl (fun {c W X} ok e hc => by
  cases e <;> try (simp only [ckE] at hc; done)
  case Name y p =>
    simp only [ckE, Bool.and_eq_true, decide_eq_true_eq] at hc
    obtain ⟨⟨⟨⟨rfl, h1⟩, h2⟩, h3⟩, h4⟩ := hc
    cases q : c.tb.gls.lookup x with
    | none => rw [q] at h4; cases h4
    | some d' =>
      rw [q] at h4
      have := dEq_eq h4
      subst this
      exact ⟨d_glb ok h1 h2 h3 q, rfl⟩
  all_goals (simp only [ckE] at hc; contradiction)) (by intros; rfl)
theorem s_bin {op : Operator} {a b : E} (ha : SE Φ a) (hb : SE Φ b) : SE Φ (.bin op a b) := plainS rfl (fun ok e hc => by
  cases e <;> try (simp only [ckE] at hc; done)
  case BinOp x o y p =>
    simp only [ckE, Bool.and_eq_true, decide_eq_true_eq] at hc
    obtain ⟨⟨rfl, h1⟩, h2⟩ := hc
    exact ⟨d_bin op (ha ok h1).1 (hb ok h2).1, rfl⟩
  all_goals (simp only [ckE] at hc; contradiction)) (by intros; rfl)
theorem s_neg {a : E} (ha : SE Φ a) : SE Φ (.neg a) := plainS rfl (fun ok e hc => by
  cases e <;> try (simp only [ckE] at hc; done)
  case UnaryOp o x p =>
    cases o <;> simp only [ckE] at hc <;> try contradiction
    exact ⟨d_neg (ha ok hc).1, rfl⟩
  all_goals (simp only [ckE] at hc; contradiction)) (by intros; rfl)
theorem s_cmp {op : CmpOp} {a b : E} (ha : SE Φ a) (hb : SE Φ b) : SE Φ (.cmp op a b) := fun ok e hc => by
  cases e <;> try (simp only [ckE] at hc; done)
  case Compare x os ys p =>
    match os, ys, hc with
    | [o], [y], hc =>
      simp only [ckE, Bool.and_eq_true, decide_eq_true_eq] at hc
      obtain ⟨⟨⟨rfl, h1⟩, h2⟩, h3⟩ := hc
      obtain ⟨q1, q2⟩ := d_cmp ok op (ha ok h1).1 (hb ok h2).1 h3
      exact ⟨q1, fun _ => q2, fun _ _ _ _ z => nomatch z⟩
    | [], _, hc => simp only [ckE] at hc; contradiction
    | [_], [], hc => simp only [ckE] at hc; contradiction
    | [_], _ :: _ :: _, hc => simp only [ckE] at hc; contradiction
    | _ :: _ :: _, _, hc => simp only [ckE] at hc; contradiction
  all_goals (simp only [ckE] at hc; contradiction)
theorem s_chn {o1 o2 : CmpOp} {a b d : E} (ha : SE Φ a) (hb : SE Φ b) (hd : SE Φ d) : SE Φ (.chn o1 o2 a b d) := fun ok e hc => by
  cases e <;> try (simp only [ckE] at hc; done)
  case Compare x os ys p =>
    match os, ys, hc with
    | [p1, p2], [y, z], hc =>
      simp only [ckE, Bool.and_eq_true, decide_eq_true_eq] at hc
      obtain ⟨⟨⟨⟨⟨rfl, rfl⟩, h1⟩, h2⟩, h3⟩, h4⟩ := hc
      obtain ⟨q1, q2⟩ := d_chn ok o1 o2 (ha ok h1).1 (hb ok h2).1 (hd ok h3).1 h4
      exact ⟨q1, fun _ => q2, fun _ _ _ _ z => nomatch z⟩
    | [], _, hc => simp only [ckE] at hc; contradiction
    | [_], _, hc => simp only [ckE] at hc; contradiction
    | [_, _], [], hc => simp only [ckE] at hc; contradiction
    | [_, _], [_], hc => simp only [ckE] at hc; contradiction
    | [_, _], _ :: _ :: _ :: _, hc => simp only [ckE] at hc; contradiction
    | _ :: _ :: _ :: _, _, hc => simp only [ckE] at hc; contradiction
  all_goals (simp only [ckE] at hc; contradiction)
theorem s_and {a b : E} (ha : SE Φ a) (hb : SE Φ b) : SE Φ (.and_ a b) := fun {c W X} ok e hc => by
  cases e <;> try (simp only [ckE] at hc; done)
  case BoolOp o vs pos =>
    match o, vs, hc with
    | .And, [x, y], hc =>
      simp only [ckE, Bool.and_eq_true] at hc
      obtain ⟨h1, h2⟩ := hc
      have A := ha ok h1
      have B := hb ok h2
      have pw : tOk (.and_ a b) = true → PW X (.BoolOp .And [x, y] pos) (tK X W (ev2 Φ (.and_ a b)).2) := fun t => by
        have t' : tOk a = true ∧ tOk b = true := by simpa [tOk] using t
        exact d_andT (A.2.1 t'.1) (pw_and1 (B.2.1 t'.2))
      exact ⟨d_and (d_asT ok h1 A.1) (pe_one (d_asT ok h2 B.1)), fun t => (pw t).pt, fun t op xs p ee => by cases ee; exact pw t⟩
    | .And, x :: y :: z :: r, hc =>
      simp only [ckE, Bool.and_eq_true] at hc
      obtain ⟨h1, h2⟩ := hc
      have A := ha ok h1
      have B := hb ok h2
      have pw : tOk (.and_ a b) = true → PW X (.BoolOp .And (x :: y :: z :: r) pos) (tK X W (ev2 Φ (.and_ a b)).2) := fun t => by
        have t' : tOk a = true ∧ tOk b = true := by simpa [tOk] using t
        exact d_andT (A.2.1 t'.1) (B.2.2 t'.2 _ _ _ rfl)
      exact ⟨d_and (d_asT ok h1 A.1) (d_asT ok h2 B.1), fun t => (pw t).pt, fun t op xs p ee => by cases ee; exact pw t⟩
    | .And, [], hc => simp only [ckE] at hc; contradiction
    | .And, [_], hc => simp only [ckE] at hc; contradiction
    | .Or, _, hc => simp only [ckE] at hc; contradiction
  all_goals (simp only [ckE] at hc; contradiction)
theorem s_or {a b : E} (ha : SE Φ a) (hb : SE Φ b) : SE Φ (.or_ a b) := fun {c W X} ok e hc => by
  cases e <;> try (simp only [ckE] at hc; done)
  case BoolOp o vs pos =>
    match o, vs, hc with
    | .Or, [x, y], hc =>
      simp only [ckE, Bool.and_eq_true] at hc
      obtain ⟨h1, h2⟩ := hc
      have A := ha ok h1
      have B := hb ok h2
      have pw : tOk (.or_ a b) = true → PW X (.BoolOp .Or [x, y] pos) (tK X W (ev2 Φ (.or_ a b)).2) := fun t => by
        have t' : tOk a = true ∧ tOk b = true := by simpa [tOk] using t
        exact d_orT (A.2.1 t'.1) (pw_or1 (B.2.1 t'.2))
      exact ⟨d_or (d_asT ok h1 A.1) (pe_one (d_asT ok h2 B.1)), fun t => (pw t).pt, fun t op xs p ee => by cases ee; exact pw t⟩
    | .Or, x :: y :: z :: r, hc =>
      simp only [ckE, Bool.and_eq_true] at hc
      obtain ⟨h1, h2⟩ := hc
      have A := ha ok h1
      have B := hb ok h2
      have pw : tOk (.or_ a b) = true → PW X (.BoolOp .Or (x :: y :: z :: r) pos) (tK X W (ev2 Φ (.or_ a b)).2) := fun t => by
        have t' : tOk a = true ∧ tOk b = true := by simpa [tOk] using t
        exact d_orT (A.2.1 t'.1) (B.2.2 t'.2 _ _ _ rfl)
      exact ⟨d_or (d_asT ok h1 A.1) (d_asT ok h2 B.1), fun t => (pw t).pt, fun t op xs p ee => by cases ee; exact pw t⟩
    | .Or, [], hc => simp only [ckE] at hc; contradiction
    | .Or, [_], hc => simp only [ckE] at hc; contradiction
    | .And, _, hc => simp only [ckE] at hc; contradiction
  all_goals (simp only [ckE] at hc; contradiction)
theorem s_not {a : E} (ha : SE Φ a) : SE Φ (.not_ a) := fun ok e hc => by
  cases e <;> try (simp only [ckE] at hc; done)
  case UnaryOp o x p =>
    cases o <;> simp only [ckE] at hc <;> try contradiction
    exact ⟨d_not (ha ok hc).1, fun t => d_notT ((ha ok hc).2.1 t), fun _ _ _ _ z => nomatch z⟩
  all_goals (simp only [ckE] at hc; contradiction)
theorem s_ite {t a b : E} (ht : SE Φ t) (ha : SE Φ a) (hb : SE Φ b) : SE Φ (.ite t a b) := fun ok e hc => by
  cases e <;> try (simp only [ckE] at hc; done)
  case IfExp x y z p =>
    simp only [ckE, Bool.and_eq_true] at hc
    obtain ⟨⟨⟨h0, h1⟩, h2⟩, h3⟩ := hc
    exact ⟨d_ite ((ht ok h1).2.1 h0) (d_asT ok h2 (ha ok h2).1) (d_asT ok h3 (hb ok h3).1), fun z => by simp [tOk] at z, fun z => by simp [tOk] at z⟩
  all_goals (simp only [ckE] at hc; contradiction)
theorem s_lst {es : Es} (h : SEs Φ es) : SE Φ (.lst es) := plainS rfl (fun ok e hc => by
  cases e <;> try (simp only [ckE] at hc; done)
  case List xs p =>
    simp only [ckE] at hc
    exact ⟨d_lst (h ok hc).2, rfl⟩
  all_goals (simp only [ckE] at hc; contradiction)) (by intros; rfl)
theorem s_tup {es : Es} (h : SEs Φ es) : SE Φ (.tup es) := plainS rfl (fun ok e hc => by
  cases e <;> try (simp only [ckE] at hc; done)
  case Tuple xs k p =>
    simp only [ckE] at hc
    exact ⟨d_tup (h ok hc).2, rfl⟩
  all_goals (simp only [ckE] at hc; contradiction)) (by intros; rfl)
theorem s_idx {a i : E} (ha : SE Φ a) (hi : SE Φ i) : SE Φ (.idx a i) := plainS rfl (fun ok e hc => by
  cases e <;> try (simp only [ckE] at hc; done)
  case Subscript x y p =>
    simp only [ckE, Bool.and_eq_true] at hc
    obtain ⟨⟨h1, h2⟩, h3⟩ := hc
    exact ⟨d_idx (ha ok h1).1 (hi ok h2).1 h3, rfl⟩
  all_goals (simp only [ckE] at hc; contradiction)) (by intros; rfl)
theorem s_slc {a : E} {lo hi : OE} (ha : SE Φ a) (hl : SOE Φ lo) (hh : SOE Φ hi) : SE Φ (.slc a lo hi) := plainS rfl (fun ok e hc => by
  cases e <;> try (simp only [ckE] at hc; done)
  case Subscript x y p =>
    cases y <;> try (simp only [ckE] at hc; done)
    case Slice l h st p2 =>
      cases st <;> simp only [ckE] at hc <;> try contradiction
      simp only [Bool.and_eq_true] at hc
      obtain ⟨⟨h1, h2⟩, h3⟩ := hc
      exact ⟨d_slc (ha ok h1).1 ((hl ok).1 h2) ((hh ok).1 h3), rfl⟩
    all_goals (simp only [ckE] at hc; contradiction)
  all_goals (simp only [ckE] at hc; contradiction)) (by intros; rfl)
theorem evOs_len : ∀ {es : Es} {ρ : Rho} {os : List Opd} {ρ' : Rho}, evOs Φ es ρ = .ok os ρ' → os.length = es.len
  | .nil, ρ, os, ρ', h => by
    simp only [evOs] at h
    cases h
    rfl
  | .cons e es, ρ, os, ρ', h => by
    simp only [evOs] at h
    cases h1 : (ev2 Φ e).1 ρ with
    | no => rw [h1] at h; cases h
    | exc x r => rw [h1] at h; cases h
    | ok o ρ1 =>
      rw [h1] at h
      simp only [R.bind] at h
      cases h2 : evOs Φ es ρ1 with
      | no => rw [h2] at h; cases h
      | exc x r => rw [h2] at h; cases h
      | ok os2 ρ2 =>
        rw [h2] at h
        cases h
        exact congrArg (· + 1) (evOs_len h2)
theorem s_call {f : Str} {es : Es} {ds : List D} (h : SEs Φ es) : SE Φ (.call f es ds) := plainS rfl (fun ok e hc => by
  cases e <;> try (simp only [ckE] at hc; done)
  case Call g as kw p =>
    cases g <;> try (simp only [ckE] at hc; done)
    case Name x p2 =>
      cases kw <;> simp only [ckE] at hc <;> try contradiction
      simp only [Bool.and_eq_true, decide_eq_true_eq] at hc
      obtain ⟨⟨⟨⟨rfl, h1⟩, h2⟩, h3⟩, h4⟩ := hc
      refine ⟨d_call ok h1 h2 (h ok h3).1 (ckEs_star h3) (fun ρ xs ρ' e => evOs_len e) (fun ea => ?_) h4, rfl⟩
      subst ea
      cases es with
      | nil => funext ρ; rfl
      | cons _ _ => simp [ckEs] at h3
    all_goals (simp only [ckE] at hc; contradiction)
  all_goals (simp only [ckE] at hc; contradiction)) (by intros; rfl)
theorem s_bi {b : Bi} {es : Es} (h : SEs Φ es) : SE Φ (.bi b es) := plainS rfl (fun {c W X} ok e hc => by
  cases e <;> try (simp only [ckE] at hc; done)
  case Call g as kw p =>
    cases g <;> try (simp only [ckE] at hc; done)
    case Name x p2 =>
      cases as <;> cases kw <;> simp only [ckE] at hc <;> try contradiction
      simp only [Bool.and_eq_true, decide_eq_true_eq] at hc
      obtain ⟨⟨g1, g2⟩, g3⟩ := hc
      exact ⟨d_bi ok b g1 g2 (h ok g3).1 (ckEs_star g3), rfl⟩
    all_goals (simp only [ckE] at hc; contradiction)
  all_goals (simp only [ckE] at hc; contradiction)) (by intros; rfl)
theorem s_rl1 {a : E} (ha : SE Φ a) : SE Φ (.rl1 a) := plainS rfl (fun {c W X} ok e hc => by
  unfold ckE at hc
  split at hc <;> try contradiction
  all_goals (rename_i heq; cases heq)
  simp only [Bool.and_eq_true, decide_eq_true_eq] at hc
  obtain ⟨⟨⟨⟨⟨rfl, g1⟩, rfl⟩, g2⟩, g3⟩, g4⟩ := hc
  exact ⟨d_rngL1 ok g1 g2 (ha ok g3).1 g4, rfl⟩) (by intros; rfl)
theorem s_rl2 {a b : E} (ha : SE Φ a) (hb : SE Φ b) : SE Φ (.rl2 a b) := plainS rfl (fun {c W X} ok e hc => by
  unfold ckE at hc
  split at hc <;> try contradiction
  all_goals (rename_i heq; cases heq)
  simp only [Bool.and_eq_true, decide_eq_true_eq] at hc
  obtain ⟨⟨⟨⟨⟨⟨⟨rfl, g1⟩, rfl⟩, g2⟩, g3⟩, g4⟩, g5⟩, g6⟩ := hc
  exact ⟨d_rngL2 ok g1 g2 (ha ok g3).1 g4 (hb ok g5).1 g6, rfl⟩) (by intros; rfl)
theorem s_isi {a : E} {ks : List Kd} (h : SE Φ a) : SE Φ (.isi a ks) := plainS rfl (fun {c W X} ok e hc => by
  cases e <;> try (simp only [ckE] at hc; done)
  case Call g as kw p =>
    cases g <;> try (simp only [ckE] at hc; done)
    case Name x p2 =>
      match as, kw, hc with
      | [y, z], [], hc =>
        simp only [ckE, Bool.and_eq_true, decide_eq_true_eq] at hc
        obtain ⟨⟨⟨⟨rfl, g1⟩, g2⟩, g3⟩, g4⟩ := hc
        split at g4
        · next k n p3 =>
          simp only [Bool.and_eq_true, decide_eq_true_eq] at g4
          exact ⟨d_isi1 ok g1 (h ok g2).1 g3 g4.1 g4.2, rfl⟩
        · next ks' es kk p3 =>
          simp only [Bool.and_eq_true, decide_eq_true_eq] at g4
          exact ⟨d_isiT ok g1 (h ok g2).1 g3 g4.1 (Nat.le_trans (Nat.le_of_lt g4.2) (by decide)), rfl⟩
        · cases g4
      | [], _, hc => simp only [ckE] at hc; contradiction
      | [_], _, hc => simp only [ckE] at hc; contradiction
      | _ :: _ :: _ :: _, _, hc => simp only [ckE] at hc; contradiction
      | [_, _], _ :: _, hc => simp only [ckE] at hc; contradiction
    all_goals (simp only [ckE] at hc; contradiction)
  all_goals (simp only [ckE] at hc; contradiction)) (by intros; rfl)
theorem s_me {m : Me} {o : E} {es : Es} (ho : SE Φ o) (h : SEs Φ es) : SE Φ (.me m o es) := plainS rfl (fun {c W X} ok e hc => by
  cases e <;> try (simp only [ckE] at hc; done)
  case Call g as kw p =>
    cases g <;> try (simp only [ckE] at hc; done)
    case Attribute x n ap =>
      cases as <;> cases kw <;> simp only [ckE] at hc <;> try contradiction
      simp only [Bool.and_eq_true, decide_eq_true_eq] at hc
      obtain ⟨⟨⟨⟨⟨⟨g0, rfl⟩, g1⟩, g2⟩, rfl⟩, g4⟩, g5⟩ := hc
      exact ⟨d_me ok g0 (ho ok g1).1 (h ok g5).1 g2 g4 (ckEs_star g5 _ (List.mem_cons_self ..)), rfl⟩
    all_goals (simp only [ckE] at hc; contradiction)
  all_goals (simp only [ckE] at hc; contradiction)) (by intros; rfl)
theorem s_mu {m : Mu} {i : Nat} {es : Es} (h : SEs Φ es) : SE Φ (.mu m i es) := plainS rfl (fun {c W X} ok e hc => by
  cases e <;> try (simp only [ckE] at hc; done)
  case Call g as kw p =>
    cases g <;> try (simp only [ckE] at hc; done)
    case Attribute o n ap =>
      cases o <;> try (simp only [ckE] at hc; done)
      case Name x p0 =>
        cases kw <;> simp only [ckE] at hc <;> try contradiction
        simp only [Bool.and_eq_true, decide_eq_true_eq] at hc
        obtain ⟨⟨⟨⟨rfl, g2⟩, g3⟩, g4⟩, g5⟩ := hc
        refine ⟨d_mu ok m g2 (h ok g5).2 g3 g4 (ckEs_star g5) (fun ea => ?_), rfl⟩
        subst ea
        cases es with
        | nil => funext ρ; rfl
        | cons _ _ => simp [ckEs] at g5
      all_goals (simp only [ckE] at hc; contradiction)
    all_goals (simp only [ckE] at hc; contradiction)
  all_goals (simp only [ckE] at hc; contradiction)) (by intros; rfl)
theorem s_lc (s0 : Shared) {tg : Tg} {own : List Nat} {it : It} {cd : OE} {elt : E} (hi : SIt Φ it) (hd : SOE Φ cd) (he : SE Φ elt) : SE Φ (.lc tg own it cd elt) := plainS rfl (fun {c W X} ok e hc => by
  cases e <;> try (simp only [ckE] at hc; done)
  case ListComp ee gens scope p =>
    match gens, hc with
    | [⟨te, ie, ifs, 0⟩], hc =>
      simp only [ckE, Bool.and_eq_true, decide_eq_true_eq] at hc
      obtain ⟨⟨⟨⟨⟨⟨⟨⟨g1, g2⟩, g3⟩, g4⟩, g5⟩, g6⟩, g7⟩, g8⟩, g9⟩ := hc
      have htg : ∀ i ∈ tg.is, i ∈ own := fun i hi => of_decide_eq_true (List.all_eq_true.mp g5 i hi)
      have blk := ok.blk (s := s0) (H := fun _ => none) (scope := scope) (cl := []) (C := 0) (fp := [])
      have hlt := ckTg_lt blk g3
      exact ⟨d_lc ok g1 g2 g4 htg g6 (hi ok g7) (fun W1 X' ok' ek => by have := g_of ok' g3; rw [ek] at this; exact this) hlt (fun W1 X' ok' => (hd ok').2 g9) (fun W1 X' ok' => d_frz (d_asT ok' g8 (he ok' g8).1)), rfl⟩
    | [], hc => simp only [ckE] at hc; contradiction
    | _ :: _ :: _, hc => simp only [ckE] at hc; contradiction
    | [⟨_, _, _, .ofNat (n + 1)⟩], hc => simp only [ckE] at hc; contradiction
    | [⟨_, _, _, .negSucc n⟩], hc => simp only [ckE] at hc; contradiction
  all_goals (simp only [ckE] at hc; contradiction)) (by intros; rfl)
theorem s_lrv {a : E} (ha : SE Φ a) : SE Φ (.lrv a) := plainS rfl (fun {c W X} ok e hc => by
  unfold ckE at hc
  split at hc <;> try contradiction
  all_goals (rename_i heq; cases heq)
  simp only [Bool.and_eq_true, decide_eq_true_eq] at hc
  obtain ⟨⟨⟨⟨⟨rfl, g1⟩, rfl⟩, g2⟩, g3⟩, g4⟩ := hc
  exact ⟨d_lrv ok g1 g2 (ha ok g3).1 g4, rfl⟩) (by intros; rfl)
theorem s_lrr {a : E} (ha : SE Φ a) : SE Φ (.lrr a) := plainS rfl (fun {c W X} ok e hc => by
  unfold ckE at hc
  split at hc <;> try contradiction
  all_goals (rename_i heq; cases heq)
  simp only [Bool.and_eq_true, decide_eq_true_eq] at hc
  obtain ⟨⟨⟨⟨⟨⟨⟨rfl, g1⟩, rfl⟩, g2⟩, rfl⟩, g3⟩, g4⟩, g5⟩ := hc
  exact ⟨d_lrr ok g1 g2 g3 (ha ok g4).1 g5, rfl⟩) (by intros; rfl)
theorem s_dn (b : Bool) : SE Φ (.dn b) := plainS rfl (fun {c W X} ok e hc => by
  unfold ckE at hc
  split at hc <;> try contradiction
  all_goals (rename_i heq; cases heq)
  exact ⟨d_dn b, rfl⟩) (by intros; rfl)
theorem s_d1 {k v : E} (hk : SE Φ k) (hv : SE Φ v) : SE Φ (.d1 k v) := plainS rfl (fun {c W X} ok e hc => by
  unfold ckE at hc
  split at hc <;> try contradiction
  all_goals (rename_i heq; cases heq)
  simp only [Bool.and_eq_true] at hc
  obtain ⟨g1, g2⟩ := hc
  exact ⟨d_d1 (d_frz (d_asT ok g1 (hk ok g1).1)) (d_frz (d_asT ok g2 (hv ok g2).1)), rfl⟩) (by intros; rfl)
theorem s_dpr {a : E} (ha : SE Φ a) : SE Φ (.dpr a) := plainS rfl (fun {c W X} ok e hc => by
  unfold ckE at hc
  split at hc <;> try contradiction
  all_goals (rename_i heq; cases heq)
  simp only [Bool.and_eq_true, decide_eq_true_eq] at hc
  obtain ⟨⟨⟨rfl, g1⟩, g2⟩, g3⟩ := hc
  exact ⟨d_dpr ok g1 (ha ok g2).1 g3, rfl⟩) (by intros; rfl)
theorem s_dat {a k : E} (ha : SE Φ a) (hk : SE Φ k) : SE Φ (.dat a k) := plainS rfl (fun {c W X} ok e hc => by
  unfold ckE at hc
  split at hc <;> try contradiction
  all_goals (rename_i heq; cases heq)
  simp only [Bool.and_eq_true] at hc
  obtain ⟨⟨g1, g2⟩, g3⟩ := hc
  exact ⟨d_dat ok (ha ok g1).1 (hk ok g2).1 g3, rfl⟩) (by intros; rfl)
theorem s_din {neg : Bool} {k a : E} (hk : SE Φ k) (ha : SE Φ a) : SE Φ (.din neg k a) := fun {c W X} ok e hc => by
  unfold ckE at hc
  split at hc <;> try contradiction
  all_goals (rename_i heq; cases heq)
  simp only [Bool.and_eq_true, decide_eq_true_eq] at hc
  obtain ⟨⟨⟨rfl, g1⟩, g2⟩, g3⟩ := hc
  obtain ⟨q1, q2⟩ := d_din ok neg (ha ok g2).1 (hk ok g1).1 g3
  exact ⟨q1, fun _ => q2, fun _ _ _ _ z => nomatch z⟩
theorem s_dge {a k : E} {d : OE} (ha : SE Φ a) (hk : SE Φ k) (hd : ∀ e, d = .some e → SE Φ e) : SE Φ (.dge a k d) := plainS rfl (fun {c W X} ok e hc => by
  unfold ckE at hc
  split at hc <;> try contradiction
  all_goals (rename_i heq; cases heq)
  simp only [Bool.and_eq_true, decide_eq_true_eq] at hc
  obtain ⟨⟨⟨⟨⟨⟨rfl, g1⟩, g2⟩, g3⟩, g4⟩, g5⟩, g6⟩ := hc
  unfold ckOD at g6
  split at g6
  · exact ⟨d_dge1 ok (ha ok g1).1 (hk ok g4).1 g2 g3 g5, rfl⟩
  · simp only [Bool.and_eq_true] at g6
    exact ⟨d_dge2 ok (ha ok g1).1 (hk ok g4).1 (d_frz (d_asT ok g6.1 (hd _ rfl ok g6.1).1)) g2 g3 g5 g6.2, rfl⟩
  · cases g6) (by intros; rfl)
theorem s_lcd (s0 : Shared) {s i : Nat} {cd : OE} {elt : E} (hd : SOE Φ cd) (he : SE Φ elt) : SE Φ (.lcd s i cd elt) := plainS rfl (fun {c W X} ok e hc => by
  unfold ckE at hc
  split at hc <;> try contradiction
  all_goals (rename_i heq; cases heq)
  simp only [Bool.and_eq_true, decide_eq_true_eq] at hc
  obtain ⟨⟨⟨⟨⟨g1, g2⟩, g3⟩, g4⟩, g5⟩, g6⟩ := hc
  have blk := ok.blk (s := s0) (H := fun _ => none) (scope := by assumption) (cl := []) (C := 0) (fp := [])
  have hlt := ckTg_lt (tg := .one s) (e := .Name _ ⟨0, 0, 0, 0⟩) blk g3
  exact ⟨d_lcd ok g1 g2 g3 g4 (hlt s (List.mem_singleton.mpr rfl)) (fun X' ok' => (hd ok').2 g6) (fun X' ok' => d_frz (d_asT ok' g5 (he ok' g5).1)), rfl⟩) (by intros; rfl)
theorem s_rev {e : E} (he : SE Φ e) : SIt Φ (.rev e) := fun ok x tg hc => by
  unfold ckI at hc
  split at hc
  · simp only [Bool.and_eq_true, decide_eq_true_eq] at hc
    obtain ⟨⟨⟨rfl, g1⟩, g2⟩, g3⟩ := hc
    exact i_rev ok g1 (d_frz (d_asT ok g2 (he ok g2).1)) g3
  · cases hc
theorem s_nil : SEs Φ .nil := fun ok xs hc => by
  cases xs <;> simp only [ckEs] at hc <;> try contradiction
  exact ⟨a_nilO, a_nilD⟩
theorem s_cons {e : E} {es : Es} (he : SE Φ e) (hes : SEs Φ es) : SEs Φ (.cons e es) := fun ok xs hc => by
  cases xs <;> simp only [ckEs] at hc <;> try contradiction
  simp only [Bool.and_eq_true] at hc
  obtain ⟨⟨g1, g2⟩, g3⟩ := hc
  exact ⟨a_consO (he ok g1).1 (hes ok g3).1 g2, a_consD (d_frz (d_asT ok g1 (he ok g1).1)) (hes ok g3).2 g2⟩
theorem s_onone : SOE Φ .none := fun ok => ⟨fun {x} hc => by
  cases x <;> simp only [ckOE] at hc <;> try contradiction
  exact o_none, fun {ifs} hc => by
  cases ifs <;> simp only [ckC] at hc <;> try contradiction
  exact c_nil⟩
theorem s_osome {e : E} (he : SE Φ e) : SOE Φ (.some e) := fun ok => ⟨fun {x} hc => by
  cases x <;> simp only [ckOE] at hc <;> try contradiction
  exact o_some (he ok hc).1, fun {ifs} hc => by
  match ifs, hc with
  | [x], hc =>
    simp only [ckC, Bool.and_eq_true] at hc
    exact c_one ((he ok hc.2).2.1 hc.1)
  | [], hc => simp only [ckC] at hc; contradiction
  | _ :: _ :: _, hc => simp only [ckC] at hc; contradiction⟩
theorem s_opd {e : E} (he : SE Φ e) : SIt Φ (.opd e) := fun ok x tg hc => by
  simp only [ckI] at hc
  exact i_opd (he ok hc).1
theorem s_rng1 {a : E} (ha : SE Φ a) : SIt Φ (.rng1 a) := fun ok x tg hc => by
  simp only [ckI] at hc
  split at hc
  · simp only [Bool.and_eq_true, decide_eq_true_eq] at hc
    obtain ⟨⟨⟨rfl, g1⟩, g2⟩, g3⟩ := hc
    exact i_rng1 ok g1 (ha ok g2).1 g3
  · cases hc
theorem s_rng2 {a b : E} (ha : SE Φ a) (hb : SE Φ b) : SIt Φ (.rng2 a b) := fun ok x tg hc => by
  simp only [ckI] at hc
  split at hc
  · simp only [Bool.and_eq_true, decide_eq_true_eq] at hc
    obtain ⟨⟨⟨⟨⟨rfl, g1⟩, g2⟩, g3⟩, g4⟩, g5⟩ := hc
    exact i_rng2 ok g1 (ha ok g2).1 g3 (hb ok g4).1 g5
  · cases hc
theorem s_revR1 {a : E} (ha : SE Φ a) : SIt Φ (.revR1 a) := fun ok x tg hc => by
  simp only [ckI] at hc
  split at hc
  · simp only [Bool.and_eq_true, decide_eq_true_eq] at hc
    obtain ⟨⟨⟨⟨⟨rfl, g0⟩, rfl⟩, g1⟩, g2⟩, g3⟩ := hc
    exact i_revR1 ok g0 g1 (ha ok g2).1 g3
  · cases hc
end
section
variable (Φ : Fx)
mutual
theorem sE : ∀ a : E, SE Φ a
  | .nm i => s_nm i
  | .mv i => s_mv i
  | .int i => s_int i
  | .str x => s_str x
  | .bl b => s_bl b
  | .non => s_non
  | .glb x d => s_glb x d
  | .bin op a b => s_bin (sE a) (sE b)
  | .neg a => s_neg (sE a)
  | .cmp op a b => s_cmp (sE a) (sE b)
  | .chn o1 o2 a b d => s_chn (sE a) (sE b) (sE d)
  | .and_ a b => s_and (sE a) (sE b)
  | .or_ a b => s_or (sE a) (sE b)
  | .not_ a => s_not (sE a)
  | .ite t a b => s_ite (sE t) (sE a) (sE b)
  | .lst es => s_lst (sEs es)
  | .tup es => s_tup (sEs es)
  | .idx a i => s_idx (sE a) (sE i)
  | .slc a lo hi => s_slc (sE a) (sOE lo) (sOE hi)
  | .call f es ds => s_call (sEs es)
  | .bi b es => s_bi (sEs es)
  | .rl1 a => s_rl1 (sE a)
  | .rl2 a b => s_rl2 (sE a) (sE b)
  | .isi a ks => s_isi (sE a)
  | .me m o es => s_me (sE o) (sEs es)
  | .mu m i es => s_mu (sEs es)
  | .lc tg own it cd elt => s_lc {} (sI it) (sOE cd) (sE elt)
  | .lrv a => s_lrv (sE a)
  | .lrr a => s_lrr (sE a)
  | .dn b => s_dn b
  | .d1 k v => s_d1 (sE k) (sE v)
  | .dpr a => s_dpr (sE a)
  | .dat a k => s_dat (sE a) (sE k)
  | .din neg k a => s_din (sE k) (sE a)
  | .dge a k .none => s_dge (sE a) (sE k) (fun _ z => by cases z)
  | .dge a k (.some e) => s_dge (sE a) (sE k) (fun _ z => by cases z; exact sE e)
  | .lcd s i c elt => s_lcd {} (sOE c) (sE elt)
theorem sEs : ∀ es : Es, SEs Φ es
  | .nil => s_nil
  | .cons e es => s_cons (sE e) (sEs es)
theorem sOE : ∀ o : OE, SOE Φ o
  | .none => s_onone
  | .some e => s_osome (sE e)
theorem sI : ∀ i : It, SIt Φ i
  | .opd e => s_opd (sE e)
  | .rng1 a => s_rng1 (sE a)
  | .rng2 a b => s_rng2 (sE a) (sE b)
  | .revR1 a => s_revR1 (sE a)
  | .revR2 a b => fun ok x tg hc => by simp only [ckI] at hc; contradiction
  | .rev e => s_rev (sE e)
end
end
end L2.Eng

/-! EngG: statements. -/
namespace L2.Eng
open PySem PySem.Spec PyProof.Rows

/-! ### which text a statement of the small language stands for -/
def noComp : Expr → Bool
  | .ListComp .. => false
  | .SetComp .. => false
  | .DictComp .. => false
  | _ => true
def noTup : Expr → Bool
  | .Tuple .. => false
  | _ => true
def swB (sc : Scope) (x : Str) (pl : Nat) (s : Scope) (l : Nat) : Bool :=
  decide (sc.names.lookup x = some .local) && (pl == l) && !(s.names.any fun (n, k) => n == x && (k == .local || k == .cell))
def setC : Expr → Bool
  | .SetComp .. => false
  | .DictComp .. => false
  | _ => true
def ckCst : D → Expr → Bool
  | .none, .Constant .none _ _ => true
  | .bool b, .Constant (.bool d) _ _ => b == d
  | .int i, .Constant (.int j) _ _ => decide (i = j)
  | .str x, .Constant (.str y) _ _ => decide (x = y)
  | _, _ => false
def ckHs (c : Ctx) : List (Str × D) → List ExceptHandler → Bool
  | [], [] => true
  | (h, d) :: r, .ExceptHandler (some (.Name x _)) none [.Return (some e) _] _ :: hs => decide (x = h) && glbB c.sc x && noDbg x && decide (x ∈ c.tb.hds) && ckCst d e && ckHs c r hs
  | _, _ => false
def isLoc (sc : Scope) (x : Str) : Bool := decide (sc.names.lookup x = some .local)
def ckIx1 (c : Ctx) (m c1 : Str) : Expr → Bool
  | .Call (.Name g _) [.Name z _, .Name y _] [] _ => decide (g = ("isinstance" : Str)) && glbB c.sc ("isinstance" : Str) && decide (z = m) && noDbg m && decide (y = c1) && glbB c.sc c1 && noDbg c1
  | _ => false
def ckIx (c : Ctx) (m c1 c2 : Str) : Expr → Bool
  | .BoolOp .And [a, b] _ => ckIx1 c m c1 a && ckIx1 c m c2 b
  | _ => false
mutual
def ckS (c : Ctx) : S → Stmt → Bool
  | .set i e, st => match st with
    | .Assign [.Name x p] v _ => c.storeOk i x && ckE c e v && setC v
    | _ => false
  | .setF i e, st => match st with
    | .Assign [.Name x p] v _ => c.storeOk i x && ckE c e v && setC v
    | _ => false
  | .setT is e, st => match st with
    | .Assign [.Tuple es _ _] v _ => ckTgs c is es && ckE c e v && noTup v && noComp v
    | _ => false
  | .par i j a b, st => match st with
    | .Assign [.Tuple [.Name x px, .Name y py] _ _] (.Tuple [u, v] _ _) _ => c.storeOk i x && c.storeOk j y && isLoc c.sc x && isLoc c.sc y && decide (i ≠ j) && decide (x ≠ y) && (py.line == px.line) && !(foldedForSure 8 u && foldedForSure 8 v) && !(constantsAlone 8 u && constantsAlone 8 v) && ckE c a u && noStar u && ckE c b v && noStar v
    | _ => false
  | .sub i k e, st => match st with
    | .Assign [.Subscript (.Name x _) y _] v _ => c.nameOk i x && ckE c k y && noSlice y && ckE c e v
    | _ => false
  | .dst i k e, st => match st with
    | .Assign [.Subscript (.Name x _) y _] v _ => c.nameOk i x && ckE c k y && ckE c e v && noComp v
    | _ => false
  | .ford s i b, st => match st with
    | .For (.Name y _) (.Name x _) bd [] _ => c.storeOk s y && c.nameOk i x && ckSs c b bd
    | _ => false
  | .expr e, st => match st with
    | .Expr v _ => ckE c e v && noComp v
    | _ => false
  | .ret e, st => match st with
    | .Return (some v) _ => ckE c e v
    | _ => false
  | .retN, st => match st with
    | .Return none _ => true
    | _ => false
  | .ifS t a b, st => match st with
    | .If v x y _ => tOk t && ckE c t v && ckSs c a x && ckSs c b y
    | _ => false
  | .whl t b, st => match st with
    | .While v x [] _ => tOk t && ckE c t v && ckSs c b x
    | _ => false
  | .for_ tg it b, st => match st with
    | .For te ie x [] _ => ckTg c tg te && ckI c it ie && noSet ie && ckSs c b x
    | _ => false
  | .raise n e, st => match st with
    | .Raise (some (.Call (.Name x _) [a] [] _)) none _ => decide (x = n) && glbB c.sc x && noDbg x && decide (x ∈ c.tb.excs) && ckE c e a && noStar a
    | _ => false
  | .tryR b hs, st => match st with
    | .Try x (h₀ :: hds) [] [] _ => ckSs c b x && ckHs c hs (h₀ :: hds)
    | _ => false
  | .tryC b h i f, st => match st with
    | .Try x [.ExceptHandler (some (.Name n _)) (some m) [.Return (some (.Call (.Name g _) [.Name z _] [] _)) _] _] [] [] _ => ckSs c b x && decide (n = h) && glbB c.sc n && noDbg n && decide (n ∈ c.tb.hds) && decide (c.N[i]? = some m) && isLoc c.sc m && decide (g = f) && glbB c.sc g && noDbg g && decide (z = m) && noDbg z
    | _ => false
  | .tryI b h i c1 c2, st => match st with
    | .Try x [.ExceptHandler (some (.Name n _)) (some m) [.Return (some e) _] _] [] [] _ => ckSs c b x && decide (n = h) && glbB c.sc n && noDbg n && decide (n ∈ c.tb.hds) && decide (c.N[i]? = some m) && isLoc c.sc m && ckIx c m c1 c2 e
    | _ => false
  | .tryT b h1 h2 d, st => match st with
    | .Try x [.ExceptHandler (some (.Tuple [.Name n1 _, .Name n2 _] _ _)) none [.Return (some e) _] _] [] [] _ => ckSs c b x && decide (n1 = h1) && glbB c.sc n1 && noDbg n1 && decide (n1 ∈ c.tb.hds) && decide (n2 = h2) && glbB c.sc n2 && noDbg n2 && decide (n2 ∈ c.tb.hds) && ckCst d e
    | _ => false
  | .pass, st => match st with
    | .Pass _ => true
    | _ => false
  | .brk, st => match st with
    | .Break _ => true
    | _ => false
  | .cont, st => match st with
    | .Continue _ => true
    | _ => false
def ckSs (c : Ctx) : Ss → List Stmt → Bool
  | .nil, [] => true
  | .cons s ss, x :: xs => ckS c s x && ckSs c ss xs
  | _, _ => false
end

/-! ### the readings -/
structure XS (Φ : Fx) (W : WX) (c : Ctx) (X : Cx) : Prop extends XOk Φ W c X where
  scE : X.env.scope = c.sc
  kd : c.sc.kind = .function
  pass : PassesOwn (model X.prog X.w) X.A X.env X.xe
  stk : X.stack = X.env :: X.outer
  frm : X.env.frame = some X.env.locals
def SxP (X : Cx) (W : WX) (l : List Nat) (G : Hp) (τ : List (V × T)) (σ : St) (x : Ex) (ρ : Rho) : Prop := ∀ cls d σ' G' H', ExOk X.K X.mg x cls d G' H' → Same G G' → Rel G' ρ τ σ' H' → But l σ σ' → W cls d σ' H'
def FlP (D : Ends) (l : List Nat) (G : Hp) (τ : List (V × T)) (σ : St) (fl : Fl) (ρ : Rho) : Prop := match fl with
  | .nx => ∀ σ' G' H', Same G G' → Rel G' ρ τ σ' H' → But l σ σ' → D.nx σ' H'
  | .bk => ∀ σ' G' H', Same G G' → Rel G' ρ τ σ' H' → But l σ σ' → D.bk σ' H'
  | .ct => ∀ σ' G' H', Same G G' → Rel G' ρ τ σ' H' → But l σ σ' → D.ct σ' H'
  | .rt t => ∀ v σ' G' H', Same G G' → Rel G' ρ ((v, t) :: τ) σ' H' → But l σ σ' → D.rt v H'
def tS (X : Cx) (W : WX) (l : List Nat) (f : Rho → R Fl) : TS := fun D σ H => ∃ G ρ τ, Rel G ρ τ σ H ∧ wpR (f ρ) (FlP D l G τ σ) (SxP X W l G τ σ)
section
variable {X : Cx} {W : WX} {l l1 : List Nat} {G G1 H : Hp} {τ τ1 : List (V × T)} {σ σ1 : St} {x : Ex} {ρ : Rho} {D : Ends} {fl : Fl}
theorem SxP.move (h : SxP X W l G τ σ x ρ) (s : Same G G1) (t : τ.Sublist τ1) (b : But l σ σ1) (m : ∀ i ∈ l1, i ∈ l) : SxP X W l1 G1 τ1 σ1 x ρ :=
  fun cls d σ' G' H' e s' R b' => h cls d σ' G' H' e (s.trans s') (R.sub t) (b.trans (b'.mono m))
theorem SxP.ex (h : SxP X W l G τ σ x ρ) (s : Same G G1) (t : τ.Sublist τ1) (b : But l σ σ1) : ExP X W G1 τ1 σ1 x ρ :=
  fun cls d G' H' e s' R => h cls d σ1 G' H' e (s.trans s') (R.sub t) b
theorem FlP.move (h : FlP D l G τ σ fl ρ) (s : Same G G1) (t : τ.Sublist τ1) (b : But l σ σ1) (m : ∀ i ∈ l1, i ∈ l) : FlP D l1 G1 τ1 σ1 fl ρ := by
  cases fl with
  | nx => exact fun σ' G' H' s' R b' => h σ' G' H' (s.trans s') (R.sub t) (b.trans (b'.mono m))
  | bk => exact fun σ' G' H' s' R b' => h σ' G' H' (s.trans s') (R.sub t) (b.trans (b'.mono m))
  | ct => exact fun σ' G' H' s' R b' => h σ' G' H' (s.trans s') (R.sub t) (b.trans (b'.mono m))
  | rt u => exact fun v σ' G' H' s' R b' => h v σ' G' H' (s.trans s') (R.sub (List.Sublist.cons_cons _ t)) (b.trans (b'.mono m))
end
theorem noComp_sw {e : Expr} (h : noComp e = true) (t : Option Expr) (n : Nat) (env : Env) : swapsWith e t n env = pure false := by
  cases e <;> first | rfl | cases h
theorem sw_comp {ee : Expr} {gs : List Comprehension} {s : Scope} {p py : Pos} {y : Str} {n : Nat} {env : Env} : swapsWith (.ListComp ee gs s p) (some (.Name y py)) n env =
    pure (env.blockKind == .function && env.kindOf y == some .local && py.line == p.line && !(s.names.any fun (n, k) => n == y && (k == .local || k == .cell))) := rfl

def SS (Φ : Fx) (s : S) : Prop := ∀ {c : Ctx} {W : WX} {X : Cx}, XS Φ W c X → ∀ {st : Stmt}, ckS c s st = true → PS X st (tS X W s.sets (exS Φ s))
def SSs (Φ : Fx) (ss : Ss) : Prop := ∀ {c : Ctx} {W : WX} {X : Cx}, XS Φ W c X → ∀ {xs : List Stmt}, ckSs c ss xs = true → PSs X xs (tS X W ss.sets (exSs Φ ss))
theorem _root_.L2.PS.weak {X : Cx} {e : Stmt} {t t' : TS} (h : PS X e t) (w : ∀ D σ H, t' D σ H → t D σ H) : PS X e t' := h.weakL fun D σ H _ => w D σ H
theorem _root_.L2.PSs.weak {X : Cx} {e : List Stmt} {t t' : TS} (h : PSs X e t) (w : ∀ D σ H, t' D σ H → t D σ H) : PSs X e t' := ⟨fun pins s σ H D I q => h.run pins s σ H D I (w _ _ _ q)⟩
section
variable {Φ : Fx}
theorem t_nil : SSs Φ .nil := fun ok xs hc => by
  cases xs <;> simp only [ckSs] at hc <;> try contradiction
  exact pss_nil.weak fun D σ H ⟨G, ρ, τ, R, h⟩ => h σ G H (Same.refl _) R (.refl _ _)
theorem t_cons {s : S} {ss : Ss} (h1 : SS Φ s) (h2 : SSs Φ ss) : SSs Φ (.cons s ss) := fun {c W X} ok xs hc => by
  cases xs <;> simp only [ckSs] at hc <;> try contradiction
  simp only [Bool.and_eq_true] at hc
  refine (pss_cons (h1 ok hc.1) (h2 ok hc.2)).weak fun D σ H ⟨G, ρ, τ, R, h⟩ => ?_
  unfold exSs at h
  rw [wpR_bind] at h
  have m1 : ∀ i ∈ s.sets, i ∈ (Ss.cons s ss).sets := fun i hi => List.mem_append_left _ hi
  have m2 : ∀ i ∈ ss.sets, i ∈ (Ss.cons s ss).sets := fun i hi => List.mem_append_right _ hi
  refine ⟨G, ρ, τ, R, h.mono (fun fl ρ1 p => ?_) fun x ρ1 p => p.move (Same.refl _) (.refl _) (.refl _ _) m1⟩
  cases fl with
  | nx => exact fun σ1 G1 H1 s1 R1 b1 => ⟨G1, ρ1, τ, R1, p.mono (fun fl ρ2 q => q.move s1 (.refl _) (b1.mono m1) m2) fun x ρ2 q => q.move s1 (.refl _) (b1.mono m1) m2⟩
  | bk => exact FlP.move (fl := .bk) p (Same.refl _) (.refl _) (.refl _ _) m1
  | ct => exact FlP.move (fl := .ct) p (Same.refl _) (.refl _) (.refl _ _) m1
  | rt t => exact FlP.move (fl := .rt t) p (Same.refl _) (.refl _) (.refl _ _) m1
theorem t_pass : SS Φ .pass := fun ok st hc => by
  simp only [ckS] at hc
  split at hc
  case h_2 => cases hc
  exact ps_pass.weak fun D σ H ⟨G, ρ, τ, R, h⟩ => h σ G H (Same.refl _) R (.refl _ _)
theorem t_brk : SS Φ .brk := fun ok st hc => by
  simp only [ckS] at hc
  split at hc
  case h_2 => cases hc
  exact ps_break.weak fun D σ H ⟨G, ρ, τ, R, h⟩ => h σ G H (Same.refl _) R (.refl _ _)
theorem t_cont : SS Φ .cont := fun ok st hc => by
  simp only [ckS] at hc
  split at hc
  case h_2 => cases hc
  exact ps_continue.weak fun D σ H ⟨G, ρ, τ, R, h⟩ => h σ G H (Same.refl _) R (.refl _ _)
theorem t_retN : SS Φ .retN := fun ok st hc => by
  simp only [ckS] at hc
  split at hc
  case h_2 => cases hc
  exact ps_retN.weak fun D σ H ⟨G, ρ, τ, R, h⟩ => h .non σ G H (Same.refl _) (R.addFz .non) (.refl _ _)
theorem t_ret {e : E} : SS Φ (.ret e) := fun ok st hc => by
  simp only [ckS] at hc
  split at hc
  case h_2 => cases hc
  refine (ps_ret (d_asT ok.toXOk hc (sE Φ e ok.toXOk hc).1)).weak fun D σ H ⟨G, ρ, τ, R, h⟩ => ?_
  unfold exS at h
  rw [wpR_map] at h
  exact tT.step R h (fun x ρ1 p => p.ex (Same.refl _) (.refl _) (.refl _ _)) fun t ρ1 v G1 H1 p s1 R1 => p v σ G1 H1 s1 R1 (.refl _ _)
theorem t_expr {e : E} : SS Φ (.expr e) := fun ok st hc => by
  simp only [ckS] at hc
  split at hc
  case h_2 => cases hc
  simp only [Bool.and_eq_true] at hc
  refine (ps_expr (sE Φ e ok.toXOk hc.1).1 (noComp_sw hc.2 _ _ _)).weak fun D σ H ⟨G, ρ, τ, R, h⟩ => ?_
  unfold exS at h
  rw [wpR_bind] at h
  exact tO.step R h (fun x ρ1 p => p.ex (Same.refl _) (.refl _) (.refl _ _)) fun o ρ1 v G1 H1 p s1 R1 _ => p σ G1 H1 s1 (R1.sub (Opd.sub _ _ _)) (.refl _ _)
theorem t_if {t : E} {a b : Ss} (ha : SSs Φ a) (hb : SSs Φ b) : SS Φ (.ifS t a b) := fun ok st hc => by
  simp only [ckS] at hc
  split at hc
  case h_2 => cases hc
  simp only [Bool.and_eq_true] at hc
  obtain ⟨⟨⟨g1, g2⟩, g3⟩, g4⟩ := hc
  refine (ps_if ((sE Φ t ok.toXOk g2).2.1 g1) (ha ok g3) (hb ok g4)).weak fun D σ H ⟨G, ρ, τ, R, h⟩ => ?_
  unfold exS at h
  rw [wpR_bind] at h
  refine tK.step R h (fun x ρ1 p => p.ex (Same.refl _) (.refl _) (.refl _ _)) fun k ρ1 G1 H1 p s1 R1 => ?_
  have m1 : ∀ i ∈ a.sets, i ∈ (S.ifS t a b).sets := fun i hi => List.mem_append_left _ hi
  have m2 : ∀ i ∈ b.sets, i ∈ (S.ifS t a b).sets := fun i hi => List.mem_append_right _ hi
  cases k with
  | true => exact ⟨G1, ρ1, τ, R1, wpR.mono (show wpR (exSs Φ a ρ1) _ _ from p) (fun fl ρ2 q => q.move s1 (.refl _) (.refl _ _) m1) fun x ρ2 q => q.move s1 (.refl _) (.refl _ _) m1⟩
  | false => exact ⟨G1, ρ1, τ, R1, wpR.mono (show wpR (exSs Φ b ρ1) _ _ from p) (fun fl ρ2 q => q.move s1 (.refl _) (.refl _ _) m2) fun x ρ2 q => q.move s1 (.refl _) (.refl _ _) m2⟩
theorem t_whl {t : E} {b : Ss} (hb : SSs Φ b) : SS Φ (.whl t b) := fun {c W X} ok st hc => by
  simp only [ckS] at hc
  split at hc
  case h_2 => cases hc
  simp only [Bool.and_eq_true] at hc
  obtain ⟨⟨g1, g2⟩, g3⟩ := hc
  refine (ps_while ok.pass ((sE Φ t ok.toXOk g2).2.1 g1) (hb ok g3)).weak fun D σ H ⟨G, ρ, τ, R, h⟩ => ?_
  unfold exS at h
  refine ⟨fun m σ1 H1 => ∃ G1 ρ1, Same G G1 ∧ Rel G1 ρ1 τ σ1 H1 ∧ But b.sets σ σ1 ∧ wpR (whileRun (evB Φ t) (exSs Φ b) m ρ1) (FlP D b.sets G τ σ) (SxP X W b.sets G τ σ), ⟨Φ.fuel, G, ρ, Same.refl _, R, .refl _ _, h⟩, ?_⟩
  rintro m σ1 H1 ⟨G1, ρ1, s1, R1, b1, h1⟩
  cases m with
  | zero => exact h1.elim
  | succ m =>
    have h2 : wpR (evB Φ t ρ1) (fun k ρ2 => wpR (if k = true then (match exSs Φ b ρ2 with
        | .ok .nx ρ3 => whileRun (evB Φ t) (exSs Φ b) m ρ3
        | .ok .ct ρ3 => whileRun (evB Φ t) (exSs Φ b) m ρ3
        | .ok .bk ρ3 => .ok .nx ρ3
        | .ok (.rt t) ρ3 => .ok (.rt t) ρ3
        | .exc x ρ3 => .exc x ρ3
        | .no => .no) else .ok .nx ρ2) (FlP D b.sets G τ σ) (SxP X W b.sets G τ σ)) (SxP X W b.sets G τ σ) := by
      unfold whileRun at h1
      cases e : evB Φ t ρ1 with
      | ok k ρ2 => rw [e] at h1; cases k <;> exact h1
      | exc x ρ2 => rw [e] at h1; exact h1
      | no => rw [e] at h1; exact h1
    refine tK.step R1 h2 (fun x ρ2 p => p.ex s1 (.refl _) b1) fun k ρ2 G2 H2 p s2 R2 => ?_
    cases k with
    | false =>
      rw [if_neg Bool.false_ne_true] at p ⊢
      exact p σ1 G2 H2 (s1.trans s2) R2 b1
    | true =>
      rw [if_pos rfl] at p ⊢
      refine ⟨fun σ3 H3 => ∃ G3 ρ3, Same G G3 ∧ Rel G3 ρ3 τ σ3 H3 ∧ But b.sets σ σ3 ∧ wpR (whileRun (evB Φ t) (exSs Φ b) m ρ3) (FlP D b.sets G τ σ) (SxP X W b.sets G τ σ), fun σ3 H3 w => ⟨m, Nat.lt_succ_self m, w⟩, G2, ρ2, τ, R2, ?_⟩
      cases e : exSs Φ b ρ2 with
      | no => rw [e] at p; exact p
      | exc x ρ3 => rw [e] at p; exact SxP.move p (s1.trans s2) (.refl _) b1 fun _ z => z
      | ok fl ρ3 =>
        rw [e] at p
        cases fl with
        | nx => exact fun σ3 G3 H3 s3 R3 b3 => ⟨G3, ρ3, (s1.trans s2).trans s3, R3, b1.trans b3, p⟩
        | ct => exact fun σ3 G3 H3 s3 R3 b3 => ⟨G3, ρ3, (s1.trans s2).trans s3, R3, b1.trans b3, p⟩
        | bk => exact fun σ3 G3 H3 s3 R3 b3 => p σ3 G3 H3 ((s1.trans s2).trans s3) R3 (b1.trans b3)
        | rt u => exact fun v σ3 G3 H3 s3 R3 b3 => p v σ3 G3 H3 ((s1.trans s2).trans s3) R3 (b1.trans b3)
/-- what a loop computes -/
def forF (Φ : Fx) (tg : Tg) (src : Rho → R Src) (b : Ss) (ρ : Rho) : R Fl := (src ρ).bind fun src ρ1 => if src.free (tg.is ++ b.sets) then forRun tg src (exSs Φ b) src.len 0 ρ1 else .no
theorem for_any {tg : Tg} {b : Ss} (hb : SSs Φ b) {c : Ctx} {W : WX} {X : Cx} (ok : XS Φ W c X) {src : Rho → R Src} {te ie : Expr} {x : List Stmt} {pp : Pos} (hi : PI X te ie (tI X W src)) (hg : PG X te (gOf X.K tg)) (hlt0 : ∀ i ∈ tg.is, i < X.N.length) (g4 : ckSs c b x = true)
    (hs : ∀ x, foldedSetIterable ie X.env x = pure x) : PS X (.For te ie x [] pp) (tS X W (tg.is ++ b.sets) (forF Φ tg src b)) := by
  refine (ps_for ok.pass ok.calm hi hg (hb ok g4) hs).weakL fun D σ H hlen ⟨G, ρ, τ, R, h⟩ => ?_
  unfold forF at h
  rw [wpR_bind] at h
  refine ⟨G, ρ, τ, R, h.mono (fun src ρ0 p J A G0 H0 s0 R0 hJ => ?_) fun x ρ1 q => q.ex (Same.refl _) (.refl _) (.refl _ _)⟩
  split at p
  case isFalse => exact p.elim
  case isTrue hfree =>
  let ls := tg.is ++ b.sets
  let Wn : Nat → Nat → St → Hp → Prop := fun i m σ1 H1 => i + m = src.len ∧ ∃ G1 ρ1, Same G0 G1 ∧ Rel G1 ρ1 (A ++ τ) σ1 H1 ∧ But ls σ σ1 ∧ wpR (forRun tg src (exSs Φ b) m i ρ1) (FlP D ls G τ σ) (SxP X W ls G τ σ)
  have hlt : ∀ i ∈ tg.is, i < σ.length := fun i hi => by rw [hlen]; exact hlt0 i hi
  have m1 : ∀ i ∈ tg.is, i ∈ ls := fun i hi => List.mem_append_left _ hi
  have m2 : ∀ i ∈ b.sets, i ∈ ls := fun i hi => List.mem_append_right _ hi
  have tA : τ.Sublist (A ++ τ) := List.sublist_append_right _ _
  refine ⟨Wn, ⟨src.len, Nat.zero_add _, G0, ρ0, Same.refl _, R0, .refl _ _, p⟩, ?_⟩
  rintro i m σ1 H1 ⟨hm, G1, ρ1, s1, R1, b1, p1⟩
  have keep : ∀ k i n, src = .sl k i n → slotT ρ1 i ≠ none → σ1[i]? = σ[i]? := fun k i n e _ => by
    subst e
    refine b1.2 i ?_
    have hf : i ∉ tg.is ++ b.sets := by simpa [Src.free] using hfree
    exact hf
  obtain ⟨items, stops⟩ := hJ G1 ρ1 τ σ1 H1 s1 R1 keep
  cases m with
  | zero =>
    unfold forRun at p1
    split at p1
    · next hf =>
      have hi : i = src.len := by omega
      subst hi
      exact .inl ⟨stops hf, p1 σ1 G1 H1 (s0.trans s1) (R1.sub tA) b1⟩
    · exact p1.elim
  | succ m =>
    unfold forRun at p1
    have hi : i < src.len := by omega
    cases ei : src.item i ρ1 with
    | none => rw [ei] at p1; exact p1.elim
    | some d =>
      rw [ei] at p1
      simp only at p1
      obtain ⟨go, yld⟩ := items i d hi ei
      refine .inr ⟨go, Wn (i + 1) m, fun σ3 H3 w => ⟨m, Nat.lt_succ_self m, w⟩, fun x H' hy => ?_⟩
      obtain ⟨rfl, rx⟩ := yld x H' hy
      cases ep : tg.put d ρ1 with
      | none => rw [ep] at p1; exact p1.elim
      | some ρ2 =>
        rw [ep] at p1
        simp only at p1
        refine put_tg R1 rx ep (fun i hi => by rw [b1.1]; exact hlt i hi) fun σ2 R2 b2 => ?_
        have b12 : But ls σ σ2 := b1.trans (b2.mono m1)
        refine ⟨G1, ρ2, A ++ τ, R2, ?_⟩
        cases e : exSs Φ b ρ2 with
        | no => rw [e] at p1; exact p1
        | exc x ρ3 => rw [e] at p1; exact SxP.move p1 (s0.trans s1) tA b12 m2
        | ok fl ρ3 =>
          rw [e] at p1
          cases fl with
          | nx => exact fun σ3 G3 H3 s3 R3 b3 => ⟨by omega, G3, ρ3, s1.trans s3, R3, b12.trans (b3.mono m2), p1⟩
          | ct => exact fun σ3 G3 H3 s3 R3 b3 => ⟨by omega, G3, ρ3, s1.trans s3, R3, b12.trans (b3.mono m2), p1⟩
          | bk => exact fun σ3 G3 H3 s3 R3 b3 => p1 σ3 G3 H3 ((s0.trans s1).trans s3) (R3.sub tA) (b12.trans (b3.mono m2))
          | rt u => exact fun v σ3 G3 H3 s3 R3 b3 => p1 v σ3 G3 H3 ((s0.trans s1).trans s3) (R3.sub (List.Sublist.cons_cons _ tA)) (b12.trans (b3.mono m2))
theorem t_for {tg : Tg} {it : It} {b : Ss} (hb : SSs Φ b) : SS Φ (.for_ tg it b) := fun {c W X} ok st hc => by
  simp only [ckS] at hc
  split at hc
  case h_2 => cases hc
  rename_i te ie x pp
  simp only [Bool.and_eq_true] at hc
  obtain ⟨⟨⟨g1, g2⟩, g3⟩, g4⟩ := hc
  have hs : ∀ x, foldedSetIterable ie X.env x = pure x := by
    intro x
    cases ie <;> first | rfl | cases g3
  exact for_any hb ok (sI Φ it ok.toXOk g2) (g_of ok.toXOk g1) (fun i hi => ckTg_lt ok.toXOk g1 i hi) g4 hs
end
end L2.Eng

/-! EngG2: stores. -/
namespace L2.Eng
open PySem PySem.Spec PyProof.Rows
section
variable {Φ : Fx} {W : WX} {c : Ctx} {X : Cx}
theorem XS.lt (ok : XS Φ W c X) {i : Nat} {x : Str} (h : c.storeOk i x = true) : i < X.N.length := by
  rw [ok.hN]
  exact (List.getElem?_eq_some_iff.mp (storeOk_split h).1).1
theorem XS.nth (ok : XS Φ W c X) {i : Nat} {x : Str} (h : c.storeOk i x = true) : X.N[i]? = some x := by
  rw [ok.hN]
  exact (storeOk_split h).1
theorem XS.blk (ok : XS Φ W c X) : X.env.blockKind = .function := by
  unfold Env.blockKind
  rw [ok.scE, ok.kd]
  rfl
theorem set_end {i : Nat} {e : E} {st : Stmt} (ok : XS Φ W c X) (hi : i < X.N.length) (h : PS X st (tAsg (tT X W (asT e (ev2 Φ e).1)) (gName i))) : PS X st (tS X W [i] (exS Φ (.set i e))) := by
  refine h.weakL fun D σ H hlen ⟨G, ρ, τ, R, h⟩ => ?_
  unfold exS at h
  rw [wpR_bind] at h
  exact tT.step R h (fun x ρ1 p => p.ex (Same.refl _) (.refl _) (.refl _ _)) fun t ρ1 v G1 H1 p s1 R1 => p _ G1 H1 s1 (R1.store (by rw [hlen]; exact hi)) (But.set σ i (some v))
theorem set_endO {i : Nat} {e : E} {st : Stmt} (ok : XS Φ W c X) (hi : i < X.N.length) (he : ∀ ρ, asT e (ev2 Φ e).1 ρ = ((ev2 Φ e).1 ρ).bind fun x ρ1 => match x with | .tmp t => .ok t ρ1 | .sl _ => .no)
    (h : PS X st (tAsg (tO X W (ev2 Φ e).1) (gName i))) : PS X st (tS X W [i] (exS Φ (.set i e))) := by
  refine h.weakL fun D σ H hlen ⟨G, ρ, τ, R, h⟩ => ?_
  unfold exS at h
  rw [wpR_bind, evT, he, wpR_bind] at h
  refine tO.step R h (fun x ρ1 p => p.ex (Same.refl _) (.refl _) (.refl _ _)) fun o ρ1 v G1 H1 p s1 R1 _ => ?_
  cases o with
  | sl i => exact p.elim
  | tmp t => exact p _ G1 H1 s1 (Rel.store R1 (by rw [hlen]; exact hi)) (But.set σ i (some v))
end
section
variable {Φ : Fx}
theorem setC_sw {v : Expr} (h : setC v = true) (hn : ∀ a b d p, v ≠ .ListComp a b d p) (t : Option Expr) (n : Nat) (env : Env) : swapsWith v t n env = pure false := by
  cases v <;> first | rfl | (exact absurd rfl (hn _ _ _ _)) | cases h
theorem t_set {i : Nat} {e : E} : SS Φ (.set i e) := fun {c W X} ok st hc => by
  simp only [ckS] at hc
  split at hc
  case h_2 => cases hc
  rename_i x px v p
  simp only [Bool.and_eq_true] at hc
  obtain ⟨⟨g1, g2⟩, g3⟩ := hc
  have hx := ok.scp.loc x (storeOk_split g1).2
  have hN : X.N.Nodup := by rw [ok.hN]; exact ok.nd
  have plain : swapsWith v (some (.Name x px)) p.line X.env = pure false → PS X (.Assign [.Name x px] v p) (tS X W (S.set i e).sets (exS Φ (.set i e))) := fun hs =>
    set_end ok (ok.lt g1) (ps_set hN (ok.nth g1) hx.1 (d_asT ok.toXOk g2 (sE Φ e ok.toXOk g2).1) hs hx.2)
  by_cases hn : ∃ a b d p, v = .ListComp a b d p
  · obtain ⟨a, b, d, q, rfl⟩ := hn
    have sw := sw_comp (ee := a) (gs := b) (s := d) (p := q) (py := px) (y := x) (n := p.line) (env := X.env)
    cases hb : (X.env.blockKind == .function && X.env.kindOf x == some .local && px.line == q.line && !(d.names.any fun (n, k) => n == x && (k == .local || k == .cell))) with
    | false => rw [hb] at sw; exact plain sw
    | true =>
      rw [hb] at sw
      simp only [Bool.and_eq_true] at hb
      have hxl : X.env.scope.names.lookup x = some .local := by
        have h2 := hb.1.1.2
        cases hk : X.env.kindOf x with
        | none => rw [hk] at h2; cases h2
        | some k => rw [hk] at h2; cases k <;> first | exact hk | (exact absurd h2 (by decide))
      cases e <;> try (simp only [ckE] at g2; done)
      case lc tg own it cd elt =>
        match b, g2 with
        | [⟨te, ie, ifs, 0⟩], g2 =>
          simp only [ckE, Bool.and_eq_true, decide_eq_true_eq] at g2
          obtain ⟨⟨⟨⟨⟨⟨⟨⟨g1', g2⟩, g3'⟩, g4⟩, g5⟩, g6⟩, g7⟩, g8⟩, g9⟩ := g2
          have htg : ∀ i ∈ tg.is, i ∈ own := fun i hi => of_decide_eq_true (List.all_eq_true.mp g5 i hi)
          have blk := ok.toXOk.blk (s := X.s_0) (H := fun _ => none) (scope := d) (cl := []) (C := 0) (fp := [])
          have hlt := ckTg_lt blk g3'
          exact set_endO ok (ok.lt g1) (fun _ => rfl) (d_setLc ok.toXOk (ok.nth g1) hxl sw g1' g2 g4 htg g6 (sI Φ it ok.toXOk g7) (fun W1 X' ok' ek => by have := g_of ok' g3'; rw [ek] at this; exact this) hlt
            (fun W1 X' ok' => (sOE Φ cd ok').2 g9) (fun W1 X' ok' => d_frz (d_asT ok' g8 (sE Φ elt ok' g8).1)))
        | [], g2 => simp only [ckE] at g2; contradiction
        | _ :: _ :: _, g2 => simp only [ckE] at g2; contradiction
        | [⟨_, _, _, .ofNat (n + 1)⟩], g2 => simp only [ckE] at g2; contradiction
        | [⟨_, _, _, .negSucc n⟩], g2 => simp only [ckE] at g2; contradiction
      case lcd s j cd elt =>
        unfold ckE at g2
        split at g2 <;> try contradiction
        all_goals (rename_i heq0 heq; cases heq0; cases heq)
        simp only [Bool.and_eq_true, decide_eq_true_eq] at g2
        obtain ⟨⟨⟨⟨⟨h1, h2⟩, h3⟩, h4⟩, h5⟩, h6⟩ := g2
        have hlt := (List.getElem?_eq_some_iff.mp (storeOk_split h3).1).1
        exact set_endO ok (ok.lt g1) (fun _ => rfl) (d_setLcd ok.toXOk (ok.nth g1) hxl sw h1 h2 h3 h4 (by rw [ok.hN]; exact hlt) (fun X' ok' => (sOE Φ cd ok').2 h6) (fun X' ok' => d_frz (d_asT ok' h5 (sE Φ elt ok' h5).1)))
      all_goals (simp only [ckE] at g2; contradiction)
  · exact plain (setC_sw g3 (fun a b d q z => hn ⟨a, b, d, q, z⟩) _ _ _)
theorem Rel.fzAt {G H : Hp} {ρ : Rho} {τ : List (V × T)} {σ : St} {i : Nat} {t : T} {d : D} (R : Rel G (ρ.set i (some t)) τ σ H) (e : t.view = some d) : ∃ G', Same G G' ∧ Rel G' (ρ.set i (some (.fz d))) τ σ H := by
  by_cases hi : i < ρ.length
  · obtain ⟨v, ev, R1⟩ := R.out (i := i) (t := t) (List.getElem?_set_self hi)
    rw [List.set_set] at R1
    obtain ⟨G', s, R2⟩ := R1.freeze e
    have R3 := Rel.back R2 ev (List.getElem?_set_self hi)
    rw [List.set_set] at R3
    exact ⟨G', s, R3⟩
  · have hl : ρ.length ≤ i := Nat.le_of_not_lt hi
    rw [List.set_eq_of_length_le hl] at R ⊢
    exact ⟨G, Same.refl _, R⟩
theorem t_setF {i : Nat} {e : E} : SS Φ (.setF i e) := fun {c W X} ok st hc => by
  have hc2 : ckS c (.set i e) st = true := by
    simp only [ckS] at hc ⊢
    exact hc
  refine (t_set ok hc2).weak fun D σ H ⟨G, ρ, τ, R, h⟩ => ⟨G, ρ, τ, R, ?_⟩
  unfold exS at h ⊢
  rw [wpR_bind] at h ⊢
  unfold evD asD frz at h
  rw [wpR_bind] at h
  refine h.mono (fun t ρ1 p => ?_) fun _ _ z => z
  obtain ⟨d, ed, p⟩ := wpR_of p
  intro σ' G' H' s1 R1 b1
  obtain ⟨G2, s2, R2⟩ := Rel.fzAt R1 ed
  exact p σ' G2 H' (s1.trans s2) R2 b1
theorem Vw.rqT {G H : Hp} {v : V} {ds : List D} (h : Vw G H v (.tuple ds)) : Rq G v (.tuple ds) := by
  rcases h with h | ⟨a, vs, es, _, e, _⟩
  · exact h
  · cases e
theorem t_setT {is : List Nat} {e : E} : SS Φ (.setT is e) := fun {c W X} ok st hc => by
  simp only [ckS] at hc
  split at hc
  case h_2 => cases hc
  rename_i es k px v p
  simp only [Bool.and_eq_true] at hc
  obtain ⟨⟨⟨g1, g2⟩, g3⟩, g4⟩ := hc
  have g1' : ckTg c (.tup is) (.Tuple es k px) = true := g1
  have hw : swappedStores [.Tuple es k px] v X.env = pure none := by
    cases v <;> first | rfl | cases g3
  refine (ps_asg (sE Φ e ok.toXOk g2).1 (g_of ok.toXOk g1') (by show swapsWith v (some (.Tuple es k px)) p.line X.env = pure false; exact noComp_sw g4 _ _ _) hw).weakL fun D σ H hlen ⟨G, ρ, τ, R, h⟩ => ?_
  unfold exS at h
  rw [wpR_bind] at h
  refine tO.step R h (fun x ρ1 p => p.ex (Same.refl _) (.refl _) (.refl _ _)) fun o ρ1 v G1 H1 p s1 R1 a1 => ?_
  unfold setFin at p
  cases eo : o.see ρ1 with
  | none => rw [eo] at p; exact p.elim
  | some d =>
    rw [eo] at p
    cases d with
    | tuple ds =>
      simp only at p
      cases em : setMany is ds ρ1 with
      | none => rw [em] at p; exact p.elim
      | some ρ2 =>
        rw [em] at p
        have w := (Opd.vw (A := []) R1 a1 eo).rqT
        exact put_tg (tg := .tup is) (K := X.K) R1 w em (fun i hi => by rw [hlen]; exact ckTg_lt ok.toXOk g1' i hi) fun σ2 R2 b2 => p σ2 G1 H1 s1 (R2.sub (Opd.sub _ _ _)) b2
    | list ds =>
      simp only at p
      cases em : setMany is ds ρ1 with
      | none => rw [em] at p; exact p.elim
      | some ρ2 =>
        rw [em] at p
        obtain ⟨a, vs, rfl, ra, rs⟩ := (Opd.vw (A := []) R1 a1 eo).lst R1.same
        exact .inr ⟨a, vs, rfl, SqL.rd ra, by rw [rs.length, setMany_len em], put_many (K := X.K) R1 rs em (fun i hi => by rw [hlen]; exact ckTg_lt ok.toXOk g1' i hi) fun σ2 R2 b2 => p σ2 G1 H1 s1 (R2.sub (Opd.sub _ _ _)) b2⟩
    | _ => exact p.elim
theorem rel_two {G H : Hp} {ρ : Rho} {τ : List (V × T)} {σ : St} {i j : Nat} {v w : V} {d e : D} (R : Rel G ρ τ σ H) (hi : i < σ.length) (hj : j < σ.length) (r1 : Rq G v d) (r2 : Rq G w e) :
    Rel G ((ρ.set i (some (.fz d))).set j (some (.fz e))) τ ((σ.set i (some v)).set j (some w)) H := by
  have R1 : Rel G (ρ.set i (some (.fz d))) τ (σ.set i (some v)) H := (R.addFz r1).store hi
  exact (R1.addFz r2).store (by rw [List.length_set]; exact hj)
theorem nost : ∀ u : Expr, noStar u = true → ¬ ((match u with | .Starred .. => true | _ => false) = true) := by
  intro u h
  cases u <;> first | exact Bool.false_ne_true | cases h
theorem par_sw {u v : Expr} {x y : Str} {px py pt pt2 : Pos} {kt k2 : Nat} {env : Env} (hb : env.blockKind = .function) (hx : env.scope.names.lookup x = some .local) (hy : env.scope.names.lookup y = some .local) (hne : x ≠ y) (hl : (py.line == px.line) = true)
    (h1 : (foldedForSure 8 u && foldedForSure 8 v) = false) (h2 : (constantsAlone 8 u && constantsAlone 8 v) = false) (s1 : noStar u = true) (s2 : noStar v = true) :
    swappedStores [.Tuple [.Name x px, .Name y py] kt pt] (.Tuple [u, v] k2 pt2) env = pure (some [x, y]) := by
  have kx : env.kindOf x = some .local := hx
  have ky : env.kindOf y = some .local := hy
  have hd : [x, y].eraseDups = [x, y] := by
    have q : (x == y) = false := beq_eq_false_iff_ne.mpr hne
    have q2 : (y == x) = false := beq_eq_false_iff_ne.mpr (Ne.symm hne)
    simp [List.eraseDups_cons, q, q2]
  have hf : [u, v].all (foldedForSure 8) = false := by simpa using h1
  have hc : [u, v].all (constantsAlone 8) = false := by simpa using h2
  have e1 : (env.kindOf x == some NameKind.local && px.line == px.line) = true := by rw [kx]; simp
  have e2 : (env.kindOf y == some NameKind.local && py.line == px.line) = true := by rw [ky, hl]; rfl
  unfold swappedStores
  simp only [hb, hf, hc]
  simp only [List.filterMap_cons, List.filterMap_nil, List.head?_cons, Option.map_some, Option.getD_some, Expr.pos, e1, e2, if_true, hd]
  refine (if_neg (by simp)).trans ((if_neg fun h => ?_).trans ((if_neg (by simp)).trans rfl))
  obtain ⟨e, he, q⟩ := List.any_eq_true.mp h
  refine nost e ?_ q
  rcases List.mem_cons.mp he with rfl | he
  · exact s1
  · rcases List.mem_cons.mp he with rfl | he
    · exact s2
    · cases he
theorem t_par {i j : Nat} {a b : E} : SS Φ (.par i j a b) := fun {c W X} ok st hc => by
  simp only [ckS] at hc
  split at hc
  case h_2 => cases hc
  rename_i x px y py kt pt u v k2 pt2 p
  simp only [Bool.and_eq_true, decide_eq_true_eq, Bool.not_eq_true'] at hc
  obtain ⟨⟨⟨⟨⟨⟨⟨⟨⟨⟨⟨⟨g1, g2⟩, g3⟩, g4⟩, g5⟩, g6⟩, g7⟩, g8⟩, g9⟩, g10⟩, g11⟩, g12⟩, g13⟩ := hc
  have hx : X.env.scope.names.lookup x = some .local := by rw [ok.scE]; exact of_decide_eq_true g3
  have hy : X.env.scope.names.lookup y = some .local := by rw [ok.scE]; exact of_decide_eq_true g4
  have hN : X.N.Nodup := by rw [ok.hN]; exact ok.nd
  have ce : ckEs c (.cons a (.cons b .nil)) [u, v] = true := by simp [ckEs, g10, g11, g12, g13]
  have sw : swappedStores [.Tuple [.Name x px, .Name y py] kt pt] (.Tuple [u, v] k2 pt2) X.env = pure (some [x, y]) :=
    par_sw ok.blk hx hy g6 g7 g8 g9 g11 g13
  refine (ps_par ok.calm hN (ok.nth g1) (ok.nth g2) g5 hx hy (sEs Φ (.cons a (.cons b .nil)) ok.toXOk ce).2 sw).weakL fun D σ H hlen ⟨G, ρ, τ, R, h⟩ => ?_
  unfold exS at h
  rw [wpR_bind] at h
  refine tDs.step R h (fun x ρ1 p => p.ex (Same.refl _) (.refl _) (.refl _ _)) fun ds ρ1 vs G1 H1 p s1 R1 rs => ?_
  unfold parFin at p
  split at p
  case h_2 => exact p.elim
  cases rs with
  | cons r1 rs =>
    cases rs with
    | cons r2 rs =>
      cases rs
      refine ⟨_, _, rfl, p _ G1 H1 s1 (rel_two R1 (by rw [hlen]; exact ok.lt g1) (by rw [hlen]; exact ok.lt g2) r1 r2) ?_⟩
      exact ((But.set σ i (some _)).mono fun j hj => by simp at hj; subst hj; simp [S.sets]).trans ((But.set _ j (some _)).mono fun j hj => by simp at hj; subst hj; simp [S.sets])
end
end L2.Eng

/-! EngY: a try whose one clause names two classes. -/
namespace L2N
open PySem PySem.Spec PyProof.Rows L2
/-- one more object while an exception flies -/
theorem fly_push {B h : Heap} {l : List Env} {a : Addr} {Z : Obj → Prop} (f : HandSPX.FlyingZ B l a Z h) (o : Obj) : HandSPX.FlyingZ B l a Z (h.push o) := by
  obtain ⟨f1, f2, f3, oe, vs, T, oT, ts, u1, u2, u3, u4, u5, u6, u7, u8, u9⟩ := f
  have kp : ∀ b q, h.get? b = some q → (h.push o).get? b = some q := fun _ _ z => Heap.get?_push_of_some _ z
  exact ⟨fun b q z => kp b q (f1 b q z), f2, Heap.FunFrames.of_keeps (fun b q z _ => ⟨q, kp b q z, rfl⟩) f3, oe, vs, T, oT, ts, kp _ _ u1, u2, u3, u4, u5, u6, kp _ _ u7, u8, u9⟩
/-- what the clause 'except (x1, x2)' wishes -/
def wTwo (K : PySem.W.Frag) (c1 c2 : Value) (ts : Addr → Value → Option Addr → TS) (Wo : WX) (D : Ends) : WX := fun cls d σ H =>
  ∃ b, PySem.W.exmAny K cls [c1, c2] = some b ∧ (b = true → ∀ a, H a = none → ts a cls d D σ H) ∧ (b = false → Wo cls d σ H)
section
variable {X : Cx} {x1 x2 : Str} {c1 c2 : Value} {ts : Addr → Value → Option Addr → TS} {st0 : Stmt} {rest : List Stmt} {q1 q2 q3 q4 pos : Pos} {kk : Nat} {body : List Stmt} {tb : WX → TS} {Wo : WX}
theorem try_two (hst : X.stack = X.env :: X.outer) (hfm : X.env.frame = some X.env.locals) (tk : Takes X Wo)
    (hbd : ∀ (W : WX) (pn : List (Addr × Obj)) (xe : Value → Shared → Prop), Takes (X.tr pn xe) W → PassesOwn (model X.prog X.w) X.A X.env xe → PSs (X.tr pn xe) body (tb W))
    (n1 : Names X x1 c1) (n2 : Names X x2 c2)
    (hs2 : ∀ (a : Addr) (oe : Obj) (cls : Value) (d : Option Addr) (pn : List (Addr × Obj)), Zn cls d oe → (∃ vs, oe.data = .fields vs) → PSs (X.suite a ((a, oe) :: pn)) (st0 :: rest) (ts a cls d)) :
    PS X (.Try body [.ExceptHandler (some (.Tuple [.Name x1 q1, .Name x2 q2] kk q3)) none (st0 :: rest) q4] [] [] pos) (fun D σ H => tb (wTwo X.K c1 c2 ts Wo D) D σ H) := by
  refine ⟨fun pins s σ H D I hgo => ?_⟩
  have iok := I.ok
  have frm : X.A.frames = some (X.env :: X.outer) := by rw [iok.frames, hst]
  refine wpAny_Try_except ?_
  refine wpAny_mono ((hbd (wTwo X.K c1 c2 ts Wo D) (X.pn ++ pins) (fun e u1 => wpAny (model X.prog X.w) X.A (noteFrame e X.env) (fun _ u2 => wpAny (model X.prog X.w) X.A (setFlight e none) (fun _ u3 =>
    wpAny (model X.prog X.w) X.A (handleBy e X.env [.ExceptHandler (some (.Tuple [.Name x1 q1, .Name x2 q2] kk q3)) none (st0 :: rest) q4]) (SP X pins D) X.xe u3) X.xe u2) X.xe u1) (fun u s' caught => ?_) PassesOwn.looking).run [] s σ H D (I.toTry _) hgo) (fun f u1 went => ?_) (fun e u1 z => z)
  · obtain ⟨a, B, sI, pins', σ', H', cls, d, rfl, K', nb, up, sky, na, os, ag, w⟩ := caught
    have J : Inv X pins σ' H' sI := K'.ofTry iok
    have sky1 : Sky B (X.env :: X.outer) a (Zn cls d) X.env.locals s'.heap := by rw [← hst]; exact sky
    show wpAny (model X.prog X.w) X.A (noteFrame (.ref a) X.env) _ _ _
    refine Sky.land Zn.steady frm hfm sky1 fun hA flA upA => ?_
    have JA : Inv X pins σ' H' { s' with heap := hA } := J.landed nb flA.1 (up.trans upA) os ag
    obtain ⟨oeA, vsA, heA, hzA, hdA⟩ := flA.there
    have away : ∀ {h : Heap} {o : Obj} {vs : Array Value}, h.FunFrames B (X.env :: X.outer) → h.get? a = some o → o.data = .fields vs → a ∉ frs (X.env :: X.outer) := fun {h o vs} ff e dd hm => by
      obtain ⟨_, o', e', hnf⟩ := ff.mem hm
      rw [e] at e'; cases e'
      exact hnf _ dd
    have aw := away flA.2.2.1 heA hdA
    have nL : a ≠ X.env.locals := fun z => aw (List.mem_filterMap.mpr ⟨X.env, List.mem_cons_self, by rw [hfm, z]⟩)
    have nF : a ∉ X.fs := fun hm => by
      obtain ⟨e, he, q⟩ := List.mem_filterMap.mp hm
      exact aw (List.mem_filterMap.mpr ⟨e, List.mem_cons_of_mem _ he, q⟩)
    have SA := JA.suite heA hdA na nL nF
    obtain ⟨b, hb1, hyes, hno⟩ := w
    refine wpAny_handleBy_cons (codeAny_handlers_test ?_) (by intro q; cases q)
    have look : ∀ {x : Str} {c : Value} {p : Pos} {Q : Value → Shared → Prop} {E : Value → Shared → Prop}, Names X x c → Q c { s' with heap := hA } → wpAny (model X.prog X.w) (X.A.mark (some (.ref a))) (eval (.Name x p) X.env) Q E { s' with heap := hA } := fun {x c p Q E} hc q => by
      obtain ⟨hg, hdbg, hm | ⟨hm, hv, hnn⟩⟩ := hc
      · exact ld_glob (X := X.suite a ((a, oeA) :: (X.pn ++ pins))) SA hg hm q hdbg
      · exact ld_blt (X := X.suite a ((a, oeA) :: (X.pn ++ pins))) SA hg hm hv q hnn hdbg
    refine wpAny_Tuple ?_
    refine wpAny_items_cons (look n1 ?_)
    refine wpAny_items_cons (look n2 ?_)
    refine wpAny_items_nil ⟨by show 2 ≤ sizeLine; decide, ?_⟩
    have kp : ∀ q o, hA.get? q = some o → (hA.push { cls := .type "tuple", data := .seq [c1, c2].toArray }).get? q = some o := fun _ _ z => Heap.get?_push_of_some _ z
    have LT : PySem.W.Looks (model X.prog X.w) hA (typeOf (.ref a)) cls := fun A Q E s k q => wpAny_typeOf_ref (k _ _ heA) (by rw [hzA.1]; exact q)
    have LM := PySem.W.exm_tup2 (M := model X.prog X.w) ((JA.kIn).keeps kp) (LT.keeps kp) (Heap.get?_push_size hA rfl) hb1
    have flB := fly_push flA { cls := .type "tuple", data := .seq [c1, c2].toArray }
    have upB : hA.UpToSlots (hA.push { cls := .type "tuple", data := .seq [c1, c2].toArray }) := Heap.UpToSlots.of_keeps kp
    show wpAny _ _ (excMatches (.ref a) (.ref hA.objs.size)) _ _ { s' with heap := hA.push { cls := .type "tuple", data := .seq [c1, c2].toArray } }
    refine LM.here ?_
    cases b with
    | true =>
      refine codeAny_handlers_suite ?_
      refine HandSPX.lands_againZ flB fun hC flC upC => ?_
      have JC : Inv X pins σ' H' { s' with heap := hC } := J.landed nb flC.1 (((up.trans upA).trans upB).trans upC) os ag
      obtain ⟨oeC, vsC, heC, hzC, hdC⟩ := flC.there
      have SC := JC.suite heC hdC na nL nF
      refine wpAny_mono ((hs2 a oeC cls d (X.pn ++ pins) hzC ⟨_, hdC⟩).run [] _ _ H' _ SC (hyes rfl a na)) (fun f u6 went => ?_) (fun _ _ z => False.elim z)
      cases f with
      | next =>
        obtain ⟨σ6, H6, S6, z6⟩ := went
        exact ⟨_, _, S6.unsuite iok, z6⟩
      | brk =>
        obtain ⟨σ6, H6, S6, z6⟩ := went
        exact ⟨_, _, S6.unsuite iok, z6⟩
      | cont =>
        obtain ⟨σ6, H6, S6, z6⟩ := went
        exact ⟨_, _, S6.unsuite iok, z6⟩
      | ret u =>
        obtain ⟨v6, σ6, H6, S6, r6, z6⟩ := went
        exact ⟨_, _, _, S6.unsuite iok, r6, z6⟩
    | false =>
      show wpAny _ X.A (handleBy (.ref a) X.env []) _ _ _
      refine wpAny_handleBy_nil ?_
      obtain ⟨k1, k2, k3, oe, vs, T, oT, ts', he, hz, hd, h1, hr⟩ := id flB
      unfold PySem.passOn
      refine wpAny_bind (wpAny_field he hd h1 ?_)
      rw [if_neg (show ¬ ((Value.ref T == Value.none) = true) from by simp)]
      have off : wpAny (model X.prog X.w) X.A (setFlight (.ref a) X.env.frame) (fun _ u4 => wpAny (model X.prog X.w) X.A (throw (.ref a) : Sem Flow) (SP X pins D) X.xe u4) X.xe { s' with heap := hA.push { cls := .type "tuple", data := .seq [c1, c2].toArray } } := by
        rw [hfm]
        refine HandSPX.setFlight_upZ flB fun hD flD upD => wpAny_throw (tk _ _ ?_)
        exact ⟨a, B, sI, pins, σ', H', cls, d, rfl, J, nb, ((up.trans upA).trans upB).trans upD, .inr (.inr (by rw [hst]; exact flD)), na, os, ag, hno rfl⟩
      first
        | exact wpAny_bind (wpAny_pure (wpAny_bind off))
        | exact wpAny_bind off
  · cases f with
    | next =>
      obtain ⟨σ', H', K', z⟩ := went
      exact wpAny_execs_nil ⟨σ', H', K'.ofTry iok, z⟩
    | brk =>
      obtain ⟨σ', H', K', z⟩ := went
      exact ⟨σ', H', K'.ofTry iok, z⟩
    | cont =>
      obtain ⟨σ', H', K', z⟩ := went
      exact ⟨σ', H', K'.ofTry iok, z⟩
    | ret u =>
      obtain ⟨v, σ', H', K', r, z⟩ := went
      exact ⟨v, σ', H', K'.ofTry iok, r, z⟩
end
end L2N

/-! EngG3: items stored, errors raised and caught. -/
namespace L2.Eng
open PySem PySem.Spec PyProof.Rows
section
variable {Φ : Fx}
theorem t_sub {i : Nat} {k e : E} : SS Φ (.sub i k e) := fun {c W X} ok st hc => by
  simp only [ckS] at hc
  split at hc
  case h_2 => cases hc
  rename_i x px y q v p
  simp only [Bool.and_eq_true] at hc
  obtain ⟨⟨⟨g1, g2⟩, g3⟩, g4⟩ := hc
  have hs : swapsWithSole [.Subscript (.Name x px) y q] v p.line X.env = pure false := by cases v <;> rfl
  have hw : swappedStores [.Subscript (.Name x px) y q] v X.env = pure none := by cases v <;> rfl
  have ha : ∀ u, assign (.Subscript (.Name x px) y q) X.env u = (do
      let ov ← holding [u] (eval (.Name x px) X.env)
      let iv ← holding [u, ov] (eval y X.env)
      standAt q
      holding [u, ov, iv] (setItem ov iv u)
      release [u, ov, iv] []) := by
    intro u
    cases y <;> first | rfl | cases g3
  have h1 : (assignEach [.Subscript (.Name x px) y q] X.env).map (·.2) = [assign (.Subscript (.Name x px) y q) X.env] := by rfl
  refine (ps_asg (d_frz (d_asT ok.toXOk g4 (sE Φ e ok.toXOk g4).1)) (pg_sub (d_var ok.toXOk g1) (sE Φ k ok.toXOk g2).1 set_list ha) hs hw h1).weakL fun D σ H hlen ⟨G, ρ, τ, R, h⟩ => ?_
  unfold exS at h
  rw [wpR_bind] at h
  refine tD.step R h (fun x ρ1 p => p.ex (Same.refl _) (.refl _) (.refl _ _)) fun d ρ1 v G1 H1 p s1 R1 rv => ?_
  split at p
  case isFalse => exact p.elim
  case isTrue hol =>
  have hslot : ∃ xs, slotT ρ1 i = some (.ol xs) := by
    cases e : slotT ρ1 i with
    | none => rw [e] at hol; cases hol
    | some t => rw [e] at hol; cases t <;> first | exact ⟨_, rfl⟩ | cases hol
  obtain ⟨xs, es⟩ := hslot
  obtain ⟨u, eu, _⟩ := R1.slot (slotT_some es)
  refine ⟨u, eu, ?_⟩
  rw [wpR_bind] at p
  have Rv : Rel G1 ρ1 ((v, .fz d) :: τ) σ H1 := R1.addFz rv
  refine tO.step Rv p (fun x ρ2 p => p.ex s1 (List.sublist_cons_self _ _) (.refl _ _)) fun o ρ2 y2 G2 H2 p s2 R2 a2 => ?_
  unfold subFin at p
  cases e1 : slotT ρ2 i with
  | none => rw [e1] at p; exact p.elim
  | some t =>
    rw [e1] at p
    cases t with
    | fz _ => exact p.elim
    | od _ _ => exact p.elim
    | lk _ _ => exact p.elim
    | ol zs =>
      cases e2 : o.see ρ2 with
      | none => rw [e2] at p; exact p.elim
      | some z =>
        rw [e2] at p
        cases z with
        | int n =>
          simp only at p
          cases e3 : ixN zs.length n with
          | none => rw [e3] at p; exact p.elim
          | some j =>
            rw [e3] at p
            have w2 : Vw G2 H2 y2 (.int n) := Opd.vw (A := []) R2 a2 e2
            have hz := slotT_some e1
            obtain ⟨u', eu', R3⟩ := R2.out hz
            rw [eu] at eu'
            cases eu'
            obtain ⟨a, vs, rfl, g, ea, rq, put, _⟩ := R3.held.mid.ol
            have rv2 : Rq G2 v d := rv.mono s2
            refine ⟨a, vs, n, j, rfl, w2.int, ea, by rw [rq.length]; exact e3, ?_⟩
            have R4 : Rel G2 (ρ2.set i none) ((.ref a, .ol (zs.set j d)) :: (o.push y2 ((v, .fz d) :: τ))) σ (upd H2 a (.lst (vs.set j v))) :=
              ⟨Same.updFree R3.same g, R3.slots, (put _ _ (rq.set rv2 j)).unmid⟩
            have hlt : i < ρ2.length := (List.getElem?_eq_some_iff.mp hz).1
            have R5 := Rel.back R4 eu (by rw [List.getElem?_set_self hlt])
            rw [List.set_set] at R5
            exact p σ G2 _ (s1.trans s2) (R5.sub ((List.sublist_cons_self _ _).trans (Opd.sub _ _ _))) (.refl _ _)
        | _ => exact p.elim

theorem t_dst {i : Nat} {k e : E} : SS Φ (.dst i k e) := fun {c W X} ok st hc => by
  simp only [ckS] at hc
  split at hc
  case h_2 => cases hc
  rename_i x px y q v p
  simp only [Bool.and_eq_true] at hc
  obtain ⟨⟨⟨g1, g2⟩, g4⟩, g5⟩ := hc
  have hu := ok.hu
  refine (ps_dput (by omega) (d_var ok.toXOk g1) (sE Φ k ok.toXOk g2).1 (d_frz (d_asT ok.toXOk g4 (sE Φ e ok.toXOk g4).1)) (noComp_sw g5 _ _ _)).weakL fun D σ H hlen ⟨G, ρ, τ, R, h⟩ => ?_
  unfold exS at h
  rw [wpR_bind] at h
  refine tD.step R h (fun x ρ1 p => p.ex (Same.refl _) (.refl _) (.refl _ _)) fun d ρ1 v G1 H1 p s1 R1 rv => ?_
  split at p
  case isFalse => exact p.elim
  case isTrue hol =>
  have hslot : ∃ b kvs, slotT ρ1 i = some (.od b kvs) := by
    cases e : slotT ρ1 i with
    | none => rw [e] at hol; cases hol
    | some t => rw [e] at hol; cases t <;> first | exact ⟨_, _, rfl⟩ | cases hol
  obtain ⟨b0, kvs0, es⟩ := hslot
  obtain ⟨u, eu, _⟩ := R1.slot (slotT_some es)
  refine ⟨u, eu, ?_⟩
  rw [wpR_bind] at p
  have Rv : Rel G1 ρ1 ((v, .fz d) :: τ) σ H1 := R1.addFz rv
  refine tO.step Rv p (fun x ρ2 p => p.ex s1 (List.sublist_cons_self _ _) (.refl _ _)) fun o ρ2 y2 G2 H2 p s2 R2 a2 => ?_
  unfold dstFin at p
  cases e1 : slotT ρ2 i with
  | none => rw [e1] at p; exact p.elim
  | some t =>
    rw [e1] at p
    cases t with
    | od b kvs =>
      cases e2 : o.see ρ2 with
      | none => rw [e2] at p; exact p.elim
      | some z =>
        rw [e2] at p
        simp only at p
        split at p
        case isFalse => exact p.elim
        case isTrue hk =>
        have w2 : Vw G2 H2 y2 z := Opd.vw (A := []) R2 a2 e2
        have hz := slotT_some e1
        obtain ⟨u', eu', R3⟩ := R2.out hz
        rw [eu] at eu'
        cases eu'
        obtain ⟨a, w, rfl, g, ea, rq, put, _⟩ := R3.held.mid.od
        have rv2 : Rq G2 v d := rv.mono s2
        have hlt : i < ρ2.length := (List.getElem?_eq_some_iff.mp hz).1
        have fin : ∀ w', RqD G2 b w' (putKD b kvs z d) → D.nx σ (upd H2 a w'.ho) := fun w' r' => by
          have R4 : Rel G2 (ρ2.set i none) ((.ref a, .od b (putKD b kvs z d)) :: (o.push y2 ((v, .fz d) :: τ))) σ (upd H2 a w'.ho) :=
            ⟨Same.updFree R3.same g, R3.slots, (put _ _ r').unmid⟩
          have R5 := Rel.back R4 eu (by rw [List.getElem?_set_self hlt])
          rw [List.set_set] at R5
          exact p σ G2 _ (s1.trans s2) (R5.sub ((List.sublist_cons_self _ _).trans (Opd.sub _ _ _))) (.refl _ _)
        rcases rq.put hk.1 rv2 with ⟨rfl, vs, kk, rfl, ek, r'⟩ | ⟨rfl, vs, kk, rfl, ek, r'⟩
        · have ey := key_vw w2 ek
          subst ey
          cases rq with
          | k rq =>
          exact ⟨a, _, rfl, DPut.k ea (by rw [Paired.length rq]; exact hk.2), fin _ r'⟩
        · obtain ⟨bb, rfl, eb⟩ := tk_vw R2.same w2 ek
          cases rq with
          | t rq =>
          exact ⟨a, _, rfl, DPut.t ea eb (by rw [Paired.length rq]; exact hk.2), fin _ r'⟩
    | _ => exact p.elim
theorem forRun_free {tg : Tg} {src : Src} {body : Rho → R Fl} (h : src.free (tg.is ++ []) = true) : True := trivial
theorem t_ford {s i : Nat} {b : Ss} (hb : SSs Φ b) : SS Φ (.ford s i b) := fun {c W X} ok st hc => by
  simp only [ckS] at hc
  split at hc
  case h_2 => cases hc
  rename_i y py x px bd pp
  simp only [Bool.and_eq_true] at hc
  obtain ⟨⟨g1, g2⟩, g3⟩ := hc
  have hN : s < X.N.length := by
    rw [ok.hN]
    exact (List.getElem?_eq_some_iff.mp (storeOk_split g1).1).1
  have P := for_any (tg := .one s) (pp := pp) hb ok (i_dks (W := W) ok.toXOk (p := px) (tg := .Name y py) g2) (g_name ok.toXOk g1) (fun j hj => by rw [List.mem_singleton.mp hj]; exact hN) g3 (fun _ => rfl)
  refine (ps_lock P).weakL fun D σ H hlen ⟨G, ρ, τ, R, h⟩ => ?_
  unfold exS at h
  cases e : slotT ρ i with
  | none => rw [e] at h; exact h.elim
  | some t =>
    rw [e] at h
    cases t with
    | od bb kvs =>
      cases bb with
      | true => exact h.elim
      | false =>
      simp only at h
      split at h
      case isTrue => exact h.elim
      case isFalse hsi =>
      obtain ⟨a, vs, ev, g, eh, lock⟩ := R.lock e
      refine ⟨a, .dK vs, eh, trivial, fun o => ⟨_, _, τ, lock o, ?_⟩⟩
      have es : srcK i (ρ.set i (some (.lk false kvs))) = .ok (.tmp false (kvs.map (·.1))) (ρ.set i (some (.lk false kvs))) := by
        unfold srcK
        rw [slotT_set e]
      unfold forF
      rw [es]
      show wpR (forRun (.one s) (.tmp false (kvs.map (·.1))) (exSs Φ b) (kvs.map (·.1)).length 0 _) _ _
      rw [List.length_map]
      have keep : ∀ {σ' : St}, But ([s] ++ b.sets) σ σ' → σ'[i]? = some (some (.ref a)) := fun {σ'} bt => by
        rw [bt.2 i hsi]
        exact ev
      cases ef : forRun (.one s) (.tmp false (kvs.map (·.1))) (exSs Φ b) kvs.length 0 (ρ.set i (some (.lk false kvs))) with
      | no => rw [ef] at h; exact h.elim
      | exc z ρ2 =>
        rw [ef] at h
        exact SxP.move (show SxP X W (s :: b.sets) G τ σ z ρ2 from h) (Same.updOut g) (.refl _) (.refl _ _) (fun j hj => hj)
      | ok fl ρ2 =>
        rw [ef] at h
        have h : wpR (match unlkR i ρ2 with | some ρ3 => Eng.R.ok fl ρ3 | none => .no) (FlP D (s :: b.sets) G τ σ) (SxP X W (s :: b.sets) G τ σ) := h
        cases eu : unlkR i ρ2 with
        | none => rw [eu] at h; exact h.elim
        | some ρ3 =>
          rw [eu] at h
          have h : FlP D (s :: b.sets) G τ σ fl ρ3 := h
          cases fl with
          | nx =>
            intro σ' G' H' s' R' bt
            obtain ⟨ha, G2, s2, R2⟩ := R'.unlock (keep bt) s' g eu
            exact ⟨ha, h σ' G2 _ s2 R2 bt⟩
          | bk =>
            intro σ' G' H' s' R' bt
            obtain ⟨ha, G2, s2, R2⟩ := R'.unlock (keep bt) s' g eu
            exact ⟨ha, h σ' G2 _ s2 R2 bt⟩
          | ct =>
            intro σ' G' H' s' R' bt
            obtain ⟨ha, G2, s2, R2⟩ := R'.unlock (keep bt) s' g eu
            exact ⟨ha, h σ' G2 _ s2 R2 bt⟩
          | rt u =>
            intro v σ' G' H' s' R' bt
            obtain ⟨ha, G2, s2, R2⟩ := R'.unlock (keep bt) s' g eu
            exact ⟨ha, h v σ' G2 _ s2 R2 bt⟩
    | _ => exact h.elim
/-- a made error of an own class, with one argument -/
theorem mk_own {X : Cx} {C : Addr} {bmB : List Value} {B newId initId : String} {x : Str} {e : Expr} {ta : TE} {p pos : Pos} (F : ExcBaseFacts B newId initId bmB) (q : PySem.W.excIn X.K C bmB newId = true) (gC : X.mg x = some (.ref C)) (kC : PySem.W.keepIn X.K (.ref C) = true)
    (r : Raises X (.ref C)) (hg : Gl X x) (he : PE X e ta) (hs : starEach [e] X.env = [(false, eval e X.env)]) (hdb : (x == ("__debug__" : Str)) = false) : L2N.PMk X (.Call (.Name x p) [e] [] pos) (fun σ H Q => ta σ H fun _ H1 => Q (.ref C) none H1) := by
  intro pins s σ H Q I h
  refine wpAny_Call_Name_kw (ld_glob I hg gC (PySem.W.callWith_K (h₀ := X.base) I.ok.mod.kin kC ?_ hs (by rfl)) hdb)
  rw [hs]
  show wpAny _ _ (spliced ((false, eval e X.env) :: backTo pos [])) _ _ s
  refine Calls.spliced_cons (thn (he.run pins s σ H _ I h) fun u s1 ⟨v, H1, I1, r1, q1⟩ => Calls.spliced_nil ⟨I1.kIn, ?_⟩)
  show wpAny _ _ (call (.ref C) [u]) _ _ _
  obtain ⟨_, _, _, _, _, _, _, _, _, _, _, _, _, _, _, _, _, hC, hN, hni, T⟩ := exc_obj I1.kIn q
  exact wpAny_call_exc_subT F T hC hN hni (fun h' e hm => L2N.mk_of I1 hm r q1 (I1.hok.gone hm.new)) (by show 1 ≤ sizeLine; rw [sizeLine_eq]; omega)
theorem t_raise {n : Str} {e : E} : SS Φ (.raise n e) := fun {c W X} ok st hc => by
  simp only [ckS] at hc
  split at hc
  case h_2 => cases hc
  rename_i x px a q p
  simp only [Bool.and_eq_true, decide_eq_true_eq] at hc
  obtain ⟨⟨⟨⟨⟨rfl, g1⟩, g2⟩, g3⟩, g4⟩, g5⟩ := hc
  obtain ⟨k, room, fns⟩ := ok.mod
  obtain ⟨C, m1, m2, m3, m4, m5⟩ := fns.ex x g3
  refine (L2N.ps_raise ok.calm ok.tk (mk_own PySem.F.excBase_ValueError m2 m1 m3 (raises_own m4 m5) (ok.scp.gl x g1) (sE Φ e ok.toXOk g4).1 (star1 g5 _ _) (noDbg_split g2).1)).weak fun D σ H ⟨G, ρ, τ, R, h⟩ => ?_
  unfold exS at h
  rw [wpR_bind] at h
  exact tO.step R h (fun x ρ1 p => p.ex (Same.refl _) (.refl _) (.refl _ _)) fun o ρ1 v G1 H1 p s1 R1 _ => p _ none σ G1 H1 ⟨m1, .inl ⟨rfl, rfl⟩⟩ s1 (R1.sub (Opd.sub _ _ _)) (.refl _ _)

/-! ### try -/
theorem XS.tr {W W' : WX} {c : Ctx} {X : Cx} (ok : XS Φ W c X) {pn : List (Addr × Obj)} {xe : Value → Shared → Prop} (tk : L2N.Takes (X.tr pn xe) W') (ps : PassesOwn (model X.prog X.w) X.A X.env xe) : XS Φ W' c (X.tr pn xe) :=
  ⟨⟨ok.hN, ok.nd, ⟨ok.scp.vis, ok.scp.gl, ok.scp.loc, ok.scp.free⟩, ok.calm, ok.hu, tk, air_def (X := X.tr pn xe) ok.stk ok.frm tk, ok.mod⟩, ok.scE, ok.kd, ps, ok.stk, ok.frm⟩
theorem cst_pe {X : Cx} {d : D} {e : Expr} (h : ckCst d e = true) : ∃ v, scV d = some v ∧ PE X e (tC v) := by
  cases e <;> try (cases d <;> simp only [ckCst] at h <;> contradiction)
  case Constant v k p =>
    cases d <;> cases v <;> simp only [ckCst] at h <;> try contradiction
    · exact ⟨_, rfl, pe_non⟩
    · have := beq_iff_eq.mp h; subst this; exact ⟨_, rfl, pe_bl⟩
    · have := of_decide_eq_true h; subst this; exact ⟨_, rfl, pe_int⟩
    · have := of_decide_eq_true h; subst this; exact ⟨_, rfl, pe_str⟩
theorem names_of {X : Cx} {h : Str} {c : Value} (hg : Gl X h) (hd : noDbg h = true) (hc : clsOf X.mg h = some c) : Names X h c := by
  refine ⟨hg, (noDbg_split hd).1, ?_⟩
  unfold clsOf at hc
  cases e : X.mg h with
  | some c' => rw [e] at hc; cases hc; exact .inl rfl
  | none => rw [e] at hc; exact .inr ⟨rfl, hc, (noDbg_split hd).2.2⟩
theorem hds_of {W : WX} {c : Ctx} {X : Cx} (ok : XS Φ W c X) : ∀ {hs : List (Str × D)} {hds : List ExceptHandler}, ckHs c hs hds = true → ∃ l : List (Value × (Addr → Value → Option Addr → TS)), L2N.HdsOk X hds l ∧
    ∀ {D : Ends} {ls : List Nat} {G : Hp} {τ : List (V × T)} {σ : St} {x : Ex} {ρ : Rho}, wpR (catchR Φ.sub x ρ hs) (FlP D ls G τ σ) (SxP X W ls G τ σ) → SxP X (wMany X.K W D l) ls G τ σ x ρ
  | [], [], _ => ⟨[], .nil, fun p => p⟩
  | (h, d) :: r, hd :: hds, hc => by
    match hd, hc with
    | .ExceptHandler (some (.Name x np)) none [.Return (some e) rp] pp, hc =>
      simp only [ckHs, Bool.and_eq_true, decide_eq_true_eq] at hc
      obtain ⟨⟨⟨⟨⟨rfl, g1⟩, g2⟩, g3⟩, g4⟩, g5⟩ := hc
      obtain ⟨l, hl, hw⟩ := hds_of ok g5
      obtain ⟨k, room, fns⟩ := ok.mod
      obtain ⟨cv, hcv⟩ := fns.hd x g3
      obtain ⟨v, ev, _⟩ := cst_pe (X := X) g4
      refine ⟨(cv, fun _ _ _ => tRet (tC v)) :: l, .cons (names_of (ok.scp.gl x g1) g2 hcv) (fun a oe cls dd pn _ _ => ?_) hl, fun {D ls G τ σ y ρ} p => ?_⟩
      · obtain ⟨v', ev', pe⟩ := cst_pe (X := X.suite a ((a, oe) :: pn)) g4
        rw [ev] at ev'
        cases ev'
        exact pss_one (ps_ret pe)
      · intro cls dd σ' G' H' ex s1 R1 b1
        unfold catchR at p
        cases es : Φ.sub y.c x with
        | none => rw [es] at p; exact p.elim
        | some b =>
          rw [es] at p
          refine ⟨b, fns.sb _ _ _ _ _ es ex.1 hcv, fun eb a _ => ?_, fun eb => ?_⟩
          · subst eb
            exact p v σ' G' H' s1 (R1.addFz (scV_rq ev G')) b1
          · subst eb
            exact hw p cls dd σ' G' H' ex s1 R1 b1
  | [], _ :: _, hc => by simp [ckHs] at hc
  | _ :: _, [], hc => by simp [ckHs] at hc
theorem t_tryR {b : Ss} {hs : List (Str × D)} (hb : SSs Φ b) : SS Φ (.tryR b hs) := fun {c W X} ok st hc => by
  simp only [ckS] at hc
  split at hc
  case h_2 => cases hc
  rename_i x h₀ hds p
  simp only [Bool.and_eq_true] at hc
  obtain ⟨l, hl, hw⟩ := hds_of ok hc.2
  refine (L2N.ps_try_many (tb := fun W' => tS X W' b.sets (exSs Φ b)) ok.stk ok.frm ok.tk (fun W' pn xe tk ps => hb (ok.tr tk ps) hc.1) hl).weak fun D σ H ⟨G, ρ, τ, R, h⟩ => ?_
  refine ⟨G, ρ, τ, R, ?_⟩
  unfold exS at h
  cases e : exSs Φ b ρ with
  | no => rw [e] at h; exact h
  | ok fl ρ1 => rw [e] at h; exact h
  | exc y ρ1 => rw [e] at h; exact hw h
theorem t_tryT {b : Ss} {h1 h2 : Str} {d : D} (hb : SSs Φ b) : SS Φ (.tryT b h1 h2 d) := fun {c W X} ok st hc => by
  simp only [ckS] at hc
  split at hc
  case h_2 => cases hc
  simp only [Bool.and_eq_true, decide_eq_true_eq] at hc
  obtain ⟨⟨⟨⟨⟨⟨⟨⟨⟨g0, rfl⟩, g1⟩, g2⟩, g3⟩, rfl⟩, g4⟩, g5⟩, g6⟩, g7⟩ := hc
  obtain ⟨k, room, fns⟩ := ok.mod
  obtain ⟨cv1, hc1⟩ := fns.hd _ g3
  obtain ⟨cv2, hc2⟩ := fns.hd _ g6
  obtain ⟨v, ev, _⟩ := cst_pe (X := X) g7
  refine (L2N.try_two (tb := fun W' => tS X W' b.sets (exSs Φ b)) (ts := fun _ _ _ => tRet (tC v)) ok.stk ok.frm ok.tk (fun W' pn xe tk ps => hb (ok.tr tk ps) g0) (names_of (ok.scp.gl _ g1) g2 hc1) (names_of (ok.scp.gl _ g4) g5 hc2) (fun a oe cls dd pn _ _ => ?_)).weak fun D σ H ⟨G, ρ, τ, R, h⟩ => ?_
  · obtain ⟨v', ev', pe⟩ := cst_pe (X := X.suite a ((a, oe) :: pn)) g7
    rw [ev] at ev'
    cases ev'
    exact pss_one (ps_ret pe)
  · refine ⟨G, ρ, τ, R, ?_⟩
    unfold exS at h
    cases e : exSs Φ b ρ with
    | no => rw [e] at h; exact h
    | ok fl ρ1 => rw [e] at h; exact h
    | exc y ρ1 =>
      rw [e] at h
      have h : wpR (catchT Φ.sub y ρ1 _ _ d) _ _ := h
      intro cls dd σ' G' H' ex s1 R1 b1
      unfold catchT at h
      split at h
      case h_2 => exact h.elim
      rename_i b2 b3 e2 e3
      have m2 := fns.sb _ _ _ _ _ e2 ex.1 hc1
      have m3 := fns.sb _ _ _ _ _ e3 ex.1 hc2
      refine ⟨b2 || (b3 || false), by simp only [PySem.W.exmAny, m2, m3], fun eb a _ => ?_, fun eb => ?_⟩
      · rw [if_pos eb] at h
        exact h v σ' G' H' s1 (R1.addFz (scV_rq ev G')) b1
      · rw [if_neg (by rw [eb]; exact Bool.false_ne_true)] at h
        exact h cls dd σ' G' H' ex s1 R1 b1
end
end L2.Eng

/-! EngG4: an error handed on to a def; every statement. -/
namespace L2.Eng
open PySem PySem.Spec PyProof.Rows
section
variable {Φ : Fx} {W : WX} {c : Ctx} {X : Cx}
def tHot (Φ : Fx) (mg : Str → Option Value) (f : Str) (i : Nat) (a : Addr) (cls : Value) (dd : Option Addr) : TE := fun σ H Q => dd = none ∧ ∃ x d, mg x = some cls ∧ Φ.hot f x = some d ∧ σ[i]? = some (some (.ref a)) ∧ ∀ v H', scV d = some v → Same H H' → Q v H'
theorem d_hot (ok : XS Φ W c X) {f n : Str} {i : Nat} {a : Addr} {oe : Obj} {cls : Value} {dd : Option Addr} {pn : List (Addr × Obj)} {p p2 pos : Pos} (hg : Gl X f) (hd : noDbg f = true) (hN : X.N[i]? = some n) (hn : noDbg n = true) (hl : X.env.scope.names.lookup n = some .local)
    (hz : L2N.Zn cls dd oe) (hf : ∃ vs, oe.data = .fields vs) : PE (X.suite a ((a, oe) :: pn)) (.Call (.Name f p) [.Name n p2] [] pos) (tHot Φ X.mg f i a cls dd) := by
  refine ⟨fun pins s σ H Q I ⟨hdd, x, d, hx, hh, hs, q⟩ => ?_⟩
  subst hdd
  obtain ⟨k, room, fns⟩ := ok.mod
  obtain ⟨fa, fd, ps, cls', m1, m2, kp, hb, F⟩ := fns.hot f x d hh
  rw [hx] at m2
  cases m2
  have hv : PE (X.suite a ((a, oe) :: pn)) (.Name n p2) (tVar i) := pe_var (X := X.suite a ((a, oe) :: pn)) hN (.inl hl) (noDbg_split hn).1 (noDbg_split hn).2.1
  refine wpAny_Call_Name_kw (ld_glob I hg m1 ?_ (noDbg_split hd).1)
  refine PySem.W.callWith_K (h₀ := X.base) I.ok.mod.kin kp (thn ((pa_cons hv pa_nil).run pos pins s σ H (fun vs H1 => vs = [V.ref a] ∧ H = H1) I ⟨_, hs, rfl, rfl⟩) fun us s1 ⟨vs, H1, I1, r, e1, e2⟩ => ⟨I1.kIn, ?_⟩) (by rfl) (by rfl)
  subst e1 e2
  have eu : us = [Value.ref a] := by
    cases r with
    | cons ru rr =>
      cases rr
      cases ru
      rfl
  subst eu
  have b := hb s1 [Value.ref a] I1.kIn (by rw [F.len]; rfl)
  rw [List.append_nil] at b
  have P1 := I1.pin (a, oe) (List.mem_append_left _ List.mem_cons_self)
  have hpin : L2H.PinOk (X.suite a ((a, oe) :: pn)).stack H s1 (a, oe) := ⟨P1.1, P1.2.1, fun hm => (List.mem_cons.mp (I1.stkSub a hm)).elim P1.2.2.1 P1.2.2.2.1, P1.2.2.2.2⟩
  obtain ⟨fv, hfv⟩ := hf
  have hot : L2H.Hot1 (X.suite a ((a, oe) :: pn)).A (a, oe) := ⟨rfl, fv, hfv, hz.2.2 fv hfv⟩
  have rh : L2H.RoomH k (X.suite a ((a, oe) :: pn)).A := ⟨room.dp, room.un⟩
  refine wpAny_call (codeAny_mono (F.run _ (X.suite a ((a, oe) :: pn)).stack s1 H ⟨[Value.ref a], []⟩ Q (a, oe) rh hot hz.zc hpin I1.env0 b q) fun r s' hq => ?_)
  cases r with
  | error e =>
    obtain ⟨_, _, _, _, _, _, _, _, _, _, _, _, z⟩ := hq
    exact z.elim
  | ok fl =>
    cases fl with
    | ret u => exact I1.after hq
    | next => exact False.elim hq
    | brk => exact False.elim hq
    | cont => exact False.elim hq
theorem Rel.ext {G H H' : Hp} {ρ : Rho} {τ : List (V × T)} {σ : St} (R : Rel G ρ τ σ H) (s : Same H H') : Rel G ρ τ σ H' :=
  ⟨R.same.trans s, R.slots, R.held.move (Same.refl _) (fun _ g _ => g) fun a ne => by
    cases e : H a with
    | none => exact absurd e ne
    | some u => exact s _ _ e⟩
theorem t_tryC {b : Ss} {h f : Str} {i : Nat} (hb : SSs Φ b) : SS Φ (.tryC b h i f) := fun {c W X} ok st hc => by
  simp only [ckS] at hc
  split at hc
  case h_2 => cases hc
  rename_i x n np m g gp z zp cp rp hp pp
  simp only [Bool.and_eq_true, decide_eq_true_eq] at hc
  obtain ⟨⟨⟨⟨⟨⟨⟨⟨⟨⟨⟨g1, rfl⟩, g3⟩, g4⟩, g5⟩, g6⟩, g7⟩, rfl⟩, g9⟩, g10⟩, rfl⟩, g12⟩ := hc
  obtain ⟨k, room, fns⟩ := ok.mod
  obtain ⟨cv, hcv⟩ := fns.hd n g5
  have hN : X.N.Nodup := by rw [ok.hN]; exact ok.nd
  have hi : X.N[i]? = some z := by rw [ok.hN]; exact g6
  have hl : X.env.scope.names.lookup z = some .local := by rw [ok.scE]; exact of_decide_eq_true g7
  have ilt : i < X.N.length := (List.getElem?_eq_some_iff.mp hi).1
  refine (L2N.ps_try_as (tb := fun W' => tS X W' b.sets (exSs Φ b)) (ts := fun a cls dd => tRet (tHot Φ X.mg g i a cls dd)) ok.stk ok.frm hN hi hl (names_of (ok.scp.gl n g3) g4 hcv) ok.tk (fun W' pn xe tk ps => hb (ok.tr tk ps) g1)
    (fun a oe cls dd pn hz hf => pss_one (ps_ret (d_hot ok (ok.scp.gl g g9) g10 hi g12 hl hz hf)))).weakL fun D σ H hlen ⟨G, ρ, τ, R, h⟩ => ?_
  refine ⟨G, ρ, τ, R, ?_⟩
  unfold exS at h
  have m1 : ∀ j ∈ b.sets, j ∈ (S.tryC b n i g).sets := fun j hj => List.mem_cons_of_mem _ hj
  cases e : exSs Φ b ρ with
  | no => rw [e] at h; exact h
  | ok fl ρ1 => rw [e] at h; exact FlP.move h (Same.refl _) (.refl _) (.refl _ _) m1
  | exc y ρ1 =>
    rw [e] at h
    unfold catchC at h
    simp only at h
    intro cls dd σ' G' H' ex s1 R1 b1
    cases es : Φ.sub y.c n with
    | none => rw [es] at h; exact h.elim
    | some bb =>
      rw [es] at h
      refine ⟨bb, fns.sb _ _ _ _ _ es ex.1 hcv, fun eb a na => ?_, fun eb => ?_⟩
      · subst eb
        simp only at h
        split at h
        case h_2 => exact h.elim
        rename_i d eh ef
        refine ⟨?_, y.c, d, ex.1, eh, List.getElem?_set_self (by rw [b1.1, hlen]; exact ilt), fun v H2 ev s2 => ?_⟩
        · rcases ex.2 with ⟨_, q⟩ | ⟨_, _, _, _, q, _⟩
          · exact q
          · rw [ef] at q; cases q
        · exact h v σ' G' H2 s1 (((R1.wipe i).ext s2).addFz (scV_rq ev G')) (b1.mono m1)
      · subst eb
        exact SxP.move h (Same.refl _) (.refl _) (.refl _ _) m1 cls dd σ' G' H' ex s1 R1 b1
def tIsx (Φ : Fx) (mg : Str → Option Value) (c : Str) (i : Nat) (a : Addr) (cls : Value) (dd : Option Addr) : TE := fun σ H Q => dd = none ∧ ∃ x b, mg x = some cls ∧ Φ.isx x c = some b ∧ σ[i]? = some (some (.ref a)) ∧ Q (.bl b) H
theorem d_isx (ok : XS Φ W c X) {y n : Str} {i : Nat} {a : Addr} {oe : Obj} {cls : Value} {dd : Option Addr} {pn : List (Addr × Obj)} {p0 p1 p2 pos : Pos} (hg : Gl X "isinstance") (hy : Gl X y) (hd : noDbg y = true) (hN : X.N[i]? = some n) (hn : noDbg n = true) (hl : X.env.scope.names.lookup n = some .local)
    (hz : L2N.Zn cls dd oe) (hf : ∃ vs, oe.data = .fields vs) : PE (X.suite a ((a, oe) :: pn)) (.Call (.Name "isinstance" p0) [.Name n p1, .Name y p2] [] pos) (tIsx Φ X.mg y i a cls dd) := by
  refine ⟨fun pins s σ H Q I ⟨hdd, x, b, hx, hh, hs, q⟩ => ?_⟩
  subst hdd
  obtain ⟨k, room, fns⟩ := ok.mod
  obtain ⟨m0, D, cc, cv, m1, eC, hc, hr, hu, hk⟩ := fns.ix x y b hh
  rw [hx] at m1
  cases m1
  have hv : PE (X.suite a ((a, oe) :: pn)) (.Name n p1) (tVar i) := pe_var (X := X.suite a ((a, oe) :: pn)) hN (.inl hl) (noDbg_split hn).1 (noDbg_split hn).2.1
  have hst : ∀ z ∈ [(.Name n p1 : Expr), .Name y p2], noStar z = true := fun z hz => by
    simp only [List.mem_cons, List.not_mem_nil, or_false] at hz
    rcases hz with rfl | rfl <;> rfl
  have pc : PE (X.suite a ((a, oe) :: pn)) (.Name y p2) (tC cc) := by
    unfold clsOf at hc
    cases e : X.mg y with
    | some c' =>
      rw [e] at hc
      cases hc
      exact pe_glob (X := X.suite a ((a, oe) :: pn)) hy e hr (noDbg_split hd).1
    | none =>
      rw [e] at hc
      exact pe_bltn (X := X.suite a ((a, oe) :: pn)) hy e hc hr (noDbg_split hd).2.2 (noDbg_split hd).1
  exact (pe_val (X := X.suite a ((a, oe) :: pn)) (.inl ⟨_, rfl⟩) (call_isE eC hz.zc hf) hg m0 PyProof.Rows.boot_isinstance (pa_cons hv (pa_cons pc pa_nil (star1 rfl _ _)) (star1 rfl _ _)) (by decide) (by decide) hst).run pins s σ H Q I ⟨_, hs, cc, cv, b, rfl, hu, hk, q⟩
theorem isx1_of (ok : XS Φ W c X) {m c1 : Str} {e : Expr} (h : ckIx1 c m c1 e = true) {i : Nat} {a : Addr} {oe : Obj} {cls : Value} {dd : Option Addr} {pn : List (Addr × Obj)} (hN : X.N[i]? = some m) (hl : X.env.scope.names.lookup m = some .local)
    (hz : L2N.Zn cls dd oe) (hf : ∃ vs, oe.data = .fields vs) : PE (X.suite a ((a, oe) :: pn)) e (tIsx Φ X.mg c1 i a cls dd) := by
  unfold ckIx1 at h
  split at h
  case h_2 => cases h
  simp only [Bool.and_eq_true, decide_eq_true_eq] at h
  obtain ⟨⟨⟨⟨⟨⟨rfl, k2⟩, rfl⟩, k4⟩, rfl⟩, k6⟩, k7⟩ := h
  exact d_isx ok (ok.scp.gl _ k2) (ok.scp.gl _ k6) k7 hN k4 hl hz hf
theorem isx_of (ok : XS Φ W c X) {m c1 c2 : Str} {e : Expr} (h : ckIx c m c1 c2 e = true) {i : Nat} {a : Addr} {oe : Obj} {cls : Value} {dd : Option Addr} {pn : List (Addr × Obj)} (hN : X.N[i]? = some m) (hl : X.env.scope.names.lookup m = some .local)
    (hz : L2N.Zn cls dd oe) (hf : ∃ vs, oe.data = .fields vs) : PE (X.suite a ((a, oe) :: pn)) e (tAndV (tIsx Φ X.mg c1 i a cls dd) (tIsx Φ X.mg c2 i a cls dd)) := by
  unfold ckIx at h
  split at h
  case h_2 => cases h
  obtain ⟨h1, h2⟩ := Bool.and_eq_true_iff.mp h
  exact pe_and (isx1_of ok h1 hN hl hz hf) (pe_one (isx1_of ok h2 hN hl hz hf))
theorem t_tryI {b : Ss} {h c1 c2 : Str} {i : Nat} (hb : SSs Φ b) : SS Φ (.tryI b h i c1 c2) := fun {c W X} ok st hc => by
  simp only [ckS] at hc
  split at hc
  case h_2 => cases hc
  rename_i x n np m e rp hp pp
  simp only [Bool.and_eq_true, decide_eq_true_eq] at hc
  obtain ⟨⟨⟨⟨⟨⟨⟨k1, rfl⟩, k3⟩, k4⟩, k5⟩, k6⟩, k7⟩, k8⟩ := hc
  obtain ⟨k, room, fns⟩ := ok.mod
  obtain ⟨cv, hcv⟩ := fns.hd n k5
  have hN : X.N.Nodup := by rw [ok.hN]; exact ok.nd
  have hi : X.N[i]? = some m := by rw [ok.hN]; exact k6
  have hl : X.env.scope.names.lookup m = some .local := by rw [ok.scE]; exact of_decide_eq_true k7
  have ilt : i < X.N.length := (List.getElem?_eq_some_iff.mp hi).1
  refine (L2N.ps_try_as (tb := fun W' => tS X W' b.sets (exSs Φ b)) (ts := fun a cls dd => tRet (tAndV (tIsx Φ X.mg c1 i a cls dd) (tIsx Φ X.mg c2 i a cls dd))) ok.stk ok.frm hN hi hl (names_of (ok.scp.gl n k3) k4 hcv) ok.tk (fun W' pn xe tk ps => hb (ok.tr tk ps) k1)
    (fun a oe cls dd pn hz hf => pss_one (ps_ret (isx_of ok k8 hi hl hz hf)))).weakL fun D σ H hlen ⟨G, ρ, τ, R, h⟩ => ?_
  refine ⟨G, ρ, τ, R, ?_⟩
  unfold exS at h
  have m1 : ∀ j ∈ b.sets, j ∈ (S.tryI b n i c1 c2).sets := fun j hj => List.mem_cons_of_mem _ hj
  cases e : exSs Φ b ρ with
  | no => rw [e] at h; exact h
  | ok fl ρ1 => rw [e] at h; exact FlP.move h (Same.refl _) (.refl _) (.refl _ _) m1
  | exc y ρ1 =>
    rw [e] at h
    unfold catchI at h
    simp only at h
    intro cls dd σ' G' H' ex s1 R1 b1
    cases es : Φ.sub y.c n with
    | none => rw [es] at h; exact h.elim
    | some bb =>
      rw [es] at h
      refine ⟨bb, fns.sb _ _ _ _ _ es ex.1 hcv, fun eb a na => ?_, fun eb => ?_⟩
      · subst eb
        simp only at h
        split at h
        case h_2 => exact h.elim
        rename_i q1 q2 e1 e2 ef
        have en : dd = none := by
          rcases ex.2 with ⟨_, q⟩ | ⟨_, _, _, _, q, _⟩
          · exact q
          · rw [ef] at q; cases q
        have ev : (σ'.set i (some (.ref a)))[i]? = some (some (.ref a)) := List.getElem?_set_self (by rw [b1.1, hlen]; exact ilt)
        have last : ∀ q, q = (q1 && q2) → tRet (fun _ H Q => Q (V.bl q) H) D (σ'.set i (some (.ref a))) H' := fun q eq => by
          subst eq
          exact h (.bl (q1 && q2)) σ' G' H' s1 ((R1.wipe i).addFz (Rq.bl _)) (b1.mono m1)
        refine ⟨en, y.c, q1, ex.1, e1, ev, q1, rfl, ?_⟩
        cases q1 with
        | true =>
          rw [if_pos rfl]
          exact ⟨en, y.c, q2, ex.1, e2, ev, last q2 rfl⟩
        | false =>
          rw [if_neg Bool.false_ne_true]
          exact last false rfl
      · subst eb
        exact SxP.move h (Same.refl _) (.refl _) (.refl _ _) m1 cls dd σ' G' H' ex s1 R1 b1
end
section
variable (Φ : Fx)
mutual
theorem sS : ∀ s : S, SS Φ s
  | .set i e => t_set
  | .setF i e => t_setF
  | .setT is e => t_setT
  | .par i j a b => t_par
  | .sub i k e => t_sub
  | .dst i k e => t_dst
  | .ford s i b => t_ford (sSs b)
  | .expr e => t_expr
  | .ret e => t_ret
  | .retN => t_retN
  | .ifS c a b => t_if (sSs a) (sSs b)
  | .whl c b => t_whl (sSs b)
  | .for_ tg it b => t_for (sSs b)
  | .raise c e => t_raise
  | .tryR b hs => t_tryR (sSs b)
  | .tryT b h1 h2 d => t_tryT (sSs b)
  | .tryC b h i f => t_tryC (sSs b)
  | .tryI b h i c1 c2 => t_tryI (sSs b)
  | .pass => t_pass
  | .brk => t_brk
  | .cont => t_cont
theorem sSs : ∀ ss : Ss, SSs Φ ss
  | .nil => t_nil
  | .cons s ss => t_cons (sS s) (sSs ss)
end
end
end L2.Eng

/-! EngH: defs, by levels. -/
namespace L2.Eng
open PySem PySem.Spec PyProof.Rows

structure Fn where
  name : Str
  N : List Str
  np : Nat
  dfl : List D
  st : Nat
  body : Ss
def startR (n : Nat) (ts : List T) : Rho := ts.map some ++ List.replicate (n - ts.length) none
/-- the arguments as they stand behind the body -/
def backs (sets : List Nat) : Nat → List T → Rho → Option (List T)
  | _, [], _ => some []
  | j, .fz d :: r, ρ => (backs sets (j + 1) r ρ).map (.fz d :: ·)
  | j, _ :: r, ρ => if j ∈ sets then none else (slotT ρ j).bind fun u => (backs sets (j + 1) r ρ).map (u :: ·)
def endR (sets : List Nat) (ts : List T) : R Fl → CR
  | .ok (.rt t) ρ => match backs sets 0 ts ρ with
    | some us => .ok t us
    | none => .no
  | .ok .nx ρ => match backs sets 0 ts ρ with
    | some us => .ok (.fz .none) us
    | none => .no
  | .exc x ρ => match backs sets 0 ts ρ with
    | some us => .exc x us
    | none => .no
  | _ => .no
def runFn (Φ : Fx) (F : Fn) (ts : List T) : CR := if ts.length = F.np then endR F.body.sets ts (exSs Φ F.body (startR F.N.length ts)) else .no
def Fn.tab (Fs : List Fn) : List (Str × Fn) := Fs.map fun F => (F.name, F)
def lev (Fs : List Fn) (B : Fx) : Nat → Fx
  | 0 => { B with call := fun _ _ => .no, hot := fun _ _ => none }
  | k + 1 => { B with call := fun f ts => match (Fn.tab Fs).lookup f with
    | some F => runFn (lev Fs B k) F ts
    | none => .no }

theorem start_its : ∀ {vs : List V} {ts : List T} (m : Nat), vs.length = ts.length → SlotsOk (vs.map some ++ List.replicate m none) (ts.map some ++ List.replicate m none) ∧
    its (vs.map some ++ List.replicate m none) (ts.map some ++ List.replicate m none) = vs.zip ts
  | [], [], 0, _ => ⟨trivial, rfl⟩
  | [], [], m + 1, h => by
    obtain ⟨a, b⟩ := start_its (vs := []) (ts := []) m h
    exact ⟨a, b⟩
  | v :: vs, t :: ts, m, h => by
    obtain ⟨a, b⟩ := start_its (vs := vs) (ts := ts) m (by simpa using h)
    exact ⟨a, congrArg ((v, t) :: ·) b⟩
  | [], _ :: _, _, h => by simp at h
  | _ :: _, [], _, h => by simp at h
theorem slotT_other {ρ : Rho} {i j : Nat} (h : j ≠ i) (o : Option T) : slotT (ρ.set j o) i = slotT ρ i := by
  unfold slotT
  rw [List.getElem?_set_ne h]
theorem backs_other {sets : List Nat} : ∀ {ts : List T} {j i : Nat} {ρ : Rho} (o : Option T), i < j → backs sets j ts (ρ.set i o) = backs sets j ts ρ
  | [], _, _, _, _, _ => rfl
  | .fz d :: r, j, i, ρ, o, h => by
    unfold backs
    rw [backs_other o (Nat.lt_succ_of_lt h)]
  | .ol d :: r, j, i, ρ, o, h => by
    unfold backs
    rw [backs_other o (Nat.lt_succ_of_lt h), slotT_other (Nat.ne_of_lt h)]
  | .od bb d :: r, j, i, ρ, o, h => by
    unfold backs
    rw [backs_other o (Nat.lt_succ_of_lt h), slotT_other (Nat.ne_of_lt h)]
  | .lk bb d :: r, j, i, ρ, o, h => by
    unfold backs
    rw [backs_other o (Nat.lt_succ_of_lt h), slotT_other (Nat.ne_of_lt h)]
theorem back_rel {G G' H' : Hp} {σ' : St} {sets : List Nat} (sG : Same G G') : ∀ {ts : List T} {vs : List V} {j : Nat} {ρ : Rho} {τ : List (V × T)} {us : List T}, Rel G' ρ τ σ' H' →
    (∀ (i : Nat) (v : V) (d : D), vs[i]? = some v → ts[i]? = some (.fz d) → Rq G v d) → (∀ (i : Nat) (v : V), vs[i]? = some v → j + i ∉ sets → σ'[j + i]? = some (some v)) → vs.length = ts.length → backs sets j ts ρ = some us →
    us.length = ts.length ∧ ∃ ρ2, Rel G' ρ2 (vs.zip us ++ τ) σ' H'
  | [], [], j, ρ, τ, us, R, _, _, _, e => by
    cases e
    exact ⟨rfl, ρ, R⟩
  | .fz d :: r, v :: vs, j, ρ, τ, us, R, hf, hs, hl, e => by
    unfold backs at e
    cases q : backs sets (j + 1) r ρ with
    | none => rw [q] at e; cases e
    | some us1 =>
      rw [q] at e
      cases e
      obtain ⟨l, ρ2, R2⟩ := back_rel sG R (fun i v d a b => hf (i + 1) v d a b) (fun i v a b => by have := hs (i + 1) v a; rw [← Nat.add_assoc, Nat.add_right_comm] at this; exact this b) (by simpa using hl) q
      exact ⟨congrArg (· + 1) l, ρ2, R2.addFz ((hf 0 v d rfl rfl).mono sG)⟩
  | .ol ds :: r, v :: vs, j, ρ, τ, us, R, hf, hs, hl, e => by
    unfold backs at e
    split at e
    · cases e
    · next hj =>
      cases q0 : slotT ρ j with
      | none => rw [q0] at e; cases e
      | some u =>
        rw [q0] at e
        cases q : backs sets (j + 1) r ρ with
        | none => rw [q] at e; cases e
        | some us1 =>
          rw [q] at e
          cases e
          obtain ⟨w, ew, R1⟩ := R.out (slotT_some q0)
          have ev := hs 0 v rfl hj
          rw [Nat.add_zero, ew] at ev
          cases ev
          rw [← backs_other (i := j) none (Nat.lt_succ_self j)] at q
          obtain ⟨l, ρ2, R2⟩ := back_rel sG R1 (fun i v d a b => hf (i + 1) v d a b) (fun i v a b => by have := hs (i + 1) v a; rw [← Nat.add_assoc, Nat.add_right_comm] at this; exact this b) (by simpa using hl) q
          exact ⟨congrArg (· + 1) l, ρ2, R2.perm List.perm_middle⟩
  | .od bb ds :: r, v :: vs, j, ρ, τ, us, R, hf, hs, hl, e => by
    unfold backs at e
    split at e
    · cases e
    · next hj =>
      cases q0 : slotT ρ j with
      | none => rw [q0] at e; cases e
      | some u =>
        rw [q0] at e
        cases q : backs sets (j + 1) r ρ with
        | none => rw [q] at e; cases e
        | some us1 =>
          rw [q] at e
          cases e
          obtain ⟨w, ew, R1⟩ := R.out (slotT_some q0)
          have ev := hs 0 v rfl hj
          rw [Nat.add_zero, ew] at ev
          cases ev
          rw [← backs_other (i := j) none (Nat.lt_succ_self j)] at q
          obtain ⟨l, ρ2, R2⟩ := back_rel sG R1 (fun i v d a b => hf (i + 1) v d a b) (fun i v a b => by have := hs (i + 1) v a; rw [← Nat.add_assoc, Nat.add_right_comm] at this; exact this b) (by simpa using hl) q
          exact ⟨congrArg (· + 1) l, ρ2, R2.perm List.perm_middle⟩
  | .lk bb ds :: r, v :: vs, j, ρ, τ, us, R, hf, hs, hl, e => by
    unfold backs at e
    split at e
    · cases e
    · next hj =>
      cases q0 : slotT ρ j with
      | none => rw [q0] at e; cases e
      | some u =>
        rw [q0] at e
        cases q : backs sets (j + 1) r ρ with
        | none => rw [q] at e; cases e
        | some us1 =>
          rw [q] at e
          cases e
          obtain ⟨w, ew, R1⟩ := R.out (slotT_some q0)
          have ev := hs 0 v rfl hj
          rw [Nat.add_zero, ew] at ev
          cases ev
          rw [← backs_other (i := j) none (Nat.lt_succ_self j)] at q
          obtain ⟨l, ρ2, R2⟩ := back_rel sG R1 (fun i v d a b => hf (i + 1) v d a b) (fun i v a b => by have := hs (i + 1) v a; rw [← Nat.add_assoc, Nat.add_right_comm] at this; exact this b) (by simpa using hl) q
          exact ⟨congrArg (· + 1) l, ρ2, R2.perm List.perm_middle⟩
  | [], _ :: _, _, _, _, _, _, _, _, hl, _ => by simp at hl
  | _ :: _, [], _, _, _, _, _, _, _, hl, _ => by simp at hl
theorem zip_fz {G H : Hp} : ∀ {vs : List V} {ts : List T} {τ : List (V × T)}, Held G H (vs.zip ts ++ τ) → ∀ (i : Nat) (v : V) (d : D), vs[i]? = some v → ts[i]? = some (.fz d) → Rq G v d
  | v :: vs, t :: ts, τ, h, 0, w, d, a, b => by
    cases a
    cases b
    exact Held.fz (L := vs.zip ts ++ τ) h
  | v :: vs, t :: ts, τ, h, i + 1, w, d, a, b => zip_fz (vs := vs) (ts := ts) (τ := τ) (Held.tail (x := (v, t)) h) i w d a b
  | [], _, _, _, i, _, _, a, _ => by simp at a
  | _ :: _, [], _, _, i, _, _, _, b => by simp at b
section
variable {P : Program} {w : World} {K : PySem.W.Frag} {mg : Str → Option Value} {base : Heap} {tb : Tbl} {Φ Φ' : Fx} {k : Nat}
theorem startS_at {N : List Str} {vs : List V} {i : Nat} {v : V} (h : vs[i]? = some v) : (start N vs)[i]? = some (some v) := by
  have hi := (List.getElem?_eq_some_iff.mp h).1
  unfold start
  rw [List.getElem?_append_left (by simpa using hi), List.getElem?_map, h]
  rfl
/-- a def at one level, its callees at the level below -/
theorem fn_lev {F : Fn} {st : Stmt} {dvs : List V} {a : Addr} {fd : FuncData} (hF : FunD K F.name F.name (defArgs st) (defBody st) (defScope st) dvs [] a fd) (S : FnScope F.N (F.N.take F.np) (defScope st)) (hl : F.np ≤ F.N.length)
    (ck : ckSs ⟨F.N, defScope st, tb⟩ F.body (defBody st) = true) (hcall : ∀ ts, Φ'.call F.name ts = runFn Φ F ts) (IH : FnsOk Φ tb P w K mg base k) : FnOk P w K mg base (L2N.CX P w) (k + 1) a fd (F.N.take F.np) (spF Φ' K mg F.name F.np) := by
  refine hF.ok S (fun vs H Q E h => ?_) (fun cdv A outer s H vs Q E room h => ?_)
  · obtain ⟨G, ts, τ, _, _, l, _⟩ := h
    rw [l, List.length_take]
    omega
  · obtain ⟨G, ts, τ, s1, held, lv, lt, h⟩ := h
    let X := cxOf (L2N.CX P w) P w K mg base F.N F.name (defScope st) a cdv A outer s H E
    let W : WX := fun cls d _ H => E cls d H
    have xs : XS Φ W ⟨F.N, defScope st, tb⟩ X := by
      refine ⟨⟨rfl, S.nd, ⟨fun x hx => ?_, fun x hx => glbB_of hx, fun x hx => ?_, fun x hx => hx⟩, rfl, ?_, L2N.takes_of rfl rfl rfl rfl, air_def (X := X) rfl rfl (L2N.takes_of rfl rfl rfl rfl), ⟨k, room, IH⟩⟩, rfl, S.kind, passes_of rfl, rfl, rfl⟩
      · obtain ⟨k, e, hk⟩ := visB_of hx
        rcases hk with rfl | rfl | rfl
        · exact .inl e
        · exact .inr (.inl e)
        · exact .inr (.inr e)
      · obtain ⟨k, e, hk⟩ := locB_of hx
        rcases hk with rfl | rfl
        · exact ⟨.inl e, .inl rfl⟩
        · exact ⟨.inr e, .inl rfl⟩
      · have := room.un
        show (A.deeper (envOfC F.name (defScope st) s.heap.objs.size a cdv)).units + 68 < cLine
        omega
    refine ⟨_, sSs Φ F.body xs ck, ?_⟩
    have ls : vs.length = ts.length := by omega
    obtain ⟨so, si⟩ := start_its (vs := vs) (ts := ts) (F.N.length - vs.length) ls
    have R0 : Rel G (startR F.N.length ts) τ (start F.N vs) H := by
      unfold startR
      rw [← ls]
      refine ⟨s1, so, ?_⟩
      show Held G H (its (vs.map some ++ List.replicate (F.N.length - vs.length) none) (ts.map some ++ List.replicate (F.N.length - vs.length) none) ++ τ)
      rw [si]
      exact held
    have back : ∀ {ρ' : Rho} {σ' : St} {G' H' : Hp} {A : List (V × T)} {us : List T}, Same G G' → Rel G' ρ' (A ++ τ) σ' H' → But F.body.sets (start F.N vs) σ' → backs F.body.sets 0 ts ρ' = some us → us.length = F.np ∧ Held G' H' (A ++ (vs.zip us ++ τ)) := fun {ρ' σ' G' H' A us} sG R b e => by
      obtain ⟨l, ρ2, R2⟩ := back_rel (vs := vs) sG R (zip_fz held) (fun i v hv hn => by rw [Nat.zero_add] at hn ⊢; rw [b.2 i hn]; exact startS_at hv) ls e
      refine ⟨by omega, ?_⟩
      exact R2.held.right.perm (List.perm_append_comm_assoc _ _ _)
    refine ⟨G, _, τ, R0, ?_⟩
    rw [hcall] at h
    unfold runFn at h
    rw [if_pos lt] at h
    cases e : exSs Φ F.body (startR F.N.length ts) with
    | no => rw [e] at h; exact h
    | exc x ρ' =>
      rw [e] at h
      unfold endR at h
      intro cls d σ' G' H' ex sG R b
      cases eb : backs F.body.sets 0 ts ρ' with
      | none => simp only [eb] at h
      | some us =>
        simp only [eb] at h
        obtain ⟨l, hd⟩ := back (A := []) sG R b eb
        exact h l cls d G' H' ex sG R.same hd
    | ok fl ρ' =>
      rw [e] at h
      cases fl with
      | bk => exact h.elim
      | ct => exact h.elim
      | nx =>
        unfold endR at h
        intro σ' G' H' sG R b
        cases eb : backs F.body.sets 0 ts ρ' with
        | none => simp only [eb] at h
        | some us =>
          simp only [eb] at h
          obtain ⟨l, hd⟩ := back (A := []) sG R b eb
          exact h l .non G' H' sG R.same (hd.addFz .non)
      | rt t =>
        unfold endR at h
        intro v σ' G' H' sG R b
        cases eb : backs F.body.sets 0 ts ρ' with
        | none => simp only [eb] at h
        | some us =>
          simp only [eb] at h
          obtain ⟨l, hd⟩ := back (A := [(v, t)]) sG R b eb
          exact h l v G' H' sG R.same hd
end
end L2.Eng

/-! EngH2: what the top has left, the law's end. -/
namespace L2.Eng
open PySem PySem.Spec PyProof.Rows

/-- a program: its defs, numbers and texts, built-in names, error classes, names of except clauses, which class is under which -/
structure Pr where
  fs : List Fn
  gls : List (Str × D)
  bls : List Str
  excs : List Str
  hds : List Str
  subs : List (Str × Str × Bool)
  hts : List (Str × Nat)
  xf : List (PySem.W.Frag → Bool)
  isx : List (Str × Str × Bool)
def Pr.tb (p : Pr) : Tbl := ⟨p.fs.map fun F => (F.name, F.np, F.dfl), p.gls, p.bls, p.excs, p.hds⟩
def subOf (x h : Str) : List (Str × Str × Bool) → Option Bool
  | [] => none
  | (a, b, k) :: r => if a = x ∧ b = h then some k else subOf x h r
def Pr.fx (p : Pr) (fuel : Nat) (hot : Str → Str → Option D) : Fx := ⟨fun _ _ => .no, fuel, fun x h => subOf x h p.subs, hot, fun x c => subOf x c p.isx⟩
def dvOf : D → He.Dv
  | .none => .non
  | .bool b => .bl b
  | .int i => .int i
  | .str x => .str x
  | _ => .non
def Fn.ck (top : Nat → Stmt) (tb : Tbl) (F : Fn) : Bool :=
  C8.scC F.N (F.N.take F.np) (defScope (top F.st)) && decide (F.np ≤ F.N.length) && F.dfl.all flatD && decide (F.dfl.length ≤ F.np) && ckSs ⟨F.N, defScope (top F.st), tb⟩ F.body (defBody (top F.st))
def Fn.dd (top : Nat → Stmt) (F : Fn) : He.DefD := ⟨(F.name, none), F.name, F.name, defArgs (top F.st), defBody (top F.st), defScope (top F.st), F.dfl.map dvOf, []⟩
def htD (top : Nat → Stmt) (q : Str × Nat) : He.DefD := ⟨(q.1, none), q.1, q.1, defArgs (top q.2), defBody (top q.2), defScope (top q.2), [], []⟩
def Pr.dds (p : Pr) (top : Nat → Stmt) : List He.DefD := p.fs.map (Fn.dd top) ++ p.hts.map (htD top)
/-- how its parameters are bound -/
def Fn.bnd (top : Nat → Stmt) (F : Fn) : Prop := if F.dfl = [] then ∀ (kV doc pm : Value) (an : Option Addr) (cdv ct : Value) (us : List Value), us.length = F.np →
    bindArgs (PySem.W.fnOf F.name F.name (defArgs (top F.st)) (defBody (top F.st)) (defScope (top F.st)) .none kV doc pm an cdv ct) ⟨us, []⟩ = pure ((F.N.take F.np).zip us)
  else ∀ j, j ≤ F.dfl.length → ∀ (T : Addr) (kV doc pm : Value) (an : Option Addr) (cdv ct : Value) (us its : List Value), us.length = F.np - (F.dfl.length - j) → its.length = F.dfl.length →
      ∃ k, bindArgs (PySem.W.fnOf F.name F.name (defArgs (top F.st)) (defBody (top F.st)) (defScope (top F.st)) (.ref T) kV doc pm an cdv ct) ⟨us, []⟩ = seqItems? (.ref T) >>= k ∧ k (some its.toArray) = pure ((F.N.take F.np).zip (us ++ its.drop j))
def bndAll (top : Nat → Stmt) : List Fn → Prop
  | [] => True
  | F :: r => F.bnd top ∧ bndAll top r
theorem bndAll_mem {top : Nat → Stmt} : ∀ {fs : List Fn}, bndAll top fs → ∀ F ∈ fs, F.bnd top
  | F :: r, h, G, hG => by
    rcases List.mem_cons.mp hG with rfl | hG
    · exact h.1
    · exact bndAll_mem h.2 G hG

/-! ### facts -/
def glB (K : PySem.W.Frag) (q : Str × D) : Bool := match q.2 with
  | .int i => (He.Fa.int q.1 i).ok K
  | .str z => (He.Fa.str q.1 z).ok K
  | _ => false
def hdB (K : PySem.W.Frag) (h : Str) : Bool := (He.Fa.glo h).ok K || ((He.Fa.free h).ok K && (bootBuiltins h).isSome)
def subB (K : PySem.W.Frag) (q : Str × Str × Bool) : Bool := (He.Fa.glo q.1).ok K && (((He.Fa.glo q.2.1).ok K && (He.Fa.exm q.1 q.2.1 q.2.2).ok K) || ((He.Fa.free q.2.1).ok K && match bootBuiltins q.2.1 with
  | some c => decide (PySem.W.exmOne K (.ref (He.ga K q.1)) c = some q.2.2)
  | none => false))
def excB (K : PySem.W.Frag) (x : Str) : Bool := He.eqO (PySem.W.findIn K (.ref (He.ga K x)) "__getattribute__") (some (some (.builtin "BaseException.__getattribute__"))) && He.eqO (PySem.W.findIn K (.ref (He.ga K x)) "__getattr__") (some none) &&
  decide (PySem.W.subIn K (.ref (He.ga K x)) (.type "BaseException") = some true) && PySem.W.hasDictIn K (He.ga K x) && He.eqO (PySem.W.findIn K (.ref (He.ga K x)) "__class__") (some (some (.builtin "object.__class__"))) &&
  He.eqO (PySem.W.specialIn K (.builtin "object.__class__") "__get__") (some (some (.builtin "getset_descriptor.__get__"))) && decide (PySem.W.takesIn K (.builtin "object.__class__") = some true) && decide (PySem.W.mroIn K (He.ga K x) (.type "object") = some true)
theorem excB_ok {K : PySem.W.Frag} {x : Str} (h : excB K x = true) : ExcC K (He.ga K x) := by
  unfold excB at h
  simp only [Bool.and_eq_true, decide_eq_true_eq] at h
  obtain ⟨⟨⟨⟨⟨⟨⟨h1, h2⟩, h3⟩, h4⟩, h5⟩, h6⟩, h7⟩, h8⟩ := h
  exact ⟨He.eqO_ok h1, He.eqO_ok h2, h3, h4, He.eqO_ok h5, He.eqO_ok h6, h7, h8⟩
def isxB (K : PySem.W.Frag) (q : Str × Str × Bool) : Bool := (He.Fa.free "isinstance").ok K && (He.Fa.glo q.1).ok K && excB K q.1 && (((He.Fa.glo q.2.1).ok K && decide (PySem.W.kitOne K (.ref (He.ga K q.1)) (.ref (He.ga K q.2.1)) = some q.2.2)) || ((He.Fa.free q.2.1).ok K && match bootBuiltins q.2.1 with
  | some (.type c) => decide (PySem.W.kitOne K (.ref (He.ga K q.1)) (.type c) = some q.2.2)
  | _ => false))
def isIntV : Value → Bool
  | .int .. => true
  | _ => false
def intList (o : Obj) : Bool := match o with
  | ⟨.type c, _, .seq its _, _⟩ => decide (c = "list") && its.toList.all isIntV
  | _ => false
def noInts (K : PySem.W.Frag) : Bool := K.all fun p => !intList p.2
def Pr.facts (p : Pr) (K : PySem.W.Frag) : Bool := p.bls.all (fun x => (He.Fa.free x).ok K) && p.gls.all (glB K) && p.excs.all (fun x => (He.Fa.glo x).ok K && (He.Fa.exc x).ok K) && p.hds.all (hdB K) && p.subs.all (subB K) &&
  p.fs.all (fun F => (He.Fa.glo F.name).ok K) && noInts K && p.hts.all (fun q => (He.Fa.glo q.1).ok K) && p.xf.all (fun f => f K) && p.isx.all (isxB K)
def obsQ (p : Pr) (fn : List He.DefD) (K : PySem.W.Frag) : He.AlD := (p.facts K && fn.all fun d => d.ok K, fn.map fun d => He.fnW K d.at_)
def obsQG (n : Nat) (p : Pr) (fn : List He.DefD) (g : Addr → Option Obj) : He.AlD := obsQ p fn (He.frG g (He.asD g n))
def hookQ (n : Nat) (p : Pr) (fn : List He.DefD) : PySem.W.Hook where
  α := He.AlD
  obs := fun s => obsQG n p fn s.heap.get?
  val := fun _ => He.valD fn
  says := fun _ h => ∃ K : PySem.W.Frag, K.In h ∧ obsQ p fn K = He.valD fn
  of := fun _ _ e => ⟨_, He.frG_in, e⟩
  keeps := fun _ _ _ ⟨K, hK, c⟩ k => ⟨K, PySem.W.Frag.In.keeps hK k, c⟩
theorem obsQG_eq {n : Nat} {p : Pr} {fn : List He.DefD} {g : Addr → Option Obj} {s : Shared} (h : ∀ a, g a = s.heap.get? a) : obsQG n p fn g = (hookQ n p fn).obs s := by
  have e : g = s.heap.get? := funext h
  subst e
  rfl
theorem mem_lk {α β : Type} [BEq α] [LawfulBEq α] {a : α} {b : β} : ∀ {l : List (α × β)}, l.lookup a = some b → (a, b) ∈ l
  | (c, d) :: r, h => by
    have h1 : (match a == c with | true => some d | false => r.lookup a) = some b := h
    cases q : a == c with
    | true =>
      rw [q] at h1
      cases h1
      rw [beq_iff_eq.mp q]
      exact List.mem_cons_self ..
    | false =>
      rw [q] at h1
      exact List.mem_cons_of_mem _ (mem_lk h1)
structure PK (p : Pr) (top : Nat → Stmt) (K : PySem.W.Frag) : Prop where
  bl : ∀ x ∈ p.bls, (He.Fa.free x).ok K = true
  gl : ∀ q ∈ p.gls, glB K q = true
  ex : ∀ x ∈ p.excs, (He.Fa.glo x).ok K = true ∧ (He.Fa.exc x).ok K = true
  hd : ∀ h ∈ p.hds, hdB K h = true
  sb : ∀ q ∈ p.subs, subB K q = true
  fn : ∀ F ∈ p.fs, (He.Fa.glo F.name).ok K = true ∧ ∃ fd, FunD K F.name F.name (defArgs (top F.st)) (defBody (top F.st)) (defScope (top F.st)) ((F.dfl.map dvOf).map (He.Dv.v K)) [] (He.ga K F.name) fd
  ni : noInts K = true
  hf : ∀ q ∈ p.hts, (He.Fa.glo q.1).ok K = true ∧ ∃ fd, FunD K q.1 q.1 (defArgs (top q.2)) (defBody (top q.2)) (defScope (top q.2)) [] [] (He.ga K q.1) fd
  xf : ∀ f ∈ p.xf, f K = true
  ix : ∀ q ∈ p.isx, isxB K q = true
theorem pk_of {p : Pr} {top : Nat → Stmt} {K : PySem.W.Frag} (h : obsQ p (p.dds top) K = He.valD (p.dds top)) : PK p top K := by
  have h1 : (p.facts K && (p.dds top).all fun d => d.ok K) = true := congrArg (fun z : He.AlD => z.1) h
  have h2 : (p.dds top).map (fun d => He.fnW K d.at_) = (p.dds top).map He.DefD.val := congrArg (fun z : He.AlD => z.2) h
  obtain ⟨h1, hd⟩ := Bool.and_eq_true_iff.mp h1
  unfold Pr.facts at h1
  simp only [Bool.and_eq_true, List.all_eq_true] at h1 hd
  obtain ⟨⟨⟨⟨⟨⟨⟨⟨⟨a1, a2⟩, a3⟩, a4⟩, a5⟩, a6⟩, a7⟩, a8⟩, a9⟩, a10⟩ := h1
  have each : ∀ d ∈ p.dds top, ∃ fd, FunD K d.name d.qual d.params d.body d.scope (d.dvs K) (d.kws K) (He.fAd K d.at_) fd := fun d hm => by
    have e : He.fnW K d.at_ = d.val := by
      obtain ⟨i, hi⟩ := List.mem_iff_getElem?.mp hm
      have e3 := congrArg (fun l : List He.FnW => l[i]?) h2
      simp only [List.getElem?_map] at e3
      rw [hi] at e3
      exact Option.some.inj e3
    exact He.DefD.funD e (hd _ hm)
  exact ⟨a1, a2, a3, a4, a5, fun F hF => ⟨a6 F hF, each _ (List.mem_append_left _ (List.mem_map_of_mem hF))⟩, a7, fun q hq => ⟨a8 q hq, each _ (List.mem_append_right _ (List.mem_map_of_mem hq))⟩, a9, a10⟩
section
variable {p : Pr} {top : Nat → Stmt} {K : PySem.W.Frag} {h : Heap} {mg : Str → Option Value} {P : Program} {w : World} {base : Heap}
theorem hd_cls (X : K.In h) (G : h.Ns mainGlobals mg) {x : Str} (c : hdB K x = true) : ∃ v, clsOf mg x = some v := by
  unfold hdB at c
  rcases Bool.or_eq_true_iff.mp c with c | c
  · exact ⟨_, by unfold clsOf; rw [He.glo_ok X G c]⟩
  · obtain ⟨c1, c2⟩ := Bool.and_eq_true_iff.mp c
    obtain ⟨v, e⟩ := Option.isSome_iff_exists.mp c2
    exact ⟨v, by unfold clsOf; rw [He.free_ok X G c1]; exact e⟩
theorem sub_ok : ∀ {l : List (Str × Str × Bool)} {x h : Str} {b : Bool}, subOf x h l = some b → (x, h, b) ∈ l
  | (a, c, k) :: r, x, h, b, e => by
    unfold subOf at e
    split at e
    · next q =>
      obtain ⟨rfl, rfl⟩ := q
      cases e
      exact List.mem_cons_self ..
    · exact List.mem_cons_of_mem _ (sub_ok e)
theorem isx_ok (X : K.In h) (G : h.Ns mainGlobals mg) (k : PK p top K) {x c : Str} {b : Bool} (e : subOf x c p.isx = some b) : mg "isinstance" = none ∧ ∃ D cc cv, mg x = some (.ref D) ∧ ExcC K D ∧ clsOf mg c = some cv ∧ RelV cc cv ∧ (∀ u, RelV cc u → u = cv) ∧ PySem.W.kitOne K (.ref D) cv = some b := by
  have q := k.ix _ (sub_ok e)
  unfold isxB at q
  simp only [Bool.and_eq_true, Bool.or_eq_true] at q
  obtain ⟨⟨⟨q1, q2⟩, q3⟩, q4⟩ := q
  refine ⟨He.free_ok X G q1, He.ga K x, ?_⟩
  rcases q4 with ⟨q4, q5⟩ | ⟨q4, q5⟩
  · exact ⟨.ref (He.ga K c), .ref (He.ga K c), He.glo_ok X G q2, excB_ok q3, by unfold clsOf; rw [He.glo_ok X G q4], rfl, fun u r => r, of_decide_eq_true q5⟩
  · split at q5
    · next c' e' => exact ⟨.ty c', .type c', He.glo_ok X G q2, excB_ok q3, by unfold clsOf; rw [He.free_ok X G q4]; exact e', rfl, fun u r => r, of_decide_eq_true q5⟩
    · cases q5
theorem mem_tab {fs : List Fn} {f : Str} {F : Fn} (h : (Fn.tab fs).lookup f = some F) : F ∈ fs ∧ F.name = f := by
  have q := PySem.mem_of_lookup h
  obtain ⟨G, hG, e⟩ := List.mem_map.mp q
  cases e
  exact ⟨hG, rfl⟩
theorem tb_tab {fs : List Fn} {f : Str} {np : Nat} {dfl : List D} : (fs.map fun F => (F.name, F.np, F.dfl)).lookup f = some (np, dfl) → ∃ F, (Fn.tab fs).lookup f = some F ∧ F.np = np ∧ F.dfl = dfl := by
  induction fs with
  | nil => intro h; cases h
  | cons F r ih =>
    intro h
    have h1 : (match f == F.name with | true => some (F.np, F.dfl) | false => (r.map fun F => (F.name, F.np, F.dfl)).lookup f) = some (np, dfl) := h
    show ∃ F', (match f == F.name with | true => some F | false => (Fn.tab r).lookup f) = some F' ∧ _
    cases q : f == F.name with
    | true =>
      rw [q] at h1
      cases h1
      exact ⟨F, rfl, rfl, rfl⟩
    | false =>
      rw [q] at h1
      exact ih h1
theorem dv_sc {d : D} (h : flatD d = true) (K : PySem.W.Frag) : scV d = some (He.Dv.v K (dvOf d)) := by
  cases d <;> first | rfl | cases h
theorem dvs_pair (K : PySem.W.Frag) : ∀ {ds : List D}, ds.all flatD = true → Paired (fun z d => scV d = some z) ((ds.map dvOf).map (He.Dv.v K)) ds
  | [], _ => .nil
  | d :: ds, h => by
    rw [List.all_cons, Bool.and_eq_true] at h
    exact .cons (dv_sc h.1 K) (dvs_pair K h.2)
theorem fn_binds {F : Fn} {fd : FuncData} (hb : F.bnd top) (hf : F.dfl.all flatD = true) (hl : F.np ≤ F.N.length) (hd : F.dfl.length ≤ F.np) (hF : FunD K F.name F.name (defArgs (top F.st)) (defBody (top F.st)) (defScope (top F.st)) ((F.dfl.map dvOf).map (He.Dv.v K)) [] (He.ga K F.name) fd)
    (j : Nat) (hj : j ≤ F.dfl.length) : ∃ us zs, Paired (fun z d => scV d = some z) zs (F.dfl.drop j) ∧ Vals zs us ∧ Binds K fd (F.N.take F.np) us := by
  have lp : (F.N.take F.np).length = F.np := by rw [List.length_take]; omega
  unfold Fn.bnd at hb
  by_cases e : F.dfl = []
  · rw [if_pos e] at hb
    have hF' : FunD K F.name F.name (defArgs (top F.st)) (defBody (top F.st)) (defScope (top F.st)) [] [] (He.ga K F.name) fd := by
      rw [e] at hF
      exact hF
    refine ⟨[], [], by rw [e, List.drop_nil]; exact .nil, .nil, hF'.bindsN fun kV doc pm an cdv ct us hu => hb kV doc pm an cdv ct us (by omega)⟩
  · rw [if_neg e] at hb
    have ne : (F.dfl.map dvOf).map (He.Dv.v K) ≠ [] := by
      intro z
      apply e
      simpa using z
    have ll : ((F.dfl.map dvOf).map (He.Dv.v K)).length = F.dfl.length := by simp
    obtain ⟨us, hv, hB⟩ := hF.binds1 (ps := F.N.take F.np) (F.np - (F.dfl.length - j)) j ne (by rw [ll, lp]; omega) fun T kV doc pm an cdv ct us its h1 h2 => hb j hj T kV doc pm an cdv ct us its h1 (by rw [h2, ll])
    refine ⟨us, _, ?_, hv, hB⟩
    rw [← List.map_drop, ← List.map_drop]
    refine dvs_pair K ?_
    rw [List.all_eq_true] at hf ⊢
    exact fun d hd => hf d (List.mem_of_mem_drop hd)
/-- every level -/
theorem levels (ck : p.fs.all (Fn.ck top p.tb) = true) (hb : bndAll top p.fs) (k : PK p top K) (X : K.In h) (G : h.Ns mainGlobals mg) {fuel : Nat} {hot : Str → Str → Option D}
    (hh : ∀ n f x d, hot f x = some d → ∃ a fd ps cls, mg f = some (.ref a) ∧ mg x = some cls ∧ PySem.W.keepIn K (.ref a) = true ∧ Binds K fd ps [] ∧ FnX P w K mg base (n + 1) a fd ps cls d) :
    ∀ n, FnsOk (lev p.fs (p.fx fuel hot) n) p.tb P w K mg base n := by
  have cks := List.all_eq_true.mp ck
  have cls : ∀ F ∈ p.fs, FnScope F.N (F.N.take F.np) (defScope (top F.st)) ∧ F.np ≤ F.N.length ∧ F.dfl.all flatD = true ∧ F.dfl.length ≤ F.np ∧ ckSs ⟨F.N, defScope (top F.st), p.tb⟩ F.body (defBody (top F.st)) = true := fun F hF => by
    have c := cks F hF
    unfold Fn.ck at c
    simp only [Bool.and_eq_true, decide_eq_true_eq] at c
    obtain ⟨⟨⟨⟨c1, c2⟩, c3⟩, c4⟩, c5⟩ := c
    exact ⟨C8.fnScope_by c1, c2, c3, c4, c5⟩
  have gl : ∀ x d, p.gls.lookup x = some d → ∃ u, mg x = some u ∧ ∀ z, scV d = some z → RelV z u := fun x d e => by
    have c := k.gl _ (PySem.mem_of_lookup e)
    unfold glB at c
    cases d <;> simp only at c <;> try contradiction
    · obtain ⟨t, e⟩ := He.int_ok X G c
      exact ⟨_, e, fun z ez => by cases ez; exact ⟨t, rfl⟩⟩
    · obtain ⟨t, e⟩ := He.str_ok X G c
      exact ⟨_, e, fun z ez => by cases ez; exact ⟨t, rfl⟩⟩
  have sb : ∀ x h b cls c, subOf x h p.subs = some b → mg x = some cls → clsOf mg h = some c → PySem.W.exmOne K cls c = some b := fun x hh b cls c e e1 e2 => by
    have q := k.sb _ (sub_ok e)
    unfold subB at q
    obtain ⟨q1, q2⟩ := Bool.and_eq_true_iff.mp q
    rw [He.glo_ok X G q1] at e1
    cases e1
    unfold clsOf at e2
    rcases Bool.or_eq_true_iff.mp q2 with q2 | q2
    · obtain ⟨q3, q4⟩ := Bool.and_eq_true_iff.mp q2
      rw [He.glo_ok X G q3] at e2
      cases e2
      exact He.exm_ok q4
    · obtain ⟨q3, q4⟩ := Bool.and_eq_true_iff.mp q2
      rw [He.free_ok X G q3] at e2
      have e3 : bootBuiltins hh = some c := e2
      rw [e3] at q4
      exact of_decide_eq_true q4
  have ex : ∀ x, x ∈ p.excs → ∃ C, mg x = some (.ref C) ∧ PySem.W.excIn K C excMro "ValueError.__new__" = true ∧ PySem.W.keepIn K (.ref C) = true ∧ PySem.W.subIn K (.ref C) (.type "BaseException") = some true ∧ PySem.W.typeIn K (.ref C) = some (.type "type") := fun x hx => by
    obtain ⟨q1, q2⟩ := k.ex x hx
    obtain ⟨r1, r2, r3, r4⟩ := He.exc_ok q2
    exact ⟨_, He.glo_ok X G q1, r1, r2, r3, r4⟩
  have part : ∀ (Φ : Fx) (n : Nat), (∀ x h, Φ.sub x h = subOf x h p.subs) → (∀ x c, Φ.isx x c = subOf x c p.isx) → (∀ f x d, Φ.hot f x = some d → ∃ a fd ps cls, mg f = some (.ref a) ∧ mg x = some cls ∧ PySem.W.keepIn K (.ref a) = true ∧ Binds K fd ps [] ∧ FnX P w K mg base n a fd ps cls d) →
      (∀ F ∈ p.fs, (Fn.tab p.fs).lookup F.name = some F → ∀ fd, FunD K F.name F.name (defArgs (top F.st)) (defBody (top F.st)) (defScope (top F.st)) ((F.dfl.map dvOf).map (He.Dv.v K)) [] (He.ga K F.name) fd → FnOk P w K mg base (L2N.CX P w) n (He.ga K F.name) fd (F.N.take F.np) (spF Φ K mg F.name F.np)) →
      FnsOk Φ p.tb P w K mg base n := fun Φ n hsub hisx hhot hfn => by
    refine ⟨fun x hx => He.free_ok X G (k.bl x hx), gl, fun f np dfl hl => ?_, ex, fun x hx => hd_cls X G (k.hd x hx), fun x hh b cls c e => sb x hh b cls c (by rw [← hsub]; exact e), hhot, fun x c b e => isx_ok X G k (by rw [← hisx]; exact e)⟩
    obtain ⟨F, hl2, rfl, rfl⟩ := tb_tab hl
    obtain ⟨hF, rfl⟩ := mem_tab hl2
    obtain ⟨g1, fd, fD⟩ := k.fn F hF
    obtain ⟨_, c2, c3, c4, _⟩ := cls F hF
    exact ⟨_, fd, _, He.glo_ok X G g1, fD.kp, by rw [List.length_take]; omega, hfn F hF hl2 fd fD, fun j hj => fn_binds (bndAll_mem hb F hF) c3 c2 c4 fD j hj⟩
  intro n
  induction n with
  | zero =>
    refine part _ 0 (fun _ _ => rfl) (fun _ _ => rfl) (fun _ _ _ e => nomatch e) fun F hF _ fd fD => ?_
    refine ⟨fun vs H Q E q => ?_, fun A outer s H args us vs Q E _ _ _ _ q => ?_⟩
    · obtain ⟨_, _, _, _, _, _, _, q⟩ := q
      exact q.elim
    · obtain ⟨_, _, _, _, _, _, _, q⟩ := q
      exact q.elim
  | succ n ih =>
    refine part _ (n + 1) (fun _ _ => rfl) (fun _ _ => rfl) (fun f x d e => hh n f x d e) fun F hF hl fd fD => ?_
    obtain ⟨c1, c2, _, _, c5⟩ := cls F hF
    refine fn_lev fD c1 c2 c5 (fun ts => ?_) ih
    show (match (Fn.tab p.fs).lookup F.name with | some F => runFn (lev p.fs (p.fx fuel hot) n) F ts | none => .no) = _
    rw [hl]
theorem ints_rq (G : Hp) : ∀ ns : List Int, RqAll G (ns.map V.int) (ns.map PyData.int)
  | [] => .nil
  | n :: ns => .cons (.int n) (ints_rq G ns)
theorem noInts_at (c : noInts K = true) {a : Addr} {o : Obj} {its : Array Value} {n : Nat} {ns : List Int} (e : K.lookup a = some o) (h1 : o.cls = .type "list") (h2 : o.data = .seq its n) (r : Vals (ns.map V.int) its.toList) : False := by
  have q := List.all_eq_true.mp c (a, o) (mem_lk e)
  obtain ⟨oc, od, dt, sl⟩ := o
  dsimp only at h1 h2
  subst h1 h2
  have all : ∀ (ns : List Int) (us : List Value), Vals (ns.map V.int) us → us.all isIntV = true := by
    intro ns
    induction ns with
    | nil => intro us r; cases r; rfl
    | cons n ns ih =>
      intro us r
      cases r with
      | cons r1 r2 =>
        obtain ⟨t, rfl⟩ := r1
        rw [List.all_cons, ih _ r2]
        rfl
  have z : intList ⟨.type "list", od, .seq its n, sl⟩ = true := by
    show (decide ("list" = "list") && its.toList.all isIntV) = true
    rw [all ns _ r]
    rfl
  rw [z] at q
  cases q
end
/-- the law's end, over a head by facts -/
theorem law_end {l : PySem.W.OpenLaw} {q : Program} {loose : List Str} {XP : (Str → Option Value) → Heap → Prop} {d : DefRec} {p : Pr} {top : Nat → Stmt} {n N0 : Nat} {hot : Str → Str → Option D} {x : Str} (hn : l.most = some 63) (hdf : d.params.defaults = []) (hr : Room (n + 1) callerA)
    (hname : d.name = "law") (ck : p.fs.all (Fn.ck top p.tb) = true) (hb : bndAll top p.fs) (hx : ∃ F, (Fn.tab p.fs).lookup ("law" : Str) = some F ∧ F.np = 1 ∧ F.dfl = [] ∧ F.N.take 1 = [x])
    (hh : ∀ (w : World) (K : PySem.W.Frag) (h : Heap) (mg : Str → Option Value), PK p top K → K.In h → h.Ns mainGlobals mg → ∀ (base : Heap) n f x d, hot f x = some d → ∃ a fd ps cls, mg f = some (.ref a) ∧ mg x = some cls ∧ PySem.W.keepIn K (.ref a) = true ∧ Binds K fd ps [] ∧ FnX l.prog w K mg base (n + 1) a fd ps cls d)
    (plain : ∀ ns : List Int, ns.length ≤ 63 → ∃ fuel us, (lev p.fs (p.fx fuel hot) (n + 1)).call "law" [.fz (.list (ns.map PyData.int))] = .ok (.fz (.bool true)) us) :
    PySem.W.WalkO q loose XP (hookQ N0 p (p.dds top)).says l.row.toRowW d [] (fun f vs => PySem.call f vs) := by
  refine L2.walk_ofE (l := l) (n := 63) (k := n + 1) (x := x) (CX := fun outer H s E e s' => ∃ w, L2N.CX l.prog w outer H s E e s') hn (by decide) hdf hr ?_ ?_
  · intro w mg fa h Y G hmg
    obtain ⟨K, KX, hK⟩ := Y
    have pk := pk_of hK
    obtain ⟨F, hl, h1, h2, h3⟩ := hx
    obtain ⟨hF, hn'⟩ := mem_tab hl
    obtain ⟨g1, fd, fD⟩ := pk.fn F hF
    have e1 := He.glo_ok KX G g1
    rw [hn', ← hname, hmg] at e1
    cases e1
    have hbn : ∀ (s : Shared) (u : Value), BindsTo s fd ⟨[u], []⟩ [(x, u)] := by
      intro s u
      have b := bndAll_mem hb F hF
      unfold Fn.bnd at b
      rw [if_pos h2] at b
      obtain ⟨oc, od, dV, kV, doc, pm, an, cdv, ct, osl, rfl, _, _, hd, _⟩ := fD.ex
      rcases hd with ⟨_, rfl⟩ | ⟨ne, _⟩
      · have b1 := b kV doc pm an cdv ct [u] (by rw [h1]; rfl)
        rw [h1, h3] at b1
        exact .of_eq b1
      · exact absurd (by rw [h2]; rfl) ne
    refine ⟨K, fd, fun vs H Q E => ∃ fuel, spF (lev p.fs (p.fx fuel hot) (n + 1)) K mg "law" 1 vs H Q E, KX, hbn, fun H a ns hlen hO hS => ?_, fun base KB GB => ?_⟩
    · obtain ⟨fuel, us, e⟩ := plain ns hlen
      refine ⟨fuel, H, [.fz (.list (ns.map PyData.int))], [], Same.refl _, ?_, rfl, rfl, ?_⟩
      · have rq : Rq H (.ref a) (.list (ns.map PyData.int)) := by
          rcases hS with r | ⟨o, its, m, e1, e2, _, e3, _, r⟩
          · exact .lst r (ints_rq H ns)
          · exact (noInts_at pk.ni e1 e2 e3 r).elim
        exact ⟨_, .cons (.fz rq) .nil, List.nodup_nil⟩
      · rw [e]
        intro _ v G' H' _ _ hh
        exact hh.fz.vBl
    · have lv := fun fuel => levels (P := l.prog) (w := w) (base := base) (fuel := fuel) (hot := hot) ck hb pk KX G (fun n f x d e => hh w K h mg pk KX G base n f x d e) n
      have c := List.all_eq_true.mp ck F hF
      unfold Fn.ck at c
      simp only [Bool.and_eq_true, decide_eq_true_eq] at c
      obtain ⟨⟨⟨⟨c1, c2⟩, c3⟩, c4⟩, c5⟩ := c
      have one : ∀ fuel, FnOk l.prog w K mg base (L2N.CX l.prog w) (n + 1) (He.ga K F.name) fd (F.N.take F.np) (spF (lev p.fs (p.fx fuel hot) (n + 1)) K mg F.name F.np) := fun fuel => by
        refine fn_lev fD (C8.fnScope_by c1) c2 c5 (fun ts => ?_) (lv fuel)
        show (match (Fn.tab p.fs).lookup F.name with | some F => runFn (lev p.fs (p.fx fuel hot) n) F ts | none => .no) = _
        rw [hn', hl]
      rw [hn', h1, h3] at one
      refine ⟨fun vs H Q E ⟨fuel, h⟩ => (one fuel).len vs H Q E h, fun A outer s H args us vs Q E hr he hbb hv ⟨fuel, h⟩ => ?_⟩
      have ran := (one fuel).run A outer s H args us vs Q E hr he hbb hv h
      rw [show He.ga K ("law" : Str) = He.ga K d.name from by rw [hname]] at ran
      refine codeAny_mono ran fun r s' hq => ?_
      cases r with
      | ok fl => cases fl <;> exact hq
      | error e => exact ⟨w, hq⟩
  · rintro H s e s' ⟨w, _, _, _, _, _, _, _, _, _, _, _, _, z⟩
    exact z
end L2.Eng

/-! EngX1: a comprehension where an error is handled (turned from the hand layer's own comprehension rule). -/
namespace L2.Eng
open PySem PySem.Spec PyProof.Rows
section
variable {X : Cx}
/-- a comprehension's block that still bears the handled error -/
abbrev hblk (X : Cx) (p : Addr × Obj) (s : Shared) (H : Hp) (scope : Scope) (cenv : Env) (fp : List Addr) : Cx := { X.blk s H scope cenv fp with pn := [p] }
theorem hot_ok {X : Cx} {p : Addr × Obj} {s : Shared} {H : Hp} {scope : Scope} {cenv : Env} {fp : List Addr} (ok : (X.blk s H scope cenv fp).Ok) : (hblk X p s H scope cenv fp).Ok :=
  ⟨ok.mod, ok.kind, ok.glob, ok.blt, ok.above, ok.inj, ok.has, ok.cab, ok.hd, ok.frames, ok.stk, ok.exf, ok.bs, ok.bsz, ok.noex, ok.exfs, ok.funs, ok.frf⟩
theorem hot_start {pins : List (Addr × Obj)} {σ : St} {H : Hp} {s : Shared} {p : Addr × Obj} {scope : Scope} {own : List (Str × Nat)} {fp : List Addr} (hm : p ∈ X.pn) (I : Inv X pins σ H s) (ok : BlkOk X.N X.env.scope scope own) (hN : X.N.Nodup) (hfp : ∀ b ∈ fp, FpOk X pins H b ∧ b < s.heap.objs.size) :
    Inv (hblk X p s H scope (compEnvC scope (cellsFrom (s.heap.objs.size + 1) scope.names (cloFrom X.env.cells scope.names [])) s.heap.objs.size X.env) fp) [] (wipe σ (own.map (·.2))) H { s with heap := pushCells (s.heap.push { cls := .type "dict", data := .dict #[] }) scope.names } := by
  have J := block_start I ok hN hfp
  obtain ⟨e1, e2, e3, e4, e5⟩ := I.pin p (List.mem_append_left _ hm)
  refine ⟨hot_ok J.ok, J.os, J.bare, J.base, J.loc, J.cell, J.free, J.freeC, fun q hq => ?_, J.hok, J.len⟩
  have eq : q = p := by simpa using (show q ∈ [p] ++ ([] : List (Addr × Obj)) from hq)
  subst eq
  exact ⟨pushCells_keeps _ _ _ _ (Heap.get?_push_of_some _ e1), e2, Nat.ne_of_lt (Heap.lt_size e1), fun z => (List.mem_cons.mp (I.stkSub q.1 z)).elim e3 e4, e5⟩
theorem hot_core {pins : List (Addr × Obj)} {s : Shared} {σ : St} {H : Hp} {Q : VK} {elt tg iter : Expr} {ifs : List Expr} {scope : Scope} {own : List (Str × Nat)} {pos pos' : Pos} {wi : TI} {g : TG} {tt : TT} {te : TE} {use : Option (Value → Sem Unit)} {Qf : Value → Shared → Prop}
    {p : Addr × Obj} (hc : L2H.Hot1 X.A p) (hm : p ∈ X.pn) (hN : X.N.Nodup) (I : Inv X pins σ H s) (hi : L2H.PIH X tg iter wi) (ok : BlkOk X.N X.env.scope scope own)
    (hg : ∀ (s : Shared) (H : Hp) (C : Addr) (cl : List (Str × Addr)) (fp : List Addr), PG (hblk X p s H scope (compEnvC scope cl C X.env) fp) tg g) (ht : ∀ (s : Shared) (H : Hp) (C : Addr) (cl : List (Str × Addr)) (fp : List Addr), PTs (hblk X p s H scope (compEnvC scope cl C X.env) fp) ifs tt)
    (he : ∀ (s : Shared) (H : Hp) (C : Addr) (cl : List (Str × Addr)) (fp : List Addr), PE (hblk X p s H scope (compEnvC scope cl C X.env) fp) elt te) (hs : ∀ x, foldedSetIterable iter X.env x = pure x)
    (h : tLc wi g tt te (own.map (·.2)) σ H Q)
    (hRR : ∀ D C s' m H', Inv X pins σ H' s' → Q (.ref D) H' → s'.heap.Ns C m → FpOk X pins H' C → compPost (model X.prog X.w) X.A X.xe use Qf (.ref D) C (.ok .next) s') :
    wpAny (model X.prog X.w) X.A (comprehension (.ListComp elt [⟨tg, iter, ifs, 0⟩] scope pos) scope X.env pos' (newList []) false (eval iter X.env) use) Qf X.xe s := by
  have hclo : ∀ y ∈ scope.names, y.2 = .free → ∃ c, X.env.cells.lookup y.1 = some c := fun y hy e => by
    rcases ok.free y hy e with k | k
    · exact I.ok.has _ (.inl k)
    · exact I.ok.has _ (.inr k)
  refine wpAny_comprehension_free (use := use) rfl hs (closure_ok hclo) ok.kind (fun y hy e => by rw [ok.uniq y hy, e])
    (thn (hi.run pins s σ H _ I h) fun xv ub hx => thn hx fun itv uc h2 => ?_)
  obtain ⟨it, fp, tn, J, H2, e, Jc, T, sB, f2, q⟩ := h2
  subst e
  refine wpAny_newObj_type (newEnv_comp ?_) (by show 0 ≤ sizeLine; decide)
  generalize hD : uc.heap.objs.size = D
  have hDn : H2 D = none := Jc.hok.fresh (Nat.le_of_eq hD)
  obtain ⟨W, ⟨k0, v0⟩, round_⟩ := q D hDn
  -- the new list
  generalize hs3 : ({ uc with heap := uc.heap.push { cls := .type "list", data := .seq ([] : List Value).toArray } } : Shared) = ud
  have Jd : Inv X pins σ (upd H2 D (.lst [])) ud := by
    rw [← hs3]
    refine Jc.laid (t' := uc.toks) (fun b o e => Heap.get?_push_of_some _ e) (Nat.le_of_eq hD) ⟨Nat.zero_le _, [], 0, .nil, ?_⟩
    rw [← hD]
    exact Heap.get?_push_size _ rfl
  have h3 : ud.heap = uc.heap.push { cls := .type "list", data := .seq ([] : List Value).toArray } := by rw [← hs3]
  have small : ∀ b ∈ fp, b < uc.heap.objs.size := fun b hb => by
    obtain ⟨o, e, _⟩ := T.obj _ _ sB b hb
    exact Heap.lt_size e
  have f3 : ∀ b ∈ fp, FpOk X pins (upd H2 D (.lst [])) b ∧ b < ud.heap.objs.size := fun b hb => by
    have hlt := small b hb
    refine ⟨⟨?_, (f2 b hb).2⟩, by rw [h3, Heap.size_push]; exact Nat.lt_succ_of_lt hlt⟩
    rw [upd_ne (by rw [← hD]; exact Nat.ne_of_lt hlt)]
    exact (f2 b hb).1
  have sC : tn 0 ud.heap := T.keep _ _ _ sB fun b _ o e => by rw [h3]; exact Heap.get?_push_of_some _ e
  have Je := hot_start hm Jd ok hN f3
  have pg := hg ud (upd H2 D (.lst [])) ud.heap.objs.size (cellsFrom (ud.heap.objs.size + 1) scope.names (cloFrom X.env.cells scope.names [])) fp
  have pt := ht ud (upd H2 D (.lst [])) ud.heap.objs.size (cellsFrom (ud.heap.objs.size + 1) scope.names (cloFrom X.env.cells scope.names [])) fp
  have pe := he ud (upd H2 D (.lst [])) ud.heap.objs.size (cellsFrom (ud.heap.objs.size + 1) scope.names (cloFrom X.env.cells scope.names [])) fp
  show codeAny _ _ (.compStart (.ListComp elt [⟨tg, iter, ifs, 0⟩] scope pos) 0 (.ref it) (.ref D) (compEnvC scope (cellsFrom (ud.heap.objs.size + 1) scope.names (cloFrom X.env.cells scope.names [])) ud.heap.objs.size X.env)) (compPost (model X.prog X.w) X.A X.xe use Qf (.ref D) ud.heap.objs.size) { ud with heap := pushCells (ud.heap.push { cls := .type "dict", data := .dict #[] }) scope.names }
  have nowh : ∀ b ∈ fp, (upd H2 D (.lst [])) b = none := fun b hb => (f3 b hb).1.1
  generalize hcv : compEnvC scope (cellsFrom (ud.heap.objs.size + 1) scope.names (cloFrom X.env.cells scope.names [])) ud.heap.objs.size X.env = ce at Je pg pt pe ⊢
  have cL : ce.locals = ud.heap.objs.size := by subst hcv; rfl
  generalize hH3 : upd H2 D (.lst []) = H3 at Jd Je pg pt pe v0 nowh f3
  generalize hs4 : ({ ud with heap := pushCells (ud.heap.push { cls := .type "dict", data := .dict #[] }) scope.names } : Shared) = ue at Je ⊢
  have sD : tn 0 ue.heap := T.keep _ _ _ sC fun b _ o e => by rw [← hs4]; exact pushCells_keeps _ _ _ _ (Heap.get?_push_of_some _ e)
  have stays : ∀ {σ' : St} {H' : Hp} {s' : Shared}, Inv (hblk X p ud H3 scope ce fp) [] σ' H' s' → (∀ b ∈ fp, H' b = none) → ∀ b ∈ fp, FpOk (hblk X p ud H3 scope ce fp) [] H' b := fun {σ' H' s'} I' hn b hb =>
    ⟨hn b hb, (I'.ok.exf b hb).1, I'.ok.exfs b hb, .inl hb, fun x c e => (I'.ok.exf b hb).2 x c e, fun q hq => by
      have eq : q = p := by simpa using (show q ∈ [p] ++ ([] : List (Addr × Obj)) from hq)
      subst eq
      exact (f3 b hb).1.2.2.2.2.2 q (List.mem_append_left _ hm)⟩
  have walk_ : codeAny (model X.prog X.w) X.A (.compLoop (.ListComp elt [⟨tg, iter, ifs, 0⟩] scope pos) 0 (.ref it) (.ref D) ce) (compPost (model X.prog X.w) X.A X.xe use Qf (.ref D) ud.heap.objs.size) ue := by
    refine compLoop_any (fun n s' => ∃ i H', Inv (hblk X p ud H3 scope ce fp) [] (wipe σ (own.map (·.2))) H' s' ∧ tn i s'.heap ∧ (∀ b ∈ fp, H' b = none) ∧ W i n H') ?_ k0 ⟨0, H3, Je, sD, nowh, v0⟩
    rintro n uf ⟨i, H5, Jf, sE, n5, v5⟩
    rcases round_ i n H5 v5 with ⟨stop, qq⟩ | ⟨go, Nx, hNx, go_on⟩
    · have td := T.done (hblk X p ud H3 scope ce fp) rfl rfl rfl ⟨p, hc, List.mem_singleton_self p⟩ i [] uf _ H5 (fun _ _ => False) Jf (stays Jf n5) sE stop
      refine thnF td fun r ug ⟨hr, Jg⟩ => ?_
      subst hr
      -- back in the def's context
      have Jh : Inv X pins σ H5 ug := Jd.call' (ch := fp) Jg.os Jg.base Jg.hok Jg.bare fun b hb => ⟨(f3 b hb).1.2.2.2.1, (f3 b hb).1.2.1, (f3 b hb).1.2.2.2.2.1, (f3 b hb).1.2.2.2.2.2⟩
      have nC : H5 ud.heap.objs.size = none := by
        have z : H5 ce.locals = none := Jg.free
        rw [cL] at z
        exact z
      obtain ⟨m, hn, _⟩ := Jg.loc
      have hn : ug.heap.Ns ce.locals m := hn
      rw [cL] at hn
      exact hRR D ud.heap.objs.size ug m H5 Jh qq hn (Jd.fpOk (Nat.le_refl _) nC)
    · have ti := T.item (hblk X p ud H3 scope ce fp) rfl rfl rfl ⟨p, hc, List.mem_singleton_self p⟩ i [] uf _ H5 (fun _ _ => False) Jf (stays Jf n5) sE go
      refine thnF ti fun r ug ⟨u, hr, h6⟩ => ?_
      subst hr
      refine thnF h6 fun _ uh ⟨x, H7, Jh, r7, y7, sG, n7⟩ => ?_
      have I7' := Jh.pinned (stays Jh n7) (T.obj _ _ sG)
      refine thnF (pg.run _ uh _ H7 x u _ I7' r7 (go_on x H7 y7)) fun _ ui ⟨σ8, H8, Ji, hw8, q8⟩ => ?_
      refine thnF (pt.run _ ui σ8 H8 _ Ji q8) fun b uj ⟨H9, Jj, q9⟩ => ?_
      -- the turn's end
      have fin : ∀ {s' : Shared} {H' : Hp}, Inv (hblk X p ud H3 scope ce fp) ([] ++ pinsAt fp uh.heap) σ8 H' s' → Nx H' → ∃ m, m < n ∧ ∃ i H', Inv (hblk X p ud H3 scope ce fp) [] (wipe σ (own.map (·.2))) H' s' ∧ tn i s'.heap ∧ (∀ b ∈ fp, H' b = none) ∧ W i m H' := fun {s' H'} I' nx => by
        obtain ⟨m', hm, w'⟩ := hNx H' nx
        have pin' : ∀ b ∈ fp, ∀ o, uh.heap.get? b = some o → s'.heap.get? b = some o ∧ H' b = none := fun b hb o e =>
          let z := I'.pin (b, o) (List.mem_append_right _ (List.mem_append_right _ (mem_pinsAt hb e)))
          ⟨z.1, z.2.1⟩
        have hl : (wipe σ (own.map (·.2))).length = σ8.length := by rw [← hw8, wipe_length]
        refine ⟨m', hm, i + 1, H', (I'.unpinned (pins := [])).weak hl (fun j v e => ?_), T.keep _ _ _ sG fun b hb o e => (pin' b hb o e).1, fun b hb => ?_, w'⟩
        · rw [← hw8] at e
          exact (wipe_some e).1
        · obtain ⟨o, e, _⟩ := T.obj _ _ sG b hb
          exact (pin' b hb o e).2
      cases b with
      | false =>
        simp only [Bool.false_eq_true, if_false] at q9 ⊢
        exact fin Jj q9
      | true =>
        simp only [if_true] at q9 ⊢
        refine thnF (pe.run _ uj σ8 H9 _ Jj q9) fun z uk ⟨yv, H10, Jk, r10, acc, hD10, hz10, nx⟩ => ?_
        exact app_ok (X := hblk X p ud H3 scope ce fp) Jk hD10 hz10 r10 fun ul Jl => fin Jl nx
  exact codeAny_compStart_list walk_ (T.self X.A 0 _ _ _ sD walk_)
theorem hot_setLc {i : Nat} {y : Str} {py : Pos} {elt tg iter : Expr} {ifs : List Expr} {scope : Scope} {own : List (Str × Nat)} {pos spos : Pos} {wi : TI} {g : TG} {tt : TT} {te : TE} {p : Addr × Obj} (hc : L2H.Hot1 X.A p) (hm : p ∈ X.pn) (hN : X.N.Nodup) (hy : X.N[i]? = some y) (hyl : X.env.scope.names.lookup y = some .local)
    (hsw : swapsWith (.ListComp elt [⟨tg, iter, ifs, 0⟩] scope pos) (some (.Name y py)) spos.line X.env = pure true) (hi : L2H.PIH X tg iter wi) (ok : BlkOk X.N X.env.scope scope own)
    (hg : ∀ (s : Shared) (H : Hp) (C : Addr) (cl : List (Str × Addr)) (fp : List Addr), PG (hblk X p s H scope (compEnvC scope cl C X.env) fp) tg g) (ht : ∀ (s : Shared) (H : Hp) (C : Addr) (cl : List (Str × Addr)) (fp : List Addr), PTs (hblk X p s H scope (compEnvC scope cl C X.env) fp) ifs tt)
    (he : ∀ (s : Shared) (H : Hp) (C : Addr) (cl : List (Str × Addr)) (fp : List Addr), PE (hblk X p s H scope (compEnvC scope cl C X.env) fp) elt te) (hs : ∀ x, foldedSetIterable iter X.env x = pure x) :
    PS X (.Assign [.Name y py] (.ListComp elt [⟨tg, iter, ifs, 0⟩] scope pos) spos) (tAsg (tLc wi g tt te (own.map (·.2))) (gName i)) := by
  refine ⟨fun pins s σ H D I h => ?_⟩
  rw [exec_Assign_Name_used _ _ _ _ hsw]
  refine wpAny_bind (wpAny_standAt (wpAny_bind ?_))
  show wpAny _ X.A (do let _ ← comprehension (.ListComp elt [⟨tg, iter, ifs, 0⟩] scope pos) scope X.env (firstIterPos [⟨tg, iter, ifs, 0⟩] pos) (newList []) false (eval iter X.env) (some (assign (.Name y py) X.env))) _ _ s
  have h : tLc wi g tt te (own.map (·.2)) σ H (fun x H1 => gName i x σ H1 D.nx) := h
  refine wpAny_bind (thn (hot_core (Qf := fun _ s' => SP X pins D .next s') hc hm hN I hi ok hg ht he hs h fun L C s' m H' I' q hn f => ?_) fun _ s' hq => wpAny_pure (wpAny_pure hq))
  show wpAny _ _ (assign (.Name y py) X.env (.ref L)) _ _ _
  refine wpAny_assign_Name (store_ok2 (v := V.ref L) I' hN hy (.inl hyl) rfl (fun uc Jc ⟨a, sb, ha⟩ => ?_) (.inr hyl))
  obtain ⟨f0, f1, f2, f3, f4, f5⟩ := f
  have haC : C ≠ a := by
    rcases ha with z | z
    · rw [z]; exact f1
    · exact fun e => f4 y a z e.symm
  refine ⟨m, hn.sameBut sb haC, fun h3 sb3 => ?_⟩
  exact ⟨_, H', Jc.turned (t' := uc.toks) (fun b o hb e => (sb3.2 b hb).trans e) f0 f1 f3 f4 f5, q⟩
end
end L2.Eng

/-! EngX2: which error is handled: a def that is called in an except suite. -/
namespace L2.Eng
open PySem PySem.Spec PyProof.Rows

/-! ### a def entered with the handled error -/
theorem fn_hot {P : Program} {w : World} {K : PySem.W.Frag} {mg : Str → Option Value} {base : Heap} {k : Nat} {f : Addr} {name qual : Str} {params : Arguments} {body : List Stmt} {scope : Scope} {dV kV doc pm cdv ct oc : Value} {an od : Option Addr}
    {osl : Array (Option Value)} {N ps : List Str} {cls : Value} {d : D} (lk : K.lookup f = some ⟨oc, od, .func (PySem.W.fnOf name qual params body scope dV kV doc pm an cdv ct), osl⟩) (hcd : PySem.W.codeIn K cdv qual = true) (S : FnScope N ps scope) (len : ps.length = 1)
    (hbody : ∀ (A : Around) (outer : List Env) (s : Shared) (H : Hp) (Q : VK) (p : Addr × Obj), L2H.Hot1 A p → Zc cls none p.2 → L2H.RoomH k (A.deeper (envOfC qual scope s.heap.objs.size f cdv)) → (∀ v H', scV d = some v → Same H H' → Q v H') →
      ∃ t, PSs (L2H.cxH (L2N.CX P w) P w K mg base N qual scope f cdv A outer s H (fun _ _ _ => False) p) body t ∧ t { nx := fun _ H' => Q .non H', rt := Q } (start N [.ref p.1]) H) :
    FnX P w K mg base (k + 1) f (PySem.W.fnOf name qual params body scope dV kV doc pm an cdv ct) ps cls d := by
  refine ⟨len, fun A outer s H args Q p room hot hz pin env0 bnd q => ?_⟩
  have KX : K.In s.heap := env0.mod.kin.keeps fun b o e => (env0.bs b o e).1
  have free : s.heap.NoLimit := env0.mod.nolimit.keeps fun b o e => (env0.bs b o e).1
  have kinds : ∀ y ∈ ps.zip [Value.ref p.1], scope.names.lookup y.1 = some .local ∨ (scope.names.lookup y.1 = some .cell ∧ ((cellsFrom (s.heap.objs.size + 1) scope.names []).lookup y.1).isSome = true) := fun ⟨n, v⟩ hy =>
    (S.par n (List.of_mem_zip hy).1).elim .inl fun z => .inr ⟨z, PySem.W.cellsFrom_some _ _ _ (.inl z)⟩
  have vals : Vals [V.ref p.1] [Value.ref p.1] := .cons rfl .nil
  refine codeAny_call_function room.depth (KX _ _ lk) rfl S.co S.gen rfl (PySem.W.codeRec_of KX hcd) (bnd _ _ _ _ ?_)
  refine wpAny_newFunctionEnv_cells S.kind kinds fun env he s1 x => ?_
  subst he
  refine ⟨free.keeps x.toInCall.keep, codeAny_func ?_⟩
  obtain ⟨t, ht, hq⟩ := hbody A outer s H Q p hot hz (room.deeper _) q
  have I0 : Inv (L2H.cxH (L2N.CX P w) P w K mg base N qual scope f cdv A outer s H (fun _ _ _ => False) p) [] (start N [.ref p.1]) H s1 := L2H.inv_startH S pin env0 len.symm vals x
  refine wpAny_mono (ht.run [] s1 _ H _ I0 hq) (fun fl s2 hs => ?_) fun e s2 hs => hs
  cases fl with
  | ret u =>
    obtain ⟨v, σ2, H2, J, rv, z⟩ := hs
    exact ⟨v, H2, J.os, J.bare, J.base, J.hok, rv, z⟩
  | next =>
    obtain ⟨σ2, H2, J, z⟩ := hs
    exact ⟨V.non, H2, J.os, J.bare, J.base, J.hok, rfl, z⟩
  | brk => exact hs.elim fun _ z => z.elim fun _ z => z.2.elim
  | cont => exact hs.elim fun _ z => z.elim fun _ z => z.2.elim

/-! ### isinstance of it -/
theorem call_isX {X : Cx} {a D : Addr} {oe : Obj} (C : ExcC X.K D) (hm : (a, oe) ∈ X.pn) (hz : Zc (.ref D) none oe) (hf : ∃ vs, oe.data = .fields vs) : CallR X (.builtin "isinstance") (rIsE X.K D a) := by
  intro pins s σ H xs us Q I r ⟨c, cv, b, ex, hcv, ek, q⟩
  subst ex
  match us, r with
  | [_, u], .cons rx (.cons rt .nil) =>
    cases rx
    obtain rfl := hcv _ rt
    have at_ := (I.pin (a, oe) (List.mem_append_left _ hm)).1
    obtain ⟨vs, hv⟩ := hf
    have J : PySem.W.InstAt s.heap a oe D none := by
      obtain ⟨oc, od, oda, osl⟩ := oe
      obtain ⟨z1, z2⟩ := hz
      dsimp only at z1 z2 hv
      subst z1 z2 hv
      exact ⟨at_, rfl, rfl, trivial⟩
    exact PySem.W.kia_one (PySem.W.handS_kitx_exc C.hg C.hk C.hs C.hd C.ha C.hn C.ht C.hm) I.kIn J ek (fun z => nomatch z) fun tk => ⟨.bl b, H, I.kept (t' := tk) fun _ _ z => z, rfl, q⟩

/-! ### the text -/
def ckIs (sc : Scope) : List Str → List Expr → Bool
  | [], [] => true
  | c :: cs, .Call (.Name i _) [.Name x _, .Name y _] [] _ :: es => decide (i = ("isinstance" : Str)) && glbB sc i && decide (x = ("problem" : Str)) && visB sc x && decide (y = c) && glbB sc y && noDbg y && ckIs sc cs es
  | _, _ => false
def ckWs : List Str → List Expr → Bool
  | [], [] => true
  | z :: zs, .Constant (.str y) _ _ :: es => decide (z = y) && ckWs zs es
  | _, _ => false
def refN : List Str := ["problem", "kinds", "found", "k"]
def ckRef (cs zs : List Str) (sc : Scope) : List Stmt → Bool
  | [.Assign [.Name kn _] (.List es _) _, .Assign [.Name fnm fp] (.ListComp (.Subscript (.List ws _) (.Name k1 _) _) [⟨.Name k2 _, .Call (.Name rg _) [.Constant (.int n) _ _] [] _, [.Subscript (.Name kn2 _) (.Name k3 _) _], 0⟩] s2 lp) sp,
      .Return (some (.IfExp (.BoolOp .And [.Compare (.Call (.Name ln _) [.Name fn2 _] [] _) [.Eq] [.Constant (.int one) _ _] _, .Call (.Name is _) [.Name pn _, .Name ve _] [] _] _) (.Subscript (.Name fn3 _) (.Constant (.int zero) _ _) _) (.Constant (.str sv) _ _) _)) _] =>
    decide (kn = ("kinds" : Str)) && decide (fnm = ("found" : Str)) && decide (k1 = ("k" : Str)) && decide (k2 = ("k" : Str)) && decide (k3 = ("k" : Str)) && decide (kn2 = ("kinds" : Str)) && decide (fn2 = ("found" : Str)) && decide (fn3 = ("found" : Str)) && decide (pn = ("problem" : Str)) &&
      decide (rg = ("range" : Str)) && decide (ln = ("len" : Str)) && decide (is = ("isinstance" : Str)) && decide (ve = ("ValueError" : Str)) && decide (sv = ("several" : Str)) && decide (one = 1) && decide (zero = 0) && decide (n = (cs.length : Int)) && decide (cs.length = zs.length) && decide (cs.length < 100) &&
      ckIs sc cs es && ckWs zs ws && locB sc "kinds" && isLoc sc "found" && visB sc "problem" && visB sc "found" && glbB sc "range" && glbB sc "len" && glbB sc "isinstance" && glbB sc "ValueError" &&
      visB s2 "kinds" && visB s2 "k" && locB s2 "k" && blkC refN sc s2 [("k", 3)] && (fp.line == lp.line) && !(s2.names.any fun (n, k) => n == ("found" : Str) && (k == .local || k == .cell))
  | _ => false
/-- the words whose class it is -/
def pick : List Bool → List Str → List Str
  | true :: bs, z :: zs => z :: pick bs zs
  | false :: bs, _ :: zs => pick bs zs
  | _, _ => []
def refWord (bs : List Bool) (zs : List Str) : Str := match pick bs zs with
  | [z] => z
  | _ => "several"
end L2.Eng

/-! EngX3: which error it is, said by one word. -/
namespace L2.Eng
open PySem PySem.Spec PyProof.Rows

/-- names within a comprehension's block -/
theorem scp_blk {X : Cx} {s : Shared} {H : Hp} {scope : Scope} {cl : List (Str × Addr)} {C : Addr} {fp : List Addr} : ScpOk scope (X.blk s H scope (compEnvC scope cl C X.env) fp) := by
  have look : ∀ {x : Str} {k : NameKind}, scope.names.lookup x = some k → ∃ k', (compEnvC scope cl C X.env).scope.names.lookup x = some k' ∧ (k' = k ∨ (k = .free ∧ k' = .cell)) := by
    intro x k h
    refine ⟨_, lookup_mapK (fun n k => k == .free && X.env.scope.kind == .function && X.env.kindOf n == some .cell) h, ?_⟩
    split
    · next hb =>
      simp only [Bool.and_eq_true] at hb
      cases k <;> first | exact .inr ⟨rfl, rfl⟩ | (exact absurd hb.1.1 (by decide))
    · exact .inl rfl
  refine ⟨fun x h => ?_, fun x h => ?_, fun x h => ?_, fun x h => ?_⟩
  · obtain ⟨k, e, hk⟩ := visB_of h
    obtain ⟨k', e', hk'⟩ := look e
    rcases hk' with rfl | ⟨rfl, rfl⟩
    · rcases hk with rfl | rfl | rfl
      · exact .inl e'
      · exact .inr (.inl e')
      · exact .inr (.inr e')
    · exact .inr (.inl e')
  · obtain ⟨k', e', hk'⟩ := look (glbB_of h)
    rcases hk' with rfl | ⟨h1, _⟩
    · exact e'
    · cases h1
  · obtain ⟨k, e, hk⟩ := locB_of h
    obtain ⟨k', e', hk'⟩ := look e
    rcases hk' with rfl | ⟨rfl, rfl⟩
    · rcases hk with rfl | rfl
      · exact ⟨.inl e', .inr e'⟩
      · exact ⟨.inr e', .inl (by show (scope.names.lookup x == some .cell) = true; rw [e]; rfl)⟩
    · rcases hk with h | h <;> cases h
  · rcases h with h | h
    · obtain ⟨k', e', hk'⟩ := look h
      rcases hk' with rfl | ⟨h1, _⟩
      · exact .inl e'
      · cases h1
    · obtain ⟨k', e', hk'⟩ := look h
      rcases hk' with rfl | ⟨_, rfl⟩
      · exact .inr e'
      · exact .inl e'
theorem pick_succ : ∀ {bs : List Bool} {zs : List Str} {i : Nat} {b : Bool} {z : Str}, bs[i]? = some b → zs[i]? = some z → pick (bs.take (i + 1)) (zs.take (i + 1)) = pick (bs.take i) (zs.take i) ++ if b = true then [z] else []
  | b0 :: bs, z0 :: zs, 0, b, z, h1, h2 => by
    cases h1
    cases h2
    cases b0 <;> simp [pick]
  | b0 :: bs, z0 :: zs, i + 1, b, z, h1, h2 => by
    have ih := pick_succ (bs := bs) (zs := zs) (i := i) (b := b) (z := z) (by simpa using h1) (by simpa using h2)
    rw [List.take_succ_cons, List.take_succ_cons, List.take_succ_cons, List.take_succ_cons]
    cases b0
    · exact ih
    · show z0 :: pick _ _ = (z0 :: pick _ _) ++ _
      rw [ih, List.cons_append]
  | [], _, _, _, _, h, _ => by simp at h
  | _ :: _, [], _, _, _, _, h => by simp at h
theorem pick_len : ∀ (bs : List Bool) (zs : List Str), (pick bs zs).length ≤ bs.length
  | [], _ => by simp [pick]
  | true :: bs, [] => by simp [pick]
  | false :: bs, [] => by simp [pick]
  | true :: bs, z :: zs => by simp [pick]; exact pick_len bs zs
  | false :: bs, z :: zs => by simp [pick]; have := pick_len bs zs; omega
abbrev G0 : Hp := fun _ => none
theorem same0 (H : Hp) : Same G0 H := fun _ _ e => nomatch e
theorem rq_strs : ∀ zs : List Str, RqAll G0 (zs.map V.str) (zs.map PyData.str)
  | [] => .nil
  | z :: zs => .cons (.str z) (rq_strs zs)
theorem rq_bls : ∀ bs : List Bool, RqAll G0 (bs.map V.bl) (bs.map PyData.bool)
  | [] => .nil
  | b :: bs => .cons (.bl b) (rq_bls bs)
theorem vw_list {H : Hp} {a : Addr} {vs : List V} {ds : List D} (h : H a = some (.lst vs)) (r : RqAll G0 vs ds) : Vw G0 H (.ref a) (.list ds) := .inr ⟨a, vs, ds, rfl, rfl, h, r⟩
theorem at_nat {α : Type} {xs : List α} {i : Nat} {x : α} (h : xs[i]? = some x) (hl : xs.length < 100) : atI xs (i : Int) = some x := by
  have hi := (List.getElem?_eq_some_iff.mp h).1
  unfold atI ixN
  rw [if_pos (by omega), if_pos (by omega)]
  simpa using h

structure HX (X : Cx) (a : Addr) (oe : Obj) (D : Addr) (sc : Scope) : Prop where
  hN : X.N = refN
  scp : ScpOk sc X
  scE : X.env.scope = sc
  pn : (a, oe) ∈ X.pn
  hot : L2H.Hot1 X.A (a, oe)
  hz : Zc (.ref D) none oe
  hu : X.A.units + 68 < cLine
  cD : ExcC X.K D
  kd : X.env.scope.kind = .function
  rg : X.mg "range" = none
  ln : X.mg "len" = none
  ii : X.mg "isinstance" = none
  ve : X.mg "ValueError" = none
  hv : PySem.W.kitOne X.K (.ref D) (.type "ValueError") = some true
section
variable {X : Cx} {a D : Addr} {oe : Obj} {sc : Scope}
theorem HX.nth (h : HX X a oe D sc) {i : Nat} {x : Str} (e : refN[i]? = some x) : X.N[i]? = some x := by rw [h.hN]; exact e
theorem is_call (h : HX X a oe D sc) {y : Str} {cv : Value} {c : V} {b : Bool} {p0 p1 p2 pos : Pos} (hc : PE X (.Name y p2) (tC c)) (hcv : ∀ u, RelV c u → u = cv) (hk : PySem.W.kitOne X.K (.ref D) cv = some b) (g : glbB sc "isinstance" = true) (hv : visB sc "problem" = true) :
    PE X (.Call (.Name "isinstance" p0) [.Name "problem" p1, .Name y p2] [] pos) (fun σ H Q => σ[0]? = some (some (.ref a)) ∧ Q (.bl b) H) := by
  obtain ⟨vs, hvs, _⟩ := h.hot.2
  refine (pe_val (.inl ⟨_, rfl⟩) (call_isX h.cD h.pn h.hz ⟨vs, hvs⟩) (h.scp.gl _ g) h.ii PyProof.Rows.boot_isinstance (pa_cons (pe_var (i := 0) (h.nth rfl) (h.scp.vis _ hv)) (pa_cons hc pa_nil (star1 rfl _ _)) (star1 rfl _ _)) (by decide) (by decide) ?_).weak fun σ H Q ⟨e, q⟩ => ⟨_, e, c, cv, b, rfl, hcv, hk, q⟩
  intro z hz
  simp only [List.mem_cons, List.not_mem_nil, or_false] at hz
  rcases hz with rfl | rfl <;> rfl
theorem is_list (h : HX X a oe D sc) (g : glbB sc "isinstance" = true) (hv : visB sc "problem" = true) : ∀ {cs : List Str} {es : List Expr} {bs : List Bool}, ckIs sc cs es = true → Paired (fun c b => ∃ C, X.mg c = some (.ref C) ∧ PySem.W.kitOne X.K (.ref D) (.ref C) = some b) cs bs →
    PA X es (fun σ H Q => σ[0]? = some (some (.ref a)) ∧ Q (bs.map V.bl) H)
  | [], [], [], _, _ => pa_nil.weak fun σ H Q ⟨_, q⟩ => q
  | c :: cs, .Call (.Name i p0) [.Name x p1, .Name y p2] [] pos :: es, b :: bs, ck, .cons hb hbs => by
    simp only [ckIs, Bool.and_eq_true, decide_eq_true_eq] at ck
    obtain ⟨⟨⟨⟨⟨⟨⟨rfl, g1⟩, rfl⟩, g2⟩, rfl⟩, g3⟩, g4⟩, g5⟩ := ck
    obtain ⟨C, m1, m2⟩ := hb
    have hc : PE X (.Name y p2) (tC (.ref C)) := pe_glob (h.scp.gl _ g3) m1 rfl (noDbg_split g4).1
    refine (pa_cons (is_call h hc (fun u r => r) m2 g hv) (is_list h g hv g5 hbs) (star1 rfl _ _)).weak fun σ H Q ⟨e, q⟩ => ⟨e, e, q⟩
  | [], _ :: _, _, ck, _ => by simp [ckIs] at ck
  | _ :: _, [], _, ck, _ => by simp [ckIs] at ck
theorem word_list {Y : Cx} : ∀ {zs : List Str} {es : List Expr}, ckWs zs es = true → PA Y es (fun _ H Q => Q (zs.map V.str) H)
  | [], [], _ => pa_nil
  | z :: zs, .Constant (.str y) _ _ :: es, ck => by
    simp only [ckWs, Bool.and_eq_true, decide_eq_true_eq] at ck
    obtain ⟨rfl, g⟩ := ck
    exact (pa_cons pe_str (word_list g) (star1 rfl _ _)).weak fun σ H Q q => q
  | [], _ :: _, ck => by simp [ckWs] at ck
  | _ :: _, [], ck => by simp [ckWs] at ck
theorem ckIs_len : ∀ {cs : List Str} {es : List Expr} {bs : List Bool} {R : Str → Bool → Prop}, Paired R cs bs → cs.length = bs.length
  | _, _, _, _, h => Paired.length h
theorem plainN {x : Str} {p : Pos} : PlainIx (.Name x p) := fun _ _ => rfl
theorem ref_body (h : HX X a oe D sc) {cs zs : List Str} {bs : List Bool} {body : List Stmt} (ck : ckRef cs zs sc body = true) (hp : Paired (fun c b => ∃ C, X.mg c = some (.ref C) ∧ PySem.W.kitOne X.K (.ref D) (.ref C) = some b) cs bs) :
    PSs X body (fun E σ H => σ = [some (.ref a), none, none, none] ∧ ∀ H', Same H H' → E.rt (.str (refWord bs zs)) H') := by
  unfold ckRef at ck
  split at ck
  case h_2 => cases ck
  simp only [Bool.and_eq_true, decide_eq_true_eq, Bool.not_eq_true'] at ck
  obtain ⟨⟨⟨⟨⟨⟨⟨⟨⟨⟨⟨⟨⟨⟨⟨⟨⟨⟨⟨⟨⟨⟨⟨⟨⟨⟨⟨⟨⟨⟨⟨⟨⟨⟨rfl, rfl⟩, rfl⟩, rfl⟩, rfl⟩, rfl⟩, rfl⟩, rfl⟩, rfl⟩, rfl⟩, rfl⟩, rfl⟩, rfl⟩, rfl⟩, rfl⟩, rfl⟩, rfl⟩, lz⟩, l100⟩, g1⟩, g2⟩, g3⟩, g4⟩, g5⟩, g6⟩, g7⟩, g8⟩, g9⟩, g10⟩, g11⟩, g12⟩, g13⟩, g14⟩, g15⟩, g16⟩ := ck
  rename_i bd q28 es q27 q26 fp ws q25 q24 q23 q22 q21 k3 q20 q19 q18 q17 q16 s2 lp sp q15 q14 q13 k2 q12 q11 q10 q9 q8 q7 q6 q5 k1 q4 q3 k0 q2 q1 q0
  have hN : X.N.Nodup := by rw [h.hN]; decide +kernel
  have hfl : X.env.scope.names.lookup ("found" : Str) = some NameKind.local := by rw [h.scE]; exact of_decide_eq_true g4
  have lb : cs.length = bs.length := Paired.length hp
  have ok : BlkOk X.N X.env.scope s2 [("k", 3)] := by rw [h.hN, h.scE]; exact blkOk_by g14
  have big : 100 ≤ sizeLine := by decide
  have hu := h.hu
  have st1 : PS X (.Assign [.Name "kinds" q28] (.List es q27) q26) _ := ps_set (i := 1) hN (h.nth rfl) (h.scp.loc _ g3).1 (pe_lst (is_list h g9 g5 g1 hp)) (by rfl) (h.scp.loc _ g3).2
  have bk : ∀ (s : Shared) (H : Hp) (cl : List (Str × Addr)) (C : Addr) (fp : List Addr), ScpOk s2 (hblk X (a, oe) s H s2 (compEnvC s2 cl C X.env) fp) := fun s H cl C fp =>
    have q := scp_blk (X := X) (s := s) (H := H) (scope := s2) (cl := cl) (C := C) (fp := fp)
    ⟨q.vis, q.gl, q.loc, q.free⟩
  have st2 := hot_setLc (X := X) (tt := fun σ H_1 Q => tOp rIdx (tVar 1) (tVar 3) σ H_1 fun x H' => ∃ k, TruV X.K x H' k ∧ Q k H') (te := tOp rIdx (tLst (fun _ H Q => Q (zs.map V.str) H)) (tVar 3)) (i := 2) (y := "found") (py := fp) (spos := sp) h.hot h.pn hN (h.nth rfl) hfl (sw_true (l := sp.line) h.kd hfl g15 g16)
    (L2H.pi_range1H (tg := .Name "k" q22) (p := q21) (pos := q19) (h.scp.gl _ g7) h.rg (pa_cons (pe_int (j := k3) (pos := q20) (i := (cs.length : Int))) pa_nil) (by rfl)) ok
    (fun s H C cl fp => pg_name (X := hblk X (a, oe) s H s2 (compEnvC s2 cl C X.env) fp) (i := 3) (x := "k") (pos := q22) hN (h.nth rfl) ((bk s H cl C fp).loc _ g13).1 ((bk s H cl C fp).loc _ g13).2)
    (fun s H C cl fp => pts_one (pt_truth (X := hblk X (a, oe) s H s2 (compEnvC s2 cl C X.env) fp) (pe_ix (pos := q16) ix_data (pe_var (X := hblk X (a, oe) s H s2 (compEnvC s2 cl C X.env) fp) (i := 1) (x := "kinds") (pos := q18) (h.nth rfl) ((bk s H cl C fp).vis _ g11)) (pe_var (i := 3) (x := "k") (pos := q17) (h.nth rfl) ((bk s H cl C fp).vis _ g12)) plainN) (fun _ => rfl)))
    (fun s H C cl fp => pe_ix (X := hblk X (a, oe) s H s2 (compEnvC s2 cl C X.env) fp) (pos := q23) ix_data (pe_lst (pos := q25) (word_list g2)) (pe_var (i := 3) (x := "k") (pos := q24) (h.nth rfl) ((bk s H cl C fp).vis _ g12)) plainN) (fun _ => rfl)
  have fnd : ∀ q, PE X (.Name "found" q) (tVar 2) := fun q => pe_var (i := 2) (h.nth rfl) (h.scp.vis _ g6)
  have hlen : PE X (.Call (.Name "len" q15) [.Name "found" q14] [] q13) _ := pe_val (.inl ⟨_, rfl⟩) call_len (h.scp.gl _ g8) h.ln boot_len (pa_cons (fnd q14) pa_nil (star1 rfl _ _)) (by decide) (by decide) (fun z hz => by simp only [List.mem_cons, List.not_mem_nil, or_false] at hz; subst hz; rfl)
  have hve : PE X (.Name "ValueError" q8) (tC (.ty "ValueError")) := pe_bltn (h.scp.gl _ g10) h.ve (by decide +kernel) rfl (by decide) (by decide)
  have tst := (pw_and (pos := q6) (pt_cmpR (pos := q11) (op := .Eq) (op_cmp (by omega) .Eq) hlen (pe_int (j := k2) (pos := q12) (i := 1)) rfl) (pw_and1 (pt_truth (is_call (p0 := q10) (p1 := q9) (pos := q7) h hve (fun u r => r) h.hv g9 g5) (fun _ => rfl)))).pt
  have st3 := ps_ret (pos := q0) (pe_ifExp (pos := q1) tst (pe_ix (pos := q3) ix_data (fnd q5) (pe_int (j := k1) (pos := q4) (i := 0)) (fun _ _ => rfl)) (pe_str (j := k0) (pos := q2) (x := "several")))
  refine PSs.weak (pss_cons st1 (pss_cons st2 (pss_one st3))) ?_
  rintro E σ H ⟨rfl, kq⟩
  refine ⟨rfl, by rw [List.length_map]; omega, fun l0 hl0 => ?_⟩
  refine ⟨(cs.length : Int), rfl, by omega, by omega, fun L hL => ?_⟩
  rw [Int.toNat_natCast]
  have nLl : l0 ≠ L := fun z => by
    rw [← z] at hL
    have hL' : (upd H l0 (.lst (bs.map V.bl))) l0 = none := hL
    rw [upd_same] at hL'
    cases hL'
  have s1 : Same H (upd H l0 (.lst (bs.map V.bl))) := fun b u e => by rw [upd_ne (ne_of_none e hl0)]; exact e
  refine lc_range (lo := 0) (n := cs.length) (g := gName 3) (tt := fun σ H_1 Q => tOp rIdx (tVar 1) (tVar 3) σ H_1 fun x H' => ∃ k, TruV X.K x H' k ∧ Q k H') (te := tOp rIdx (tLst (fun _ H Q => Q (zs.map V.str) H)) (tVar 3)) (vs := [3]) (σ := [some (.ref a), some (.ref l0), none, none])
    (Qd := fun H' => tRet (tIf (tAnd (tTest (tOp (rCmp .Eq) (tCB (fun xs H Q => ∃ x n, xs = [x] ∧ LenV X.K x H n ∧ Q (V.int ↑n) H) (tCons (tVar 2) tNil)) (tC (V.int 1)))) fun σ H Q => σ[0]? = some (some (V.ref a)) ∧ (fun x H' => ∃ k, TruV X.K x H' k ∧ Q k H') (V.bl true) H)
      (tOp rIdx (tVar 2) (tC (V.int 0))) (tC (V.str "several"))) E [some (.ref a), some (.ref l0), some (.ref L), none] H') (fun i H' => (∀ b u, b ≠ L → (upd H l0 (.lst (bs.map V.bl))) b = some u → H' b = some u) ∧ H' L = some (.lst ((pick (bs.take i) (zs.take i)).map V.str))) ⟨fun b u hb e => by rw [upd_ne hb]; exact e, ?_⟩ ?_ ?_
  · rw [upd_same]
    simp [pick]
  · rintro i H' hi ⟨hk, hD⟩
    obtain ⟨b, eb⟩ : ∃ b, bs[i]? = some b := ⟨_, List.getElem?_eq_getElem (by omega)⟩
    obtain ⟨z, ez⟩ : ∃ z, zs[i]? = some z := ⟨_, List.getElem?_eq_getElem (by omega)⟩
    have hK : H' l0 = some (.lst (bs.map V.bl)) := hk l0 _ nLl upd_same
    refine ⟨rfl, .ref l0, rfl, .int (0 + (i : Nat)), rfl, G0, .list (bs.map PyData.bool), .int (0 + (i : Nat)), .bool b, same0 _, vw_list hK (rq_bls bs), .inl (.int _), ?_, fun v rv => ?_⟩
    · show atI _ _ = _
      rw [Int.zero_add]
      exact at_nat (by rw [List.getElem?_map, eb]; rfl) (by rw [List.length_map]; omega)
    · refine ⟨b, Vw.truth (G := G0) (d := .bool b) (same0 _) (.inl rv) rfl, ?_⟩
      have ps := pick_succ eb ez
      dsimp only
      cases b with
      | false =>
        rw [if_neg Bool.false_ne_true]
        rw [if_neg Bool.false_ne_true, List.append_nil] at ps
        rw [ps]
        exact ⟨hk, hD⟩
      | true =>
        rw [if_pos rfl]
        rw [if_pos rfl] at ps
        refine ⟨by rw [List.length_map]; omega, fun q hq => ?_⟩
        refine ⟨.int (0 + (i : Nat)), rfl, G0, .list (zs.map PyData.str), .int (0 + (i : Nat)), .str z, same0 _, vw_list upd_same (rq_strs zs), .inl (.int _), ?_, fun v rv => ?_⟩
        · show atI _ _ = _
          rw [Int.zero_add]
          exact at_nat (by rw [List.getElem?_map, ez]; rfl) (by rw [List.length_map]; omega)
        · cases rv.vStr
          refine ⟨(pick (bs.take i) (zs.take i)).map V.str, by rw [upd_ne (ne_of_none hD hq)]; exact hD, ?_, fun b u hb e => ?_, ?_⟩
          · rw [List.length_map]
            have l1 := pick_len (bs.take i) (zs.take i)
            rw [List.length_take] at l1
            omega
          · rw [upd_ne hb, upd_ne (ne_of_none (hk b u hb e) hq)]
            exact hk b u hb e
          · rw [upd_same, ps, List.map_append]
            rfl
  · rintro H' ⟨hk, hD⟩
    rw [List.take_of_length_le (by omega), List.take_of_length_le (by omega)] at hD
    have sH : Same H H' := fun b u e => hk b u (ne_of_none (s1 b u e) hL) (s1 b u e)
    have fin := kq H' sH
    refine ⟨.ref L, rfl, .ref L, (pick bs zs).length, rfl, .inl ⟨_, SqL.rd (.inl hD), by rw [List.length_map]⟩, G0, .int (((pick bs zs).length : Nat) : Int), .int 1, PyData.eqv (.int (((pick bs zs).length : Nat) : Int)) (.int 1), same0 _, .inl (.int _), .inl (.int _), rfl, _, rfl, ?_⟩
    have tt : TruV X.K (.bl true) H' true := Vw.truth (G := G0) (d := .bool true) (same0 _) (.inl (.bl true)) rfl
    unfold refWord at fin
    cases hpk : pick bs zs with
    | nil =>
      rw [hpk] at fin
      exact fin
    | cons z r =>
      cases r with
      | nil =>
        rw [hpk] at fin hD
        refine ⟨rfl, true, tt, ?_⟩
        refine ⟨.ref L, rfl, G0, .list [.str z], .int 0, .str z, same0 _, vw_list hD (rq_strs [z]), .inl (.int _), rfl, fun v rv => ?_⟩
        cases rv.vStr
        exact fin
      | cons z2 r =>
        rw [hpk] at fin
        have e : PyData.eqv (.int (((z :: z2 :: r).length : Nat) : Int)) (.int 1) = false := by
          simp [PyData.eqv]
          omega
        rw [e]
        exact fin
end
end L2.Eng

/-! EngX4: the facts that the word leans on. -/
namespace L2.Eng
open PySem PySem.Spec PyProof.Rows
def kitsB (K : PySem.W.Frag) (x : Str) : List Str → List Bool → Bool
  | [], [] => true
  | c :: cs, b :: bs => (He.Fa.glo c).ok K && decide (PySem.W.kitOne K (.ref (He.ga K x)) (.ref (He.ga K c)) = some b) && kitsB K x cs bs
  | _, _ => false
theorem kitsB_ok {K : PySem.W.Frag} {h : Heap} {mg : Str → Option Value} (X : K.In h) (G : h.Ns mainGlobals mg) {x : Str} : ∀ {cs : List Str} {bs : List Bool}, kitsB K x cs bs = true →
    Paired (fun c b => ∃ C, mg c = some (.ref C) ∧ PySem.W.kitOne K (.ref (He.ga K x)) (.ref C) = some b) cs bs
  | [], [], _ => .nil
  | c :: cs, b :: bs, q => by
    simp only [kitsB, Bool.and_eq_true, decide_eq_true_eq] at q
    exact .cons ⟨_, He.glo_ok X G q.1.1, q.1.2⟩ (kitsB_ok X G q.2)
  | [], _ :: _, q => by simp [kitsB] at q
  | _ :: _, [], q => by simp [kitsB] at q
/-- an error's class x: which of the classes cs it is under -/
def hotB (cs : List Str) (q : Str × List Bool) (K : PySem.W.Frag) : Bool := (He.Fa.glo q.1).ok K && excB K q.1 && kitsB K q.1 cs q.2 && decide (PySem.W.kitOne K (.ref (He.ga K q.1)) (.type "ValueError") = some true)
def freeB (K : PySem.W.Frag) : Bool := (He.Fa.free "range").ok K && (He.Fa.free "len").ok K && (He.Fa.free "isinstance").ok K && (He.Fa.free "ValueError").ok K
def hotOf (zs : List Str) (tbl : List (Str × List Bool)) (f x : Str) : Option D := if f = ("_law_refusal" : Str) then (tbl.lookup x).map fun bs => .str (refWord bs zs) else none
theorem hot_fn {p : Pr} {top : Nat → Stmt} {cs zs : List Str} {tbl : List (Str × List Bool)} {st : Nat} (hts : (("_law_refusal" : Str), st) ∈ p.hts) (hx : freeB ∈ p.xf) (ht : ∀ q ∈ tbl, hotB cs q ∈ p.xf) (ck : ckRef cs zs (defScope (top st)) (defBody (top st)) = true)
    (sc : C8.scC refN ["problem"] (defScope (top st)) = true)
    (hb : ∀ (kV doc pm : Value) (an : Option Addr) (cdv ct : Value) (us : List Value), us.length = 1 → bindArgs (PySem.W.fnOf "_law_refusal" "_law_refusal" (defArgs (top st)) (defBody (top st)) (defScope (top st)) .none kV doc pm an cdv ct) ⟨us, []⟩ = pure ((["problem"] : List Str).zip us))
    {P : Program} (w : World) (K : PySem.W.Frag) (h : Heap) (mg : Str → Option Value) (pk : PK p top K) (X : K.In h) (G : h.Ns mainGlobals mg) (base : Heap) (n : Nat) (f x : Str) (d : D) (e : hotOf zs tbl f x = some d) :
    ∃ a fd ps cls, mg f = some (.ref a) ∧ mg x = some cls ∧ PySem.W.keepIn K (.ref a) = true ∧ Binds K fd ps [] ∧ FnX P w K mg base (n + 1) a fd ps cls d := by
  unfold hotOf at e
  split at e
  case isFalse => cases e
  rename_i ef
  subst ef
  cases et : tbl.lookup x with
  | none => rw [et] at e; cases e
  | some bs =>
    rw [et] at e
    cases e
    have q := pk.xf _ (ht _ (mem_lk et))
    unfold hotB at q
    simp only [Bool.and_eq_true, decide_eq_true_eq] at q
    obtain ⟨⟨⟨q1, q2⟩, q3⟩, q4⟩ := q
    have qf := pk.xf _ hx
    unfold freeB at qf
    simp only [Bool.and_eq_true] at qf
    obtain ⟨⟨⟨f1, f2⟩, f3⟩, f4⟩ := qf
    obtain ⟨g1, fd, F⟩ := pk.hf _ hts
    have S : FnScope refN ["problem"] (defScope (top st)) := C8.fnScope_by sc
    refine ⟨_, fd, ["problem"], _, He.glo_ok X G g1, He.glo_ok X G q1, F.kp, F.bindsN hb, ?_⟩
    obtain ⟨oc, od, dV, kV, doc, pm, an, cdv, ct, osl, rfl, lk, hcd, _, _⟩ := F.ex
    refine fn_hot lk hcd S rfl fun A outer s H Q p hot hz room q => ?_
    have hx : HX (L2H.cxH (L2N.CX P w) P w K mg base refN "_law_refusal" (defScope (top st)) (He.ga K "_law_refusal") cdv A outer s H (fun _ _ _ => False) p) p.1 p.2 (He.ga K x) (defScope (top st)) := by
      refine ⟨rfl, ⟨fun x hx => ?_, fun x hx => glbB_of hx, fun x hx => ?_, fun x hx => hx⟩, rfl, List.mem_singleton_self _, hot, hz, ?_, excB_ok q2, S.kind, He.free_ok X G f1, He.free_ok X G f2, He.free_ok X G f3, He.free_ok X G f4, q4⟩
      · obtain ⟨k, e, hk⟩ := visB_of hx
        rcases hk with rfl | rfl | rfl
        · exact .inl e
        · exact .inr (.inl e)
        · exact .inr (.inr e)
      · obtain ⟨k, e, hk⟩ := locB_of hx
        rcases hk with rfl | rfl
        · exact ⟨.inl e, .inl rfl⟩
        · exact ⟨.inr e, .inl rfl⟩
      · have rm : (A.deeper (envOfC "_law_refusal" (defScope (top st)) s.heap.objs.size (He.ga K "_law_refusal") cdv)).units + 16 * n + 200 < cLine := room.un
        show (A.deeper (envOfC "_law_refusal" (defScope (top st)) s.heap.objs.size (He.ga K "_law_refusal") cdv)).units + 68 < cLine
        omega
    exact ⟨_, ref_body hx ck (kitsB_ok X G q3), rfl, fun H' sH => q _ H' rfl sH⟩
end L2.Eng

/-! EngP: the evaluator, step by step. -/
namespace L2.Eng
open PySem

theorem lev_call {fs : List Fn} {B : Fx} {k : Nat} {f : Str} {F : Fn} (h : (Fn.tab fs).lookup f = some F) (hk : 0 < k) (ts : List T) : (lev fs B k).call f ts = runFn (lev fs B (k - 1)) F ts := by
  cases k with
  | zero => omega
  | succ k =>
    show (match (Fn.tab fs).lookup f with | some F => runFn (lev fs B k) F ts | none => .no) = _
    rw [h]
    rfl
theorem run_fn {Φ : Fx} {F : Fn} {ts : List T} (h : ts.length = F.np) : runFn Φ F ts = endR F.body.sets ts (exSs Φ F.body (startR F.N.length ts)) := if_pos h
section
variable {α β : Type} {ρ ρ1 : Rho}
theorem bind_ok (a : α) (f : α → Rho → R β) : (R.ok a ρ).bind f = f a ρ := rfl
theorem bind_exc (x : Ex) (f : α → Rho → R β) : (R.exc x ρ).bind f = .exc x ρ := rfl
theorem map_ok (a : α) (f : α → β) : (R.ok a ρ).map f = .ok (f a) ρ := rfl
theorem map_exc (x : Ex) (f : α → β) : (R.exc x ρ).map f = .exc x ρ := rfl
theorem of_some (a : α) : R.of (some a) ρ = .ok a ρ := rfl
theorem bind_left {x y : R α} {f : α → Rho → R β} (h : x = y) : x.bind f = y.bind f := by rw [h]
theorem obind_left {x y : Option α} {f : α → Option β} (h : x = y) : x.bind f = y.bind f := by rw [h]
theorem bind_ite {c : Prop} [Decidable c] (x y : R α) (f : α → Rho → R β) : (if c then x else y).bind f = if c then x.bind f else y.bind f := by split <;> rfl
theorem map_ite {c : Prop} [Decidable c] (x y : R α) (f : α → β) : (if c then x else y).map f = if c then x.map f else y.map f := by split <;> rfl
theorem endR_ite {c : Prop} [Decidable c] {l : List Nat} {ts : List T} (x y : R Fl) : endR l ts (if c then x else y) = if c then endR l ts x else endR l ts y := by split <;> rfl
end
theorem endR_rt {l : List Nat} {ts : List T} (t : T) (ρ : Rho) : endR l ts (.ok (.rt t) ρ) = match backs l 0 ts ρ with
    | some us => .ok t us
    | none => .no := rfl
theorem endR_nx {l : List Nat} {ts : List T} (ρ : Rho) : endR l ts (.ok .nx ρ) = match backs l 0 ts ρ with
    | some us => .ok (.fz .none) us
    | none => .no := rfl
theorem endR_exc {l : List Nat} {ts : List T} (x : Ex) (ρ : Rho) : endR l ts (.exc x ρ) = match backs l 0 ts ρ with
    | some us => .exc x us
    | none => .no := rfl
theorem bi_len (ds : List D) : biD .len [.list ds] = some (.fz (.int ds.length)) := rfl
theorem bi_lenT (ds : List D) : biD .len [.tuple ds] = some (.fz (.int ds.length)) := rfl
theorem bi_abs (i : Int) : biD .abs [.int i] = some (.fz (.int (if i < 0 then -i else i))) := rfl
theorem bi_int (i : Int) : biD .int [.int i] = some (.fz (.int i)) := rfl
theorem bi_list (ds : List D) : biD .list [.list ds] = some (.ol ds) := rfl
theorem bi_listT (ds : List D) : biD .list [.tuple ds] = some (.ol ds) := rfl
theorem bi_max2 (i j : Int) : biD .max2 [.int i, .int j] = some (.fz (.int (if j > i then j else i))) := rfl
theorem bi_min2 (i j : Int) : biD .min2 [.int i, .int j] = some (.fz (.int (if j < i then j else i))) := rfl
theorem sz_eq : sizeLine = 16777216 := by decide
/-- what follows a statement -/
def thenK (Φ : Fx) (ss : Ss) (f : Fl) (ρ : Rho) : R Fl := match f with
  | .nx => exSs Φ ss ρ
  | g => .ok g ρ
section
variable {Φ : Fx}
/-! ### expressions -/
abbrev dflT (o : Rho → R Opd) (ρ : Rho) : R Bool := (o ρ).bind fun x ρ1 => R.of ((x.see ρ1).bind truthD) ρ1
theorem e_nm (i : Nat) (ρ : Rho) : (ev2 Φ (.nm i)).1 ρ = match slotT ρ i with
    | some _ => .ok (.sl i) ρ
    | none => .no := rfl
theorem e_int (i : Int) (ρ : Rho) : (ev2 Φ (.int i)).1 ρ = .ok (.tmp (.fz (.int i))) ρ := rfl
theorem e_str (i : Str) (ρ : Rho) : (ev2 Φ (.str i)).1 ρ = .ok (.tmp (.fz (.str i))) ρ := rfl
theorem e_bl (i : Bool) (ρ : Rho) : (ev2 Φ (.bl i)).1 ρ = .ok (.tmp (.fz (.bool i))) ρ := rfl
theorem e_non (ρ : Rho) : (ev2 Φ .non).1 ρ = .ok (.tmp (.fz .none)) ρ := rfl
theorem e_glb (x : Str) (d : D) (ρ : Rho) : (ev2 Φ (.glb x d)).1 ρ = .ok (.tmp (.fz d)) ρ := rfl
theorem e_bin (op : Operator) (a b : E) (ρ : Rho) : (ev2 Φ (.bin op a b)).1 ρ = ((ev2 Φ a).1 ρ).bind fun x ρ1 => ((ev2 Φ b).1 ρ1).bind fun y ρ2 => R.of ((x.see ρ2).bind fun d => (y.see ρ2).bind fun e => (binD op d e).map Opd.tmp) ρ2 := rfl
theorem e_neg (a : E) (ρ : Rho) : (ev2 Φ (.neg a)).1 ρ = ((ev2 Φ a).1 ρ).bind fun x ρ1 => R.of ((x.see ρ1).bind fun d => (negD d).map fun e => .tmp (.fz e)) ρ1 := rfl
theorem e_cmp (op : CmpOp) (a b : E) (ρ : Rho) : (ev2 Φ (.cmp op a b)).1 ρ = ofB (cmpB op (ev2 Φ a).1 (ev2 Φ b).1 ρ) := rfl
theorem t_cmp (op : CmpOp) (a b : E) (ρ : Rho) : (ev2 Φ (.cmp op a b)).2 ρ = cmpB op (ev2 Φ a).1 (ev2 Φ b).1 ρ := rfl
theorem chn_if (o1 o2 : CmpOp) (oa ob oc : Rho → R Opd) (ρ : Rho) : chnB o1 o2 oa ob oc ρ = (oa ρ).bind fun x ρ1 => (ob ρ1).bind fun y ρ2 => (R.of ((x.see ρ2).bind fun d => (y.see ρ2).bind fun e => cmpD o1 d e) ρ2).bind fun k ρ2 =>
    if k = true then (oc ρ2).bind fun z ρ3 => R.of ((y.see ρ3).bind fun e => (z.see ρ3).bind fun f => cmpD o2 e f) ρ3 else .ok false ρ2 := by
  unfold chnB
  congr
  funext x ρ1
  congr
  funext y ρ2
  cases ((x.see ρ2).bind fun d => (y.see ρ2).bind fun e => cmpD o1 d e) with
  | none => rfl
  | some b => cases b <;> rfl
theorem e_chn (o1 o2 : CmpOp) (a b c : E) (ρ : Rho) : (ev2 Φ (.chn o1 o2 a b c)).1 ρ = ofB (chnB o1 o2 (ev2 Φ a).1 (ev2 Φ b).1 (ev2 Φ c).1 ρ) := rfl
theorem t_chn (o1 o2 : CmpOp) (a b c : E) (ρ : Rho) : (ev2 Φ (.chn o1 o2 a b c)).2 ρ = chnB o1 o2 (ev2 Φ a).1 (ev2 Φ b).1 (ev2 Φ c).1 ρ := rfl
theorem e_and (a b : E) (ρ : Rho) : (ev2 Φ (.and_ a b)).1 ρ = (asT a (ev2 Φ a).1 ρ).bind fun t ρ1 => (R.of (t.view.bind truthD) ρ1).bind fun k ρ1 => if k = true then (asT b (ev2 Φ b).1 ρ1).map .tmp else .ok (.tmp t) ρ1 := by
  show (asT a (ev2 Φ a).1 ρ).bind _ = _
  congr
  funext t ρ1
  cases (t.view.bind truthD) with
  | none => rfl
  | some b => cases b <;> rfl
theorem e_or (a b : E) (ρ : Rho) : (ev2 Φ (.or_ a b)).1 ρ = (asT a (ev2 Φ a).1 ρ).bind fun t ρ1 => (R.of (t.view.bind truthD) ρ1).bind fun k ρ1 => if k = true then .ok (.tmp t) ρ1 else (asT b (ev2 Φ b).1 ρ1).map .tmp := by
  show (asT a (ev2 Φ a).1 ρ).bind _ = _
  congr
  funext t ρ1
  cases (t.view.bind truthD) with
  | none => rfl
  | some b => cases b <;> rfl
theorem t_and (a b : E) (ρ : Rho) : (ev2 Φ (.and_ a b)).2 ρ = ((ev2 Φ a).2 ρ).bind fun k ρ1 => if k = true then (ev2 Φ b).2 ρ1 else .ok false ρ1 := rfl
theorem t_or (a b : E) (ρ : Rho) : (ev2 Φ (.or_ a b)).2 ρ = ((ev2 Φ a).2 ρ).bind fun k ρ1 => if k = true then .ok true ρ1 else (ev2 Φ b).2 ρ1 := rfl
theorem e_not (a : E) (ρ : Rho) : (ev2 Φ (.not_ a)).1 ρ = ((ev2 Φ a).1 ρ).bind fun x ρ1 => R.of (((x.see ρ1).bind truthD).map fun k => .tmp (.fz (.bool (!k)))) ρ1 := rfl
theorem t_not (a : E) (ρ : Rho) : (ev2 Φ (.not_ a)).2 ρ = ((ev2 Φ a).2 ρ).map (!·) := rfl
theorem e_ite (c a b : E) (ρ : Rho) : (ev2 Φ (.ite c a b)).1 ρ = ((ev2 Φ c).2 ρ).bind fun k ρ1 => if k = true then (asT a (ev2 Φ a).1 ρ1).map .tmp else (asT b (ev2 Φ b).1 ρ1).map .tmp := rfl
theorem e_lst (es : Es) (ρ : Rho) : (ev2 Φ (.lst es)).1 ρ = (evDs Φ es ρ).bind fun ds ρ1 => if ds.length ≤ sizeLine then .ok (.tmp (.ol ds)) ρ1 else .no := rfl
theorem e_tup (es : Es) (ρ : Rho) : (ev2 Φ (.tup es)).1 ρ = (evDs Φ es ρ).bind fun ds ρ1 => if ds.length ≤ sizeLine then .ok (.tmp (.fz (.tuple ds))) ρ1 else .no := rfl
theorem e_idx (a i : E) (ρ : Rho) : (ev2 Φ (.idx a i)).1 ρ = ((ev2 Φ a).1 ρ).bind fun x ρ1 => ((ev2 Φ i).1 ρ1).bind fun y ρ2 => R.of ((x.see ρ2).bind fun d => (y.see ρ2).bind fun e => (idxD d e).map fun f => .tmp (.fz f)) ρ2 := rfl
theorem e_slc (a : E) (lo hi : OE) (ρ : Rho) : (ev2 Φ (.slc a lo hi)).1 ρ = ((ev2 Φ a).1 ρ).bind fun x ρ1 => (evOI Φ lo ρ1).bind fun l ρ2 => (evOI Φ hi ρ2).bind fun h ρ3 => R.of ((x.see ρ3).bind fun d => (slcD d l h).map Opd.tmp) ρ3 := rfl
theorem e_call (f : Str) (es : Es) (ds : List D) (ρ : Rho) : (ev2 Φ (.call f es ds)).1 ρ = (evOs Φ es ρ).bind fun os ρ1 => (callF Φ f os ds ρ1).map .tmp := rfl
theorem e_bi (f : Bi) (es : Es) (ρ : Rho) : (ev2 Φ (.bi f es)).1 ρ = (evOs Φ es ρ).bind fun os ρ1 => R.of ((sees ρ1 os).bind fun ds => (biD f ds).map Opd.tmp) ρ1 := rfl
theorem e_rl1 (a : E) (ρ : Rho) : (ev2 Φ (.rl1 a)).1 ρ = ((ev2 Φ a).1 ρ).bind fun x ρ1 => R.of ((x.see ρ1).bind fun d => (rl1D d).map Opd.tmp) ρ1 := rfl
theorem e_rl2 (a b : E) (ρ : Rho) : (ev2 Φ (.rl2 a b)).1 ρ = ((ev2 Φ a).1 ρ).bind fun x ρ1 => ((ev2 Φ b).1 ρ1).bind fun y ρ2 => R.of ((x.see ρ2).bind fun d => (y.see ρ2).bind fun e => (rl2D d e).map Opd.tmp) ρ2 := rfl
theorem e_isi (a : E) (ks : List Kd) (ρ : Rho) : (ev2 Φ (.isi a ks)).1 ρ = ((ev2 Φ a).1 ρ).bind fun x ρ1 => R.of ((x.see ρ1).map fun d => .tmp (.fz (.bool (ks.any fun k => isKd k d)))) ρ1 := rfl
theorem e_me (m : Me) (o : E) (es : Es) (ρ : Rho) : (ev2 Φ (.me m o es)).1 ρ = ((ev2 Φ o).1 ρ).bind fun x ρ1 => if ((x.see ρ1).map (meTy m)).getD false then (evOs Φ es ρ1).bind fun os ρ2 => R.of ((x.see ρ2).bind fun d => (sees ρ2 os).bind fun ds => (meD m d ds).map Opd.tmp) ρ2 else .no := rfl
theorem e_mu (m : Mu) (i : Nat) (es : Es) (ρ : Rho) : (ev2 Φ (.mu m i es)).1 ρ = if isOl (slotT ρ i) then (evDs Φ es ρ).bind (muFin m i) else .no := rfl
theorem lets_ok {α : Type} (a : α) (ρ : Rho) (b : Rho → Rho) : (R.ok a ρ).lets b = .ok a ρ := rfl
theorem lets_exc {α : Type} (x : Ex) (ρ : Rho) (b : Rho → Rho) : (R.exc x ρ : R α).lets b = .exc x (b ρ) := rfl
theorem e_lc (tg : Tg) (own : List Nat) (it : It) (c : OE) (elt : E) (ρ : Rho) : (ev2 Φ (.lc tg own it c elt)).1 ρ = (evI Φ it ρ).bind fun src ρ1 => ((lcRun own tg src (evC Φ c) (asD elt (ev2 Φ elt).1) src.len 0 [] (wipeR ρ1 own)).lets fun ρ2 => backR ρ1 (wipeR ρ2 own) own).bind fun ds ρ2 => .ok (.tmp (.ol ds)) (backR ρ1 ρ2 own) := rfl
theorem e_lrv (a : E) (ρ : Rho) : (ev2 Φ (.lrv a)).1 ρ = ((ev2 Φ a).1 ρ).bind fun x ρ1 => R.of ((x.see ρ1).bind fun d => (lrvD d).map Opd.tmp) ρ1 := rfl
theorem e_lrr (a : E) (ρ : Rho) : (ev2 Φ (.lrr a)).1 ρ = ((ev2 Φ a).1 ρ).bind fun x ρ1 => R.of ((x.see ρ1).bind fun d => (lrrD d).map Opd.tmp) ρ1 := rfl
theorem lrv_l (ds : List D) : lrvD (.list ds) = some (.ol ds.reverse) := rfl
theorem e_dn (b : Bool) (ρ : Rho) : (ev2 Φ (.dn b)).1 ρ = .ok (.tmp (.od b [])) ρ := rfl
theorem e_d1 (k v : E) (ρ : Rho) : (ev2 Φ (.d1 k v)).1 ρ = (asD k (ev2 Φ k).1 ρ).bind fun x ρ1 => (asD v (ev2 Φ v).1 ρ1).bind fun y ρ2 => if (keyD x).isSome then .ok (.tmp (.od false [(x, y)])) ρ2 else .no := rfl
theorem e_dpr (a : E) (ρ : Rho) : (ev2 Φ (.dpr a)).1 ρ = ((ev2 Φ a).1 ρ).bind fun x ρ1 => R.of ((x.see ρ1).bind fun d => (dprD d).map Opd.tmp) ρ1 := rfl
theorem e_dat (a k : E) (ρ : Rho) : (ev2 Φ (.dat a k)).1 ρ = ((ev2 Φ a).1 ρ).bind fun x ρ1 => ((ev2 Φ k).1 ρ1).bind fun y ρ2 => R.of ((x.dic ρ2).bind fun q => (y.see ρ2).bind fun e => (datD q e).map fun f => .tmp (.fz f)) ρ2 := rfl
theorem e_din (neg : Bool) (k a : E) (ρ : Rho) : (ev2 Φ (.din neg k a)).1 ρ = ofB (((ev2 Φ k).1 ρ).bind fun y ρ1 => ((ev2 Φ a).1 ρ1).bind fun x ρ2 => R.of ((y.see ρ2).bind fun e => (x.dic ρ2).bind fun q => (dinD q e).map fun r => if neg then !r else r) ρ2) := rfl
theorem t_din (neg : Bool) (k a : E) (ρ : Rho) : (ev2 Φ (.din neg k a)).2 ρ = ((ev2 Φ k).1 ρ).bind fun y ρ1 => ((ev2 Φ a).1 ρ1).bind fun x ρ2 => R.of ((y.see ρ2).bind fun e => (x.dic ρ2).bind fun q => (dinD q e).map fun r => if neg then !r else r) ρ2 := rfl
theorem e_dge (a k : E) (d : OE) (ρ : Rho) : (ev2 Φ (.dge a k d)).1 ρ = ((ev2 Φ a).1 ρ).bind fun x ρ1 => if (x.dic ρ1).isSome then ((ev2 Φ k).1 ρ1).bind fun y ρ2 => (evODf Φ d ρ2).bind fun f ρ3 => R.of ((x.dic ρ3).bind fun q => (y.see ρ3).bind fun e => (dgeD q e f).map fun g => .tmp (.fz g)) ρ3 else .no := rfl
theorem odf_none (ρ : Rho) : evODf Φ .none ρ = .ok .none ρ := rfl
theorem odf_some (e : E) (ρ : Rho) : evODf Φ (.some e) ρ = asD e (ev2 Φ e).1 ρ := rfl
theorem e_lcd (s i : Nat) (c : OE) (elt : E) (ρ : Rho) : (ev2 Φ (.lcd s i c elt)).1 ρ = lcdRun s i (evC Φ c) (asD elt (ev2 Φ elt).1) ρ := rfl
theorem i_rv (e : E) (ρ : Rho) : evI Φ (.rev e) ρ = (asD e (ev2 Φ e).1 ρ).bind fun d ρ1 => R.of (match d with | .list ds => some (.tmp false ds.reverse) | _ => none) ρ1 := rfl
/-! ### truth of a value -/
theorem t_nm (i : Nat) (ρ : Rho) : (ev2 Φ (.nm i)).2 ρ = dflT (ev2 Φ (.nm i)).1 ρ := rfl
theorem t_bl (b : Bool) (ρ : Rho) : (ev2 Φ (.bl b)).2 ρ = .ok b ρ := rfl
theorem t_idx (a i : E) (ρ : Rho) : (ev2 Φ (.idx a i)).2 ρ = dflT (ev2 Φ (.idx a i)).1 ρ := rfl
theorem t_call (f : Str) (es : Es) (ds : List D) (ρ : Rho) : (ev2 Φ (.call f es ds)).2 ρ = dflT (ev2 Φ (.call f es ds)).1 ρ := rfl
theorem t_bi (f : Bi) (es : Es) (ρ : Rho) : (ev2 Φ (.bi f es)).2 ρ = dflT (ev2 Φ (.bi f es)).1 ρ := rfl
theorem t_isi (a : E) (ks : List Kd) (ρ : Rho) : (ev2 Φ (.isi a ks)).2 ρ = dflT (ev2 Φ (.isi a ks)).1 ρ := rfl
theorem t_lc (tg : Tg) (own : List Nat) (it : It) (c : OE) (elt : E) (ρ : Rho) : (ev2 Φ (.lc tg own it c elt)).2 ρ = dflT (ev2 Φ (.lc tg own it c elt)).1 ρ := rfl
theorem t_bin (op : Operator) (a b : E) (ρ : Rho) : (ev2 Φ (.bin op a b)).2 ρ = dflT (ev2 Φ (.bin op a b)).1 ρ := rfl
theorem t_dat (a k : E) (ρ : Rho) : (ev2 Φ (.dat a k)).2 ρ = dflT (ev2 Φ (.dat a k)).1 ρ := rfl
theorem t_dge (a k : E) (d : OE) (ρ : Rho) : (ev2 Φ (.dge a k d)).2 ρ = dflT (ev2 Φ (.dge a k d)).1 ρ := rfl
theorem t_slc (a : E) (lo hi : OE) (ρ : Rho) : (ev2 Φ (.slc a lo hi)).2 ρ = dflT (ev2 Φ (.slc a lo hi)).1 ρ := rfl
theorem t_lcd (s i : Nat) (c : OE) (elt : E) (ρ : Rho) : (ev2 Φ (.lcd s i c elt)).2 ρ = dflT (ev2 Φ (.lcd s i c elt)).1 ρ := rfl
/-! ### lists of expressions, walks -/
theorem ds_nil (ρ : Rho) : evDs Φ .nil ρ = .ok [] ρ := rfl
theorem ds_cons (e : E) (es : Es) (ρ : Rho) : evDs Φ (.cons e es) ρ = (asD e (ev2 Φ e).1 ρ).bind fun d ρ1 => (evDs Φ es ρ1).map (d :: ·) := rfl
theorem os_nil (ρ : Rho) : evOs Φ .nil ρ = .ok [] ρ := rfl
theorem os_cons (e : E) (es : Es) (ρ : Rho) : evOs Φ (.cons e es) ρ = ((ev2 Φ e).1 ρ).bind fun o ρ1 => (evOs Φ es ρ1).map (o :: ·) := rfl
theorem oi_none (ρ : Rho) : evOI Φ .none ρ = .ok none ρ := rfl
theorem oi_some (e : E) (ρ : Rho) : evOI Φ (.some e) ρ = ((ev2 Φ e).1 ρ).bind fun x ρ1 => R.of ((x.see ρ1).bind fun d => match d with | .int i => some (some i) | _ => none) ρ1 := rfl
theorem c_none (ρ : Rho) : evC Φ .none ρ = .ok true ρ := rfl
theorem c_some (e : E) (ρ : Rho) : evC Φ (.some e) ρ = (ev2 Φ e).2 ρ := rfl
theorem i_op (e : E) (ρ : Rho) : evI Φ (.opd e) ρ = ((ev2 Φ e).1 ρ).bind fun x ρ1 => R.of ((x.see ρ1).bind (srcD x)) ρ1 := rfl
theorem src_of {x : Opd} {d : D} {q : Bool × List D} (h : seqD d = some q) : srcD x d = some (opdSrc x q) := by
  cases d <;> cases h <;> rfl
theorem i_r1 (a : E) (ρ : Rho) : evI Φ (.rng1 a) ρ = ((ev2 Φ a).1 ρ).bind fun x ρ1 => R.of ((x.see ρ1).bind fun d => match d with | .int j => if rngOk 0 j then some (.rng 0 1 j.toNat) else none | _ => none) ρ1 := rfl
theorem i_r2 (a b : E) (ρ : Rho) : evI Φ (.rng2 a b) ρ = ((ev2 Φ a).1 ρ).bind fun x ρ1 => ((ev2 Φ b).1 ρ1).bind fun y ρ2 => R.of ((x.see ρ2).bind fun d => (y.see ρ2).bind fun e => match d, e with | .int i, .int j => if rngOk i j then some (.rng i 1 (j - i).toNat) else none | _, _ => none) ρ2 := rfl
theorem r1_ok {a : E} {ρ ρ1 : Rho} {j : Int} (h : (ev2 Φ a).1 ρ = .ok (.tmp (.fz (.int j))) ρ1) (hr : rngOk 0 j = true) : evI Φ (.rng1 a) ρ = .ok (.rng 0 1 j.toNat) ρ1 := by
  rw [i_r1, h, bind_ok]
  show R.of (if rngOk 0 j then some (Src.rng 0 1 j.toNat) else none) ρ1 = _
  rw [hr]
  rfl
theorem r2_ok {a b : E} {ρ ρ1 ρ2 : Rho} {i j : Int} (h : (ev2 Φ a).1 ρ = .ok (.tmp (.fz (.int i))) ρ1) (h2 : (ev2 Φ b).1 ρ1 = .ok (.tmp (.fz (.int j))) ρ2) (hr : rngOk i j = true) : evI Φ (.rng2 a b) ρ = .ok (.rng i 1 (j - i).toNat) ρ2 := by
  rw [i_r2, h, bind_ok, h2, bind_ok]
  show R.of (if rngOk i j then some (Src.rng i 1 (j - i).toNat) else none) ρ2 = _
  rw [hr]
  rfl
theorem as_nm (i : Nat) (o : Rho → R Opd) (ρ : Rho) : asT (.nm i) o ρ = takeSlot i ρ := rfl
theorem as_mv (i : Nat) (o : Rho → R Opd) (ρ : Rho) : asT (.mv i) o ρ = moveSlot i ρ := rfl
/-! ### statements -/
theorem x_nil (ρ : Rho) : exSs Φ .nil ρ = .ok .nx ρ := rfl
theorem x_cons (s : S) (ss : Ss) (ρ : Rho) : exSs Φ (.cons s ss) ρ = (exS Φ s ρ).bind (thenK Φ ss) := rfl
theorem sq_nx (ss : Ss) (ρ : Rho) : thenK Φ ss .nx ρ = exSs Φ ss ρ := rfl
theorem sq_rt (ss : Ss) (t : T) (ρ : Rho) : thenK Φ ss (.rt t) ρ = .ok (.rt t) ρ := rfl
theorem sq_bk (ss : Ss) (ρ : Rho) : thenK Φ ss .bk ρ = .ok .bk ρ := rfl
theorem sq_ct (ss : Ss) (ρ : Rho) : thenK Φ ss .ct ρ = .ok .ct ρ := rfl
theorem x_set (i : Nat) (e : E) (ρ : Rho) : exS Φ (.set i e) ρ = (asT e (ev2 Φ e).1 ρ).bind fun t ρ1 => .ok .nx (ρ1.set i (some t)) := rfl
theorem x_setF (i : Nat) (e : E) (ρ : Rho) : exS Φ (.setF i e) ρ = (asD e (ev2 Φ e).1 ρ).bind fun d ρ1 => .ok .nx (ρ1.set i (some (.fz d))) := rfl
theorem x_setT (is : List Nat) (e : E) (ρ : Rho) : exS Φ (.setT is e) ρ = ((ev2 Φ e).1 ρ).bind fun x ρ1 => setFin is (x.see ρ1) ρ1 := rfl
theorem x_par (i j : Nat) (a b : E) (ρ : Rho) : exS Φ (.par i j a b) ρ = (evDs Φ (.cons a (.cons b .nil)) ρ).bind (parFin i j) := rfl
theorem x_sub (i : Nat) (k e : E) (ρ : Rho) : exS Φ (.sub i k e) ρ = (asD e (ev2 Φ e).1 ρ).bind fun d ρ1 => if isOl (slotT ρ1 i) then ((ev2 Φ k).1 ρ1).bind fun y ρ2 => subFin i d (y.see ρ2) ρ2 else .no := rfl
theorem x_dst (i : Nat) (k e : E) (ρ : Rho) : exS Φ (.dst i k e) ρ = (asD e (ev2 Φ e).1 ρ).bind fun d ρ1 => if isOd (slotT ρ1 i) then ((ev2 Φ k).1 ρ1).bind fun y ρ2 => dstFin i d (y.see ρ2) ρ2 else .no := rfl
theorem x_ford (s i : Nat) (b : Ss) (ρ : Rho) : exS Φ (.ford s i b) ρ = match slotT ρ i with
    | some (.od false kvs) => if i ∈ s :: b.sets then .no else unlkF i (forRun (.one s) (.tmp false (kvs.map (·.1))) (exSs Φ b) kvs.length 0 (ρ.set i (some (.lk false kvs))))
    | _ => .no := rfl
theorem x_expr (e : E) (ρ : Rho) : exS Φ (.expr e) ρ = ((ev2 Φ e).1 ρ).bind fun _ ρ1 => .ok .nx ρ1 := rfl
theorem x_ret (e : E) (ρ : Rho) : exS Φ (.ret e) ρ = (asT e (ev2 Φ e).1 ρ).map .rt := rfl
theorem x_if (c : E) (a b : Ss) (ρ : Rho) : exS Φ (.ifS c a b) ρ = ((ev2 Φ c).2 ρ).bind fun k ρ1 => if k = true then exSs Φ a ρ1 else exSs Φ b ρ1 := rfl
theorem x_whl (c : E) (b : Ss) (ρ : Rho) : exS Φ (.whl c b) ρ = whileRun (evB Φ c) (exSs Φ b) Φ.fuel ρ := rfl
theorem x_for (tg : Tg) (it : It) (b : Ss) (ρ : Rho) : exS Φ (.for_ tg it b) ρ = (evI Φ it ρ).bind fun src ρ1 => if src.free (tg.is ++ b.sets) then forRun tg src (exSs Φ b) src.len 0 ρ1 else .no := rfl
theorem x_raise (c : Str) (e : E) (ρ : Rho) : exS Φ (.raise c e) ρ = ((ev2 Φ e).1 ρ).bind fun _ ρ1 => .exc ⟨c, []⟩ ρ1 := rfl
theorem x_pass (ρ : Rho) : exS Φ .pass ρ = .ok .nx ρ := rfl
theorem x_brk (ρ : Rho) : exS Φ .brk ρ = .ok .bk ρ := rfl
theorem x_cont (ρ : Rho) : exS Φ .cont ρ = .ok .ct ρ := rfl
theorem x_tryI (b : Ss) (h : Str) (i : Nat) (c1 c2 : Str) (ρ : Rho) : exS Φ (.tryI b h i c1 c2) ρ = catchI Φ h i c1 c2 (exSs Φ b ρ) := rfl
theorem x_tryC (b : Ss) (h : Str) (i : Nat) (f : Str) (ρ : Rho) : exS Φ (.tryC b h i f) ρ = catchC Φ h i f (exSs Φ b ρ) := rfl
end
/-! ### loops -/
section
variable {tg : Tg} {src : Src} {body : Rho → R Fl}
theorem for_wp (I : Nat → Rho → Prop) (P : R Fl → Prop) : ∀ (n j : Nat) (ρ : Rho), I j ρ →
    (∀ i ρ, j ≤ i → i < j + n → I i ρ → ∃ d ρ1, src.item i ρ = some d ∧ tg.put d ρ = some ρ1 ∧ match body ρ1 with
      | .ok .nx ρ2 => I (i + 1) ρ2
      | .ok .ct ρ2 => I (i + 1) ρ2
      | .ok .bk ρ2 => P (.ok .nx ρ2)
      | .ok (.rt t) ρ2 => P (.ok (.rt t) ρ2)
      | .exc x ρ2 => P (.exc x ρ2)
      | .no => False) →
    (∀ ρ, I (j + n) ρ → src.fin ρ = true ∧ P (.ok .nx ρ)) → P (forRun tg src body n j ρ)
  | 0, j, ρ, h0, _, hf => by
    obtain ⟨a, b⟩ := hf ρ h0
    unfold forRun
    rw [if_pos a]
    exact b
  | n + 1, j, ρ, h0, hs, hf => by
    obtain ⟨d, ρ1, e1, e2, h⟩ := hs j ρ (Nat.le_refl _) (by omega) h0
    unfold forRun
    simp only [e1, e2]
    have go : ∀ ρ2, I (j + 1) ρ2 → P (forRun tg src body n (j + 1) ρ2) := fun ρ2 h2 =>
      for_wp I P n (j + 1) ρ2 h2 (fun i ρ a b c => hs i ρ (by omega) (by omega) c) (fun ρ h => hf ρ (by rw [show j + (n + 1) = j + 1 + n by omega]; exact h))
    split at h <;> rename_i e <;> (try simp only [e] at h ⊢)
    · exact go _ h
    · exact go _ h
    · exact h
    · exact h
    · exact h
variable {own : List Nat} {c : Rho → R Bool} {elt : Rho → R D}
theorem lc_wp (I : Nat → List D → Rho → Prop) (P : R (List D) → Prop) : ∀ (n j : Nat) (acc : List D) (ρ : Rho), I j acc ρ →
    (∀ i acc ρ, j ≤ i → i < j + n → I i acc ρ → ∃ d ρ1, src.item i ρ = some d ∧ tg.put d ρ = some ρ1 ∧ ∃ b ρ2, c ρ1 = .ok b ρ2 ∧
      (b = true → ∃ y ρ3, elt ρ2 = .ok y ρ3 ∧ acc.length < sizeLine ∧ I (i + 1) (acc ++ [y]) (wipeR ρ3 own)) ∧ (b = false → I (i + 1) acc (wipeR ρ2 own))) →
    (∀ acc ρ, I (j + n) acc ρ → src.fin ρ = true ∧ P (.ok acc ρ)) → P (lcRun own tg src c elt n j acc ρ)
  | 0, j, acc, ρ, h0, _, hf => by
    obtain ⟨a, b⟩ := hf acc ρ h0
    unfold lcRun
    rw [if_pos a]
    exact b
  | n + 1, j, acc, ρ, h0, hs, hf => by
    obtain ⟨d, ρ1, e1, e2, b, ρ2, e3, ht, hff⟩ := hs j acc ρ (Nat.le_refl _) (by omega) h0
    unfold lcRun
    simp only [e1, e2, e3]
    have go : ∀ acc2 ρ2, I (j + 1) acc2 ρ2 → P (lcRun own tg src c elt n (j + 1) acc2 ρ2) := fun acc2 ρ2 h2 =>
      lc_wp I P n (j + 1) acc2 ρ2 h2 (fun i acc ρ a b c => hs i acc ρ (by omega) (by omega) c) (fun acc ρ h => hf acc ρ (by rw [show j + (n + 1) = j + 1 + n by omega]; exact h))
    cases b with
    | true =>
      obtain ⟨y, ρ3, e4, hl, h⟩ := ht rfl
      simp only [e4]
      rw [if_pos hl]
      exact go _ _ h
    | false => exact go _ _ (hff rfl)
/-- a walk that leaves the slots as they are -/
theorem lc_pure {ρ : Rho} {xs : List D} {n : Nat} (ok : D → Bool) (f : D → D) (hn : xs.length = n) (hsz : n ≤ sizeLine) (hi : ∀ i d, xs[i]? = some d → src.item i ρ = some d) (hfin : src.fin ρ = true)
    (h : ∀ d ∈ xs, ∃ ρ1, tg.put d ρ = some ρ1 ∧ ∃ ρ2, c ρ1 = .ok (ok d) ρ2 ∧ (ok d = true → ∃ ρ3, elt ρ2 = .ok (f d) ρ3 ∧ wipeR ρ3 own = ρ) ∧ (ok d = false → wipeR ρ2 own = ρ)) :
    lcRun own tg src c elt n 0 [] ρ = .ok ((xs.filter ok).map f) ρ := by
  refine lc_wp (fun i acc ρ' => ρ' = ρ ∧ acc = ((xs.take i).filter ok).map f) (fun r => r = .ok ((xs.filter ok).map f) ρ) n 0 [] ρ ⟨rfl, by simp⟩ ?_ ?_
  · rintro i acc _ _ hlt ⟨rfl, rfl⟩
    have hi' : i < xs.length := by omega
    have ex : xs[i]? = some xs[i] := List.getElem?_eq_getElem hi'
    obtain ⟨ρ1, e1, ρ2, e2, ht, hf⟩ := h xs[i] (List.getElem_mem hi')
    have tk : xs.take (i + 1) = xs.take i ++ [xs[i]] := by rw [List.take_add_one, ex]; rfl
    refine ⟨_, ρ1, hi i _ ex, e1, _, ρ2, e2, fun hb => ?_, fun hb => ?_⟩
    · obtain ⟨ρ3, e3, e4⟩ := ht hb
      refine ⟨_, ρ3, e3, ?_, e4, ?_⟩
      · have l1 := List.length_filter_le ok (xs.take i)
        rw [List.length_take] at l1
        rw [List.length_map]
        omega
      · rw [tk, List.filter_append, List.map_append]
        simp [hb]
    · refine ⟨hf hb, ?_⟩
      rw [tk, List.filter_append, List.map_append]
      simp [hb]
  · rintro acc _ ⟨rfl, rfl⟩
    refine ⟨hfin, ?_⟩
    rw [Nat.zero_add, List.take_of_length_le (by omega)]
/-- a walk over a range that leaves the slots as they are -/
theorem lc_rng {ρ : Rho} {lo : Int} {n s : Nat} (ok : Nat → Bool) (g : Nat → D) (hsz : n ≤ sizeLine)
    (h : ∀ i, i < n → ∃ ρ2, c (ρ.set s (some (.fz (.int (lo + (i : Int)))))) = .ok (ok i) ρ2 ∧ (ok i = true → ∃ ρ3, elt ρ2 = .ok (g i) ρ3 ∧ wipeR ρ3 own = ρ) ∧ (ok i = false → wipeR ρ2 own = ρ)) :
    lcRun own (.one s) (.rng lo 1 n) c elt n 0 [] ρ = .ok (((List.range n).filter ok).map g) ρ := by
  refine lc_wp (fun i acc ρ' => ρ' = ρ ∧ acc = ((List.range i).filter ok).map g) (fun r => r = .ok (((List.range n).filter ok).map g) ρ) n 0 [] ρ ⟨rfl, by simp⟩ ?_ ?_
  · rintro i acc _ _ hlt ⟨rfl, rfl⟩
    obtain ⟨ρ2, e2, ht, hf⟩ := h i (by omega)
    have e0 : lo + (i : Int) * 1 = lo + (i : Int) := by omega
    refine ⟨.int (lo + (i : Int) * 1), _, rfl, rfl, ok i, ρ2, by rw [e0]; exact e2, fun hb => ?_, fun hb => ?_⟩
    · obtain ⟨ρ3, e3, e4⟩ := ht hb
      refine ⟨_, ρ3, e3, ?_, e4, ?_⟩
      · have l1 := List.length_filter_le ok (List.range i)
        rw [List.length_range] at l1
        rw [List.length_map]
        omega
      · rw [List.range_succ, List.filter_append, List.map_append]
        simp [hb]
    · refine ⟨hf hb, ?_⟩
      rw [List.range_succ, List.filter_append, List.map_append]
      simp [hb]
  · rintro acc _ ⟨rfl, rfl⟩
    exact ⟨rfl, by rw [Nat.zero_add]⟩
variable {cnd : Rho → R Bool}
theorem while_wp (I : Nat → Rho → Prop) (P : R Fl → Prop) : ∀ (n m : Nat) (ρ : Rho), m < n → I m ρ →
    (∀ m ρ, I m ρ → ∃ b ρ1, cnd ρ = .ok b ρ1 ∧ (b = false → P (.ok .nx ρ1)) ∧ (b = true → match body ρ1 with
      | .ok .nx ρ2 => ∃ m', m' < m ∧ I m' ρ2
      | .ok .ct ρ2 => ∃ m', m' < m ∧ I m' ρ2
      | .ok .bk ρ2 => P (.ok .nx ρ2)
      | .ok (.rt t) ρ2 => P (.ok (.rt t) ρ2)
      | .exc x ρ2 => P (.exc x ρ2)
      | .no => False)) → P (whileRun cnd body n ρ)
  | 0, m, ρ, hm, _, _ => by omega
  | n + 1, m, ρ, hm, h0, hs => by
    obtain ⟨b, ρ1, e1, hf, ht⟩ := hs m ρ h0
    unfold whileRun
    simp only [e1]
    cases b with
    | false => exact hf rfl
    | true =>
      have h := ht rfl
      have go : ∀ ρ2, (∃ m', m' < m ∧ I m' ρ2) → P (whileRun cnd body n ρ2) := fun ρ2 ⟨m', l, h2⟩ => while_wp I P n m' ρ2 (by omega) h2 hs
      split at h <;> rename_i e <;> (try simp only [e] at h ⊢)
      · exact go _ h
      · exact go _ h
      · exact h
      · exact h
      · exact h
end
end L2.Eng

/-! EngQ: the helpers that the laws share. -/
namespace L2.Eng
open PySem
/-! ### the pool -/
def poolL (ns : List Int) (i a b c : Int) : List D := [.list (ns.map PyData.int), .int i, .int a, .int b, .int c]
def Pool (p : List D) : Prop := ∃ ns i a b c, p = poolL ns i a b c ∧ 0 ≤ i ∧ ns.length ≤ 63
def drawS1 : S := .ifS (.cmp .Gt (.idx (.nm 0) (.int 2)) (.int 0)) (.cons (.setF 3 (.bin .Mod (.bi .int (.cons (.idx (.nm 0) (.int 2)) .nil)) (.nm 1)))
    (.cons (.sub 0 (.int 2) (.bin .FloorDiv (.idx (.nm 0) (.int 2)) (.nm 1)))
    (.cons (.ret (.mv 3))
    .nil))) .nil
def drawS2 : S := .ifS (.and_ (.cmp .Eq (.bin .Mod (.bi .int (.cons (.idx (.nm 0) (.int 4)) .nil)) (.int 8)) (.int 0)) (.cmp .Lt (.idx (.nm 0) (.int 1)) (.bi .len (.cons (.idx (.nm 0) (.int 0)) .nil)))) (.cons (.setF 4 (.bi .abs (.cons (.idx (.idx (.nm 0) (.int 0)) (.idx (.nm 0) (.int 1))) .nil)))
    (.cons (.sub 0 (.int 1) (.bin .Add (.idx (.nm 0) (.int 1)) (.int 1)))
    (.cons (.ifS (.cmp .GtE (.nm 4) (.bin .Pow (.int 10) (.int 18))) (.cons (.sub 0 (.int 2) (.bin .FloorDiv (.nm 4) (.nm 1)))
    (.cons (.ret (.bin .Mod (.bi .int (.cons (.nm 4) .nil)) (.nm 1)))
    .nil)) .nil)
    (.cons (.sub 0 (.int 3) (.nm 4))
    .nil)))) .nil
def drawT : Ss := (.cons (.sub 0 (.int 4) (.bin .Add (.idx (.nm 0) (.int 4)) (.int 1)))
    (.cons (.setF 2 (.bin .Mod (.bi .int (.cons (.bin .Add (.bin .Add (.bin .Mult (.idx (.nm 0) (.int 3)) (.int 48271)) (.bin .Mult (.idx (.nm 0) (.int 4)) (.int 69621))) (.int 7919)) .nil)) (.int 2147483647)))
    (.cons (.setF 2 (.bin .Mod (.bi .int (.cons (.bin .Add (.bin .Mult (.nm 2) (.nm 2)) (.bin .Mult (.idx (.nm 0) (.int 4)) (.int 40692))) .nil)) (.int 2147483399)))
    (.cons (.ret (.bin .Mod (.bi .int (.cons (.nm 2) .nil)) (.nm 1)))
    .nil))))
def drawBody : Ss := .cons drawS1 (.cons drawS2 drawT)
section
variable (x0 x1 x2 x3 x4 y : D)
theorem at0 : atI [x0, x1, x2, x3, x4] 0 = some x0 := rfl
theorem at1 : atI [x0, x1, x2, x3, x4] 1 = some x1 := rfl
theorem at2 : atI [x0, x1, x2, x3, x4] 2 = some x2 := rfl
theorem at3 : atI [x0, x1, x2, x3, x4] 3 = some x3 := rfl
theorem at4 : atI [x0, x1, x2, x3, x4] 4 = some x4 := rfl
theorem ix1 : ixN 5 1 = some 1 := rfl
theorem ix2 : ixN 5 2 = some 2 := rfl
theorem ix3 : ixN 5 3 = some 3 := rfl
theorem ix4 : ixN 5 4 = some 4 := rfl
end
theorem mul_l {i j : Int} (h : -(2 ^ 64) < i ∧ i < 2 ^ 64) : mulOk i j = true := by
  unfold mulOk
  rw [decide_eq_true h]
  rfl
theorem mul_r {i j : Int} (h : -(2 ^ 64) < j ∧ j < 2 ^ 64) : mulOk i j = true := by
  unfold mulOk
  rw [decide_eq_true h, Bool.or_true]
theorem eqv_int (i j : Int) : PyData.eqv (.int i) (.int j) = decide (i = j) := by
  unfold PyData.eqv
  first | rfl | simp
theorem na10 : Int.natAbs 10 = 10 := rfl
theorem tn18 : Int.toNat 18 = 18 := rfl
theorem atI_ints {ns : List Int} {i : Int} (h0 : 0 ≤ i) (h1 : i < ns.length) : ∃ x, atI (ns.map PyData.int) i = some (.int x) := by
  have hi : i.toNat < ns.length := by omega
  refine ⟨ns[i.toNat], ?_⟩
  unfold atI ixN
  rw [List.length_map, if_pos h0, if_pos h1]
  simp [hi]
theorem draw_ok {p : List D} {m : Int} (hp : Pool p) (h0 : 0 < m) (h1 : m < 1073741824) : ∃ r p', Pool p' ∧ 0 ≤ r ∧ r < m ∧ ∀ Φ, endR drawBody.sets [.ol p, .fz (.int m)] (exSs Φ drawBody (startR 5 [.ol p, .fz (.int m)])) = .ok (.fz (.int r)) [.ol p', .fz (.int m)] := by
  obtain ⟨ns, i, a, b, c, rfl, hi, hl⟩ := hp
  have fd : m ≠ 0 ∧ m.natAbs < 1073741824 := by omega
  have fm : m ≠ 0 := by omega
  have st : startR 5 [.ol (poolL ns i a b c), .fz (.int m)] = [some (.ol (poolL ns i a b c)), some (.fz (.int m)), none, none, none] := rfl
  by_cases ha : 0 < a
  · refine ⟨a.fmod m, poolL ns i (a.fdiv m) b c, ⟨ns, i, _, b, c, rfl, hi, hl⟩, Int.fmod_nonneg_of_pos _ h0, Int.fmod_lt_of_pos _ h0, fun Φ => ?_⟩
    simp -implicitDefEqProofs only [drawBody, drawS1, drawS2, drawT, poolL, e_nm, e_int, e_str, e_bl, e_non, e_glb, e_bin, e_neg, e_cmp, t_cmp, chn_if, e_chn, t_chn, e_and, e_or, t_and, t_or, e_not, t_not, e_ite, e_lst, e_tup, e_idx, e_slc, e_call, e_bi, e_rl1, e_rl2, e_isi, e_me, e_mu, e_lrv, e_lrr, lrv_l, e_dn, e_d1, e_dpr, e_dat, e_din, t_din, e_dge, odf_none, odf_some, t_dat, t_dge, t_slc, t_lcd, x_dst, i_rv, isOd, dstFin, Opd.dic, dOf, Option.isSome_some, Option.isSome_none, t_nm, t_bl, t_idx, t_call, t_bi, t_isi, t_lc, t_bin, ds_nil, ds_cons, os_nil, os_cons, oi_none, oi_some, c_none, c_some, i_op, as_nm, as_mv, x_nil, x_cons, sq_nx, sq_rt, sq_bk, sq_ct, x_set, x_setF, x_setT, x_par, x_sub, x_expr, x_ret, x_if, x_whl, x_for, x_raise, x_pass, x_brk, x_cont, x_tryC, x_tryI, bind_ok, bind_exc, map_ok, map_exc, of_some, bind_ite, map_ite, endR_ite, dflT, asT, asD, frz, ofB, cmpB, takeSlot, moveSlot, slotT, Opd.see, sees, T.view, truthD, cmpD, eqD, scalD, binD, negD, isKd, callF, takeA, putA, startR, endR_rt, endR_nx, endR_exc, backs, evB, evT, evD, evO, List.map_cons, List.map_nil, List.length_cons, List.length_nil, List.cons_append, List.nil_append, List.append_nil, List.set_cons_zero, List.set_cons_succ, List.getElem?_cons_zero, List.getElem?_cons_succ, List.replicate_zero, List.replicate_succ, Option.join_some, Option.join_none, Option.bind_some, Option.bind_none, Option.map_some, Option.map_none, Nat.reduceAdd, Nat.reduceSub, Nat.sub_self, List.any_cons, List.any_nil, Bool.or_false, Bool.false_or, Bool.or_true, Bool.true_or, Bool.and_true, Bool.true_and, Bool.and_false, Bool.false_and, Bool.not_true, Bool.not_false, Bool.false_eq_true, reduceIte, reduceCtorEq, decide_eq_true_eq, Bool.not_eq_true', decide_eq_false_iff_not, sz_eq, Nat.reduceLeDiff, isOl, subFin, muFin, muD, setFin, setMany, parFin, idxD, slcD, bi_len, bi_lenT, bi_abs, bi_int, bi_list, bi_listT, bi_max2, bi_min2, Ss.sets, S.sets, Tg.is, List.mem_cons, List.not_mem_nil, or_false, or_true, false_or, true_or, List.mem_append, List.append_assoc, List.append_eq, at0, at1, at2, at3, at4, ix2, ha, fd, fm, decide_true, ne_eq, not_false_eq_true, and_self]
  · -- behind the first question
    have one : ∀ Φ, exS Φ drawS1 [some (.ol (poolL ns i a b c)), some (.fz (.int m)), none, none, none] = .ok .nx [some (.ol (poolL ns i a b c)), some (.fz (.int m)), none, none, none] := fun Φ => by
      simp -implicitDefEqProofs only [drawS1, poolL, e_nm, e_int, e_str, e_bl, e_non, e_glb, e_bin, e_neg, e_cmp, t_cmp, chn_if, e_chn, t_chn, e_and, e_or, t_and, t_or, e_not, t_not, e_ite, e_lst, e_tup, e_idx, e_slc, e_call, e_bi, e_rl1, e_rl2, e_isi, e_me, e_mu, e_lrv, e_lrr, lrv_l, e_dn, e_d1, e_dpr, e_dat, e_din, t_din, e_dge, odf_none, odf_some, t_dat, t_dge, t_slc, t_lcd, x_dst, i_rv, isOd, dstFin, Opd.dic, dOf, Option.isSome_some, Option.isSome_none, t_nm, t_bl, t_idx, t_call, t_bi, t_isi, t_lc, t_bin, ds_nil, ds_cons, os_nil, os_cons, oi_none, oi_some, c_none, c_some, i_op, as_nm, as_mv, x_nil, x_cons, sq_nx, sq_rt, sq_bk, sq_ct, x_set, x_setF, x_setT, x_par, x_sub, x_expr, x_ret, x_if, x_whl, x_for, x_raise, x_pass, x_brk, x_cont, x_tryC, x_tryI, bind_ok, bind_exc, map_ok, map_exc, of_some, bind_ite, map_ite, endR_ite, dflT, asT, asD, frz, ofB, cmpB, takeSlot, moveSlot, slotT, Opd.see, sees, T.view, truthD, cmpD, eqD, scalD, binD, negD, isKd, callF, takeA, putA, startR, endR_rt, endR_nx, endR_exc, backs, evB, evT, evD, evO, List.map_cons, List.map_nil, List.length_cons, List.length_nil, List.cons_append, List.nil_append, List.append_nil, List.set_cons_zero, List.set_cons_succ, List.getElem?_cons_zero, List.getElem?_cons_succ, List.replicate_zero, List.replicate_succ, Option.join_some, Option.join_none, Option.bind_some, Option.bind_none, Option.map_some, Option.map_none, Nat.reduceAdd, Nat.reduceSub, Nat.sub_self, List.any_cons, List.any_nil, Bool.or_false, Bool.false_or, Bool.or_true, Bool.true_or, Bool.and_true, Bool.true_and, Bool.and_false, Bool.false_and, Bool.not_true, Bool.not_false, Bool.false_eq_true, reduceIte, reduceCtorEq, decide_eq_true_eq, Bool.not_eq_true', decide_eq_false_iff_not, sz_eq, Nat.reduceLeDiff, isOl, subFin, muFin, muD, setFin, setMany, parFin, idxD, slcD, bi_len, bi_lenT, bi_abs, bi_int, bi_list, bi_listT, bi_max2, bi_min2, Ss.sets, S.sets, Tg.is, List.mem_cons, List.not_mem_nil, or_false, or_true, false_or, true_or, List.mem_append, List.append_assoc, List.append_eq, ha, at0, at1, at2, at3, at4, ix1, ix2, ix3, ix4, fd, fm, eqv_int, na10, tn18, decide_true, decide_false, ne_eq, not_false_eq_true, not_true_eq_false, and_self, and_true, true_and, Int.reduceEq, Int.reduceLE, Int.reducePow, Int.reduceLT, Nat.reduceLT, Nat.reducePow]
    have rest : ∀ (i b : Int), ∃ r c', 0 ≤ r ∧ r < m ∧ ∀ (Φ : Fx) (σ4 : Option T) (q : List D), endR drawBody.sets [.ol q, .fz (.int m)] (exSs Φ drawT [some (.ol (poolL ns i a b c)), some (.fz (.int m)), none, none, σ4]) = .ok (.fz (.int r)) [.ol (poolL ns i a b c'), .fz (.int m)] := by
      intro i b
      have b1 := Int.fmod_nonneg_of_pos (b * 48271 + (c + 1) * 69621 + 7919) (show (0 : Int) < 2147483647 by decide)
      have b2 := Int.fmod_lt_of_pos (b * 48271 + (c + 1) * 69621 + 7919) (show (0 : Int) < 2147483647 by decide)
      have k1 : ∀ x, mulOk x 48271 = true := fun x => mul_r (by decide)
      have k2 : ∀ x, mulOk x 69621 = true := fun x => mul_r (by decide)
      have k3 : ∀ x, mulOk x 40692 = true := fun x => mul_r (by decide)
      have k4 : mulOk ((b * 48271 + (c + 1) * 69621 + 7919).fmod 2147483647) ((b * 48271 + (c + 1) * 69621 + 7919).fmod 2147483647) = true := mul_l (by omega)
      refine ⟨(((b * 48271 + (c + 1) * 69621 + 7919).fmod 2147483647 * (b * 48271 + (c + 1) * 69621 + 7919).fmod 2147483647 + (c + 1) * 40692).fmod 2147483399).fmod m, c + 1, Int.fmod_nonneg_of_pos _ h0, Int.fmod_lt_of_pos _ h0, fun Φ σ4 q => ?_⟩
      simp -implicitDefEqProofs only [drawBody, drawS1, drawS2, drawT, poolL, e_nm, e_int, e_str, e_bl, e_non, e_glb, e_bin, e_neg, e_cmp, t_cmp, chn_if, e_chn, t_chn, e_and, e_or, t_and, t_or, e_not, t_not, e_ite, e_lst, e_tup, e_idx, e_slc, e_call, e_bi, e_rl1, e_rl2, e_isi, e_me, e_mu, e_lrv, e_lrr, lrv_l, e_dn, e_d1, e_dpr, e_dat, e_din, t_din, e_dge, odf_none, odf_some, t_dat, t_dge, t_slc, t_lcd, x_dst, i_rv, isOd, dstFin, Opd.dic, dOf, Option.isSome_some, Option.isSome_none, t_nm, t_bl, t_idx, t_call, t_bi, t_isi, t_lc, t_bin, ds_nil, ds_cons, os_nil, os_cons, oi_none, oi_some, c_none, c_some, i_op, as_nm, as_mv, x_nil, x_cons, sq_nx, sq_rt, sq_bk, sq_ct, x_set, x_setF, x_setT, x_par, x_sub, x_expr, x_ret, x_if, x_whl, x_for, x_raise, x_pass, x_brk, x_cont, x_tryC, x_tryI, bind_ok, bind_exc, map_ok, map_exc, of_some, bind_ite, map_ite, endR_ite, dflT, asT, asD, frz, ofB, cmpB, takeSlot, moveSlot, slotT, Opd.see, sees, T.view, truthD, cmpD, eqD, scalD, binD, negD, isKd, callF, takeA, putA, startR, endR_rt, endR_nx, endR_exc, backs, evB, evT, evD, evO, List.map_cons, List.map_nil, List.length_cons, List.length_nil, List.cons_append, List.nil_append, List.append_nil, List.set_cons_zero, List.set_cons_succ, List.getElem?_cons_zero, List.getElem?_cons_succ, List.replicate_zero, List.replicate_succ, Option.join_some, Option.join_none, Option.bind_some, Option.bind_none, Option.map_some, Option.map_none, Nat.reduceAdd, Nat.reduceSub, Nat.sub_self, List.any_cons, List.any_nil, Bool.or_false, Bool.false_or, Bool.or_true, Bool.true_or, Bool.and_true, Bool.true_and, Bool.and_false, Bool.false_and, Bool.not_true, Bool.not_false, Bool.false_eq_true, reduceIte, reduceCtorEq, decide_eq_true_eq, Bool.not_eq_true', decide_eq_false_iff_not, sz_eq, Nat.reduceLeDiff, isOl, subFin, muFin, muD, setFin, setMany, parFin, idxD, slcD, bi_len, bi_lenT, bi_abs, bi_int, bi_list, bi_listT, bi_max2, bi_min2, Ss.sets, S.sets, Tg.is, List.mem_cons, List.not_mem_nil, or_false, or_true, false_or, true_or, List.mem_append, List.append_assoc, List.append_eq, at0, at1, at2, at3, at4, ix4, k1, k2, k3, k4, fm, ne_eq, not_false_eq_true, Int.reduceEq]
    by_cases hb : c.fmod 8 = 0 ∧ i < ns.length
    · obtain ⟨x, ex⟩ := atI_ints hi hb.2
      have lm : (ns.map PyData.int).length = ns.length := by simp
      by_cases hc : (1000000000000000000 : Int) ≤ (if x < 0 then -x else x)
      · refine ⟨(if x < 0 then -x else x).fmod m, poolL ns (i + 1) ((if x < 0 then -x else x).fdiv m) b c, ⟨ns, _, _, b, c, rfl, by omega, hl⟩, Int.fmod_nonneg_of_pos _ h0, Int.fmod_lt_of_pos _ h0, fun Φ => ?_⟩
        rw [st, drawBody, x_cons, one, bind_ok]
        simp -implicitDefEqProofs only [drawS2, drawS1, drawT, poolL, e_nm, e_int, e_str, e_bl, e_non, e_glb, e_bin, e_neg, e_cmp, t_cmp, chn_if, e_chn, t_chn, e_and, e_or, t_and, t_or, e_not, t_not, e_ite, e_lst, e_tup, e_idx, e_slc, e_call, e_bi, e_rl1, e_rl2, e_isi, e_me, e_mu, e_lrv, e_lrr, lrv_l, e_dn, e_d1, e_dpr, e_dat, e_din, t_din, e_dge, odf_none, odf_some, t_dat, t_dge, t_slc, t_lcd, x_dst, i_rv, isOd, dstFin, Opd.dic, dOf, Option.isSome_some, Option.isSome_none, t_nm, t_bl, t_idx, t_call, t_bi, t_isi, t_lc, t_bin, ds_nil, ds_cons, os_nil, os_cons, oi_none, oi_some, c_none, c_some, i_op, as_nm, as_mv, x_nil, x_cons, sq_nx, sq_rt, sq_bk, sq_ct, x_set, x_setF, x_setT, x_par, x_sub, x_expr, x_ret, x_if, x_whl, x_for, x_raise, x_pass, x_brk, x_cont, x_tryC, x_tryI, bind_ok, bind_exc, map_ok, map_exc, of_some, bind_ite, map_ite, endR_ite, dflT, asT, asD, frz, ofB, cmpB, takeSlot, moveSlot, slotT, Opd.see, sees, T.view, truthD, cmpD, eqD, scalD, binD, negD, isKd, callF, takeA, putA, startR, endR_rt, endR_nx, endR_exc, backs, evB, evT, evD, evO, List.map_cons, List.map_nil, List.length_cons, List.length_nil, List.cons_append, List.nil_append, List.append_nil, List.set_cons_zero, List.set_cons_succ, List.getElem?_cons_zero, List.getElem?_cons_succ, List.replicate_zero, List.replicate_succ, Option.join_some, Option.join_none, Option.bind_some, Option.bind_none, Option.map_some, Option.map_none, Nat.reduceAdd, Nat.reduceSub, Nat.sub_self, List.any_cons, List.any_nil, Bool.or_false, Bool.false_or, Bool.or_true, Bool.true_or, Bool.and_true, Bool.true_and, Bool.and_false, Bool.false_and, Bool.not_true, Bool.not_false, Bool.false_eq_true, reduceIte, reduceCtorEq, decide_eq_true_eq, Bool.not_eq_true', decide_eq_false_iff_not, sz_eq, Nat.reduceLeDiff, isOl, subFin, muFin, muD, setFin, setMany, parFin, idxD, slcD, bi_len, bi_lenT, bi_abs, bi_int, bi_list, bi_listT, bi_max2, bi_min2, Ss.sets, S.sets, Tg.is, List.mem_cons, List.not_mem_nil, or_false, or_true, false_or, true_or, List.mem_append, List.append_assoc, List.append_eq, hb, hc, ex, lm, at0, at1, at2, at3, at4, ix1, ix2, ix3, ix4, fd, fm, eqv_int, na10, tn18, decide_true, decide_false, ne_eq, not_false_eq_true, not_true_eq_false, and_self, and_true, true_and, Int.reduceEq, Int.reduceLE, Int.reducePow, Int.reduceLT, Nat.reduceLT, Nat.reducePow]
      · obtain ⟨r, c', r0, r1, e⟩ := rest (i + 1) (if x < 0 then -x else x)
        refine ⟨r, poolL ns (i + 1) a (if x < 0 then -x else x) c', ⟨ns, _, _, _, _, rfl, by omega, hl⟩, r0, r1, fun Φ => ?_⟩
        have two : exS Φ drawS2 [some (.ol (poolL ns i a b c)), some (.fz (.int m)), none, none, none] = .ok .nx [some (.ol (poolL ns (i + 1) a (if x < 0 then -x else x) c)), some (.fz (.int m)), none, none, some (.fz (.int (if x < 0 then -x else x)))] := by
          simp -implicitDefEqProofs only [drawS2, poolL, e_nm, e_int, e_str, e_bl, e_non, e_glb, e_bin, e_neg, e_cmp, t_cmp, chn_if, e_chn, t_chn, e_and, e_or, t_and, t_or, e_not, t_not, e_ite, e_lst, e_tup, e_idx, e_slc, e_call, e_bi, e_rl1, e_rl2, e_isi, e_me, e_mu, e_lrv, e_lrr, lrv_l, e_dn, e_d1, e_dpr, e_dat, e_din, t_din, e_dge, odf_none, odf_some, t_dat, t_dge, t_slc, t_lcd, x_dst, i_rv, isOd, dstFin, Opd.dic, dOf, Option.isSome_some, Option.isSome_none, t_nm, t_bl, t_idx, t_call, t_bi, t_isi, t_lc, t_bin, ds_nil, ds_cons, os_nil, os_cons, oi_none, oi_some, c_none, c_some, i_op, as_nm, as_mv, x_nil, x_cons, sq_nx, sq_rt, sq_bk, sq_ct, x_set, x_setF, x_setT, x_par, x_sub, x_expr, x_ret, x_if, x_whl, x_for, x_raise, x_pass, x_brk, x_cont, x_tryC, x_tryI, bind_ok, bind_exc, map_ok, map_exc, of_some, bind_ite, map_ite, endR_ite, dflT, asT, asD, frz, ofB, cmpB, takeSlot, moveSlot, slotT, Opd.see, sees, T.view, truthD, cmpD, eqD, scalD, binD, negD, isKd, callF, takeA, putA, startR, endR_rt, endR_nx, endR_exc, backs, evB, evT, evD, evO, List.map_cons, List.map_nil, List.length_cons, List.length_nil, List.cons_append, List.nil_append, List.append_nil, List.set_cons_zero, List.set_cons_succ, List.getElem?_cons_zero, List.getElem?_cons_succ, List.replicate_zero, List.replicate_succ, Option.join_some, Option.join_none, Option.bind_some, Option.bind_none, Option.map_some, Option.map_none, Nat.reduceAdd, Nat.reduceSub, Nat.sub_self, List.any_cons, List.any_nil, Bool.or_false, Bool.false_or, Bool.or_true, Bool.true_or, Bool.and_true, Bool.true_and, Bool.and_false, Bool.false_and, Bool.not_true, Bool.not_false, Bool.false_eq_true, reduceIte, reduceCtorEq, decide_eq_true_eq, Bool.not_eq_true', decide_eq_false_iff_not, sz_eq, Nat.reduceLeDiff, isOl, subFin, muFin, muD, setFin, setMany, parFin, idxD, slcD, bi_len, bi_lenT, bi_abs, bi_int, bi_list, bi_listT, bi_max2, bi_min2, Ss.sets, S.sets, Tg.is, List.mem_cons, List.not_mem_nil, or_false, or_true, false_or, true_or, List.mem_append, List.append_assoc, List.append_eq, hb, hc, ex, lm, at0, at1, at2, at3, at4, ix1, ix2, ix3, ix4, fd, fm, eqv_int, na10, tn18, decide_true, decide_false, ne_eq, not_false_eq_true, not_true_eq_false, and_self, and_true, true_and, Int.reduceEq, Int.reduceLE, Int.reducePow, Int.reduceLT, Nat.reduceLT, Nat.reducePow]
        rw [st, drawBody, x_cons, one, bind_ok]
        simp only [x_cons, sq_nx, sq_rt, two, bind_ok]
        exact e Φ _ _
    · obtain ⟨r, c', r0, r1, e⟩ := rest i b
      refine ⟨r, poolL ns i a b c', ⟨ns, _, _, _, _, rfl, hi, hl⟩, r0, r1, fun Φ => ?_⟩
      have lm : (ns.map PyData.int).length = ns.length := by simp
      have two : exS Φ drawS2 [some (.ol (poolL ns i a b c)), some (.fz (.int m)), none, none, none] = .ok .nx [some (.ol (poolL ns i a b c)), some (.fz (.int m)), none, none, none] := by
        by_cases hq : c.fmod 8 = 0
        · have hq2 : ¬ i < ns.length := fun z => hb ⟨hq, z⟩
          simp -implicitDefEqProofs only [drawS2, poolL, e_nm, e_int, e_str, e_bl, e_non, e_glb, e_bin, e_neg, e_cmp, t_cmp, chn_if, e_chn, t_chn, e_and, e_or, t_and, t_or, e_not, t_not, e_ite, e_lst, e_tup, e_idx, e_slc, e_call, e_bi, e_rl1, e_rl2, e_isi, e_me, e_mu, e_lrv, e_lrr, lrv_l, e_dn, e_d1, e_dpr, e_dat, e_din, t_din, e_dge, odf_none, odf_some, t_dat, t_dge, t_slc, t_lcd, x_dst, i_rv, isOd, dstFin, Opd.dic, dOf, Option.isSome_some, Option.isSome_none, t_nm, t_bl, t_idx, t_call, t_bi, t_isi, t_lc, t_bin, ds_nil, ds_cons, os_nil, os_cons, oi_none, oi_some, c_none, c_some, i_op, as_nm, as_mv, x_nil, x_cons, sq_nx, sq_rt, sq_bk, sq_ct, x_set, x_setF, x_setT, x_par, x_sub, x_expr, x_ret, x_if, x_whl, x_for, x_raise, x_pass, x_brk, x_cont, x_tryC, x_tryI, bind_ok, bind_exc, map_ok, map_exc, of_some, bind_ite, map_ite, endR_ite, dflT, asT, asD, frz, ofB, cmpB, takeSlot, moveSlot, slotT, Opd.see, sees, T.view, truthD, cmpD, eqD, scalD, binD, negD, isKd, callF, takeA, putA, startR, endR_rt, endR_nx, endR_exc, backs, evB, evT, evD, evO, List.map_cons, List.map_nil, List.length_cons, List.length_nil, List.cons_append, List.nil_append, List.append_nil, List.set_cons_zero, List.set_cons_succ, List.getElem?_cons_zero, List.getElem?_cons_succ, List.replicate_zero, List.replicate_succ, Option.join_some, Option.join_none, Option.bind_some, Option.bind_none, Option.map_some, Option.map_none, Nat.reduceAdd, Nat.reduceSub, Nat.sub_self, List.any_cons, List.any_nil, Bool.or_false, Bool.false_or, Bool.or_true, Bool.true_or, Bool.and_true, Bool.true_and, Bool.and_false, Bool.false_and, Bool.not_true, Bool.not_false, Bool.false_eq_true, reduceIte, reduceCtorEq, decide_eq_true_eq, Bool.not_eq_true', decide_eq_false_iff_not, sz_eq, Nat.reduceLeDiff, isOl, subFin, muFin, muD, setFin, setMany, parFin, idxD, slcD, bi_len, bi_lenT, bi_abs, bi_int, bi_list, bi_listT, bi_max2, bi_min2, Ss.sets, S.sets, Tg.is, List.mem_cons, List.not_mem_nil, or_false, or_true, false_or, true_or, List.mem_append, List.append_assoc, List.append_eq, hq, hq2, lm, at0, at1, at2, at3, at4, ix1, ix2, ix3, ix4, fd, fm, eqv_int, na10, tn18, decide_true, decide_false, ne_eq, not_false_eq_true, not_true_eq_false, and_self, and_true, true_and, Int.reduceEq, Int.reduceLE, Int.reducePow, Int.reduceLT, Nat.reduceLT, Nat.reducePow]
        · simp -implicitDefEqProofs only [drawS2, poolL, e_nm, e_int, e_str, e_bl, e_non, e_glb, e_bin, e_neg, e_cmp, t_cmp, chn_if, e_chn, t_chn, e_and, e_or, t_and, t_or, e_not, t_not, e_ite, e_lst, e_tup, e_idx, e_slc, e_call, e_bi, e_rl1, e_rl2, e_isi, e_me, e_mu, e_lrv, e_lrr, lrv_l, e_dn, e_d1, e_dpr, e_dat, e_din, t_din, e_dge, odf_none, odf_some, t_dat, t_dge, t_slc, t_lcd, x_dst, i_rv, isOd, dstFin, Opd.dic, dOf, Option.isSome_some, Option.isSome_none, t_nm, t_bl, t_idx, t_call, t_bi, t_isi, t_lc, t_bin, ds_nil, ds_cons, os_nil, os_cons, oi_none, oi_some, c_none, c_some, i_op, as_nm, as_mv, x_nil, x_cons, sq_nx, sq_rt, sq_bk, sq_ct, x_set, x_setF, x_setT, x_par, x_sub, x_expr, x_ret, x_if, x_whl, x_for, x_raise, x_pass, x_brk, x_cont, x_tryC, x_tryI, bind_ok, bind_exc, map_ok, map_exc, of_some, bind_ite, map_ite, endR_ite, dflT, asT, asD, frz, ofB, cmpB, takeSlot, moveSlot, slotT, Opd.see, sees, T.view, truthD, cmpD, eqD, scalD, binD, negD, isKd, callF, takeA, putA, startR, endR_rt, endR_nx, endR_exc, backs, evB, evT, evD, evO, List.map_cons, List.map_nil, List.length_cons, List.length_nil, List.cons_append, List.nil_append, List.append_nil, List.set_cons_zero, List.set_cons_succ, List.getElem?_cons_zero, List.getElem?_cons_succ, List.replicate_zero, List.replicate_succ, Option.join_some, Option.join_none, Option.bind_some, Option.bind_none, Option.map_some, Option.map_none, Nat.reduceAdd, Nat.reduceSub, Nat.sub_self, List.any_cons, List.any_nil, Bool.or_false, Bool.false_or, Bool.or_true, Bool.true_or, Bool.and_true, Bool.true_and, Bool.and_false, Bool.false_and, Bool.not_true, Bool.not_false, Bool.false_eq_true, reduceIte, reduceCtorEq, decide_eq_true_eq, Bool.not_eq_true', decide_eq_false_iff_not, sz_eq, Nat.reduceLeDiff, isOl, subFin, muFin, muD, setFin, setMany, parFin, idxD, slcD, bi_len, bi_lenT, bi_abs, bi_int, bi_list, bi_listT, bi_max2, bi_min2, Ss.sets, S.sets, Tg.is, List.mem_cons, List.not_mem_nil, or_false, or_true, false_or, true_or, List.mem_append, List.append_assoc, List.append_eq, hq, lm, at0, at1, at2, at3, at4, ix1, ix2, ix3, ix4, fd, fm, eqv_int, na10, tn18, decide_true, decide_false, ne_eq, not_false_eq_true, not_true_eq_false, and_self, and_true, true_and, Int.reduceEq, Int.reduceLE, Int.reducePow, Int.reduceLT, Nat.reduceLT, Nat.reducePow]
      rw [st, drawBody, x_cons, one, bind_ok]
      simp only [x_cons, sq_nx, sq_rt, two, bind_ok]
      exact e Φ _ _

/-! ### sameness -/
def sameLoop : Ss := .cons (.ifS (.not_ (.call "_law_same" (.cons (.idx (.nm 0) (.nm 2)) (.cons (.idx (.nm 1) (.nm 2)) .nil)) [])) (.cons (.ret (.bl false)) .nil) .nil) .nil
def sameSeq : Ss := (.cons (.ifS (.or_ (.cmp .NotEq (.isi (.nm 1) [.tuple]) (.isi (.nm 0) [.tuple])) (.cmp .NotEq (.isi (.nm 1) [.list]) (.isi (.nm 0) [.list]))) (.cons (.ret (.bl false))
    .nil) .nil)
    (.cons (.ifS (.cmp .NotEq (.bi .len (.cons (.nm 0) .nil)) (.bi .len (.cons (.nm 1) .nil))) (.cons (.ret (.bl false))
    .nil) .nil)
    (.cons (.for_ (.one 2) (.rng1 (.bi .len (.cons (.nm 1) .nil))) sameLoop)
    (.cons (.ret (.bl true))
    .nil))))
def sameTail : Ss := (.cons (.ifS (.isi (.nm 1) [.bool]) (.cons (.ret (.and_ (.isi (.nm 0) [.bool]) (.cmp .Eq (.nm 0) (.nm 1))))
    .nil) .nil)
    (.cons (.ifS (.isi (.nm 1) [.int]) (.cons (.ret (.and_ (.isi (.nm 0) [.int]) (.and_ (.not_ (.isi (.nm 0) [.bool])) (.cmp .Eq (.nm 0) (.nm 1)))))
    .nil) .nil)
    (.cons (.ret (.and_ (.isi (.nm 0) [.str]) (.cmp .Eq (.nm 0) (.nm 1))))
    .nil)))
def sameBody : Ss :=
    (.cons (.ifS (.cmp .Is (.nm 1) .non) (.cons (.ret (.cmp .Is (.nm 0) .non))
    .nil) .nil)
    (.cons (.ifS (.isi (.nm 1) [.tuple, .list]) sameSeq .nil) sameTail))
def good : Nat → D → Prop
  | 0, _ => False
  | n + 1, d => match d with
    | .list ds => ds.length ≤ 16777216 ∧ ∀ e ∈ ds, good n e
    | .tuple ds => ds.length ≤ 16777216 ∧ ∀ e ∈ ds, good n e
    | .dict _ => False
    | _ => True
theorem eqv_bool (i j : Bool) : PyData.eqv (.bool i) (.bool j) = decide (i = j) := by
  unfold PyData.eqv
  cases i <;> cases j <;> rfl
theorem eqv_str (i j : Str) : PyData.eqv (.str i) (.str j) = decide (i = j) := by
  unfold PyData.eqv
  first | rfl | simp
theorem atI_nat {xs : List D} {i : Nat} {x : D} (h : xs[i]? = some x) : atI xs (i : Int) = some x := by
  have hi := (List.getElem?_eq_some_iff.mp h).1
  unfold atI ixN
  rw [if_pos (by omega), if_pos (by omega)]
  simpa using h
theorem same_loop {Φ : Fx} {ds : List D} {t1 t2 : T} {d : D} (v1 : t1.view = some d) (v2 : t2.view = some d) (hd : d = .list ds ∨ d = .tuple ds) (hc : ∀ e ∈ ds, Φ.call "_law_same" [.fz e, .fz e] = .ok (.fz (.bool true)) [.fz e, .fz e]) :
    ∃ o, forRun (.one 2) (.rng 0 1 ds.length) (exSs Φ sameLoop) ds.length 0 [some t1, some t2, none] = .ok .nx [some t1, some t2, o] := by
  refine for_wp (fun _ ρ => ∃ o, ρ = [some t1, some t2, o]) (fun r => ∃ o, r = .ok .nx [some t1, some t2, o]) ds.length 0 _ ⟨_, rfl⟩ ?_ ?_
  · rintro i _ _ hi ⟨o, rfl⟩
    have hi' : i < ds.length := by omega
    have ex : ds[i]? = some ds[i] := List.getElem?_eq_getElem hi'
    have ai := atI_nat ex
    have cl := hc ds[i] (List.getElem_mem hi')
    refine ⟨.int (0 + (i : Int) * 1), [some t1, some t2, some (.fz (.int (0 + (i : Int) * 1)))], rfl, rfl, ?_⟩
    have e0 : (0 + (i : Int) * 1) = (i : Int) := by omega
    rw [e0]
    have ix : idxD d (.int i) = some ds[i] := by rcases hd with rfl | rfl <;> exact ai
    have g1 : (ev2 Φ (.idx (.nm 0) (.nm 2))).1 [some t1, some t2, some (.fz (.int (i : Int)))] = .ok (.tmp (.fz ds[i])) [some t1, some t2, some (.fz (.int (i : Int)))] := by
      show (R.of ((t1.view).bind fun d => (some (PyData.int i)).bind fun e => (idxD d e).map fun f => Opd.tmp (.fz f)) _) = _
      rw [v1, Option.bind_some, Option.bind_some, ix]
      rfl
    have g2 : (ev2 Φ (.idx (.nm 1) (.nm 2))).1 [some t1, some t2, some (.fz (.int (i : Int)))] = .ok (.tmp (.fz ds[i])) [some t1, some t2, some (.fz (.int (i : Int)))] := by
      show (R.of ((t2.view).bind fun d => (some (PyData.int i)).bind fun e => (idxD d e).map fun f => Opd.tmp (.fz f)) _) = _
      rw [v2, Option.bind_some, Option.bind_some, ix]
      rfl
    have bd : exSs Φ sameLoop [some t1, some t2, some (.fz (.int (i : Int)))] = .ok .nx [some t1, some t2, some (.fz (.int (i : Int)))] := by
      simp only [sameLoop, x_cons, sq_nx, sq_rt, x_nil, x_if, t_not, t_call, dflT, e_call, os_cons, os_nil, g1, g2, bind_ok, map_ok, callF, takeA, Option.map_some, List.map_nil, List.append_nil, cl, putA, Opd.see, T.view, Option.bind_some, truthD, of_some, Bool.not_true, Bool.false_eq_true, reduceIte]
    rw [bd]
    exact ⟨_, rfl⟩
  · rintro _ ⟨o, rfl⟩
    exact ⟨rfl, _, rfl⟩
theorem same_sets : sameBody.sets = [2] := rfl
theorem same_seq {Φ : Fx} {ds : List D} {t1 t2 : T} {d : D} (v1 : t1.view = some d) (v2 : t2.view = some d) (hd : d = .list ds ∨ d = .tuple ds) (hl : ds.length < 2 ^ 62) (hc : ∀ e ∈ ds, Φ.call "_law_same" [.fz e, .fz e] = .ok (.fz (.bool true)) [.fz e, .fz e]) :
    ∃ o, exSs Φ sameSeq [some t1, some t2, none] = .ok (.rt (.fz (.bool true))) [some t1, some t2, o] := by
  obtain ⟨o, lp⟩ := same_loop v1 v2 hd hc
  have rg : rngOk 0 (ds.length : Int) = true := decide_eq_true ⟨by decide, by decide, by omega, by omega⟩
  have i1 : ∀ ks, (ev2 Φ (.isi (.nm 0) ks)).1 [some t1, some t2, none] = .ok (.tmp (.fz (.bool (ks.any fun k => isKd k d)))) [some t1, some t2, none] := fun ks => by
    show R.of ((t1.view).map _) _ = _
    rw [v1]
    rfl
  have i2 : ∀ ks, (ev2 Φ (.isi (.nm 1) ks)).1 [some t1, some t2, none] = .ok (.tmp (.fz (.bool (ks.any fun k => isKd k d)))) [some t1, some t2, none] := fun ks => by
    show R.of ((t2.view).map _) _ = _
    rw [v2]
    rfl
  have bl : biD .len [d] = some (.fz (.int ds.length)) := by rcases hd with rfl | rfl <;> rfl
  have l1 : (ev2 Φ (.bi .len (.cons (.nm 0) .nil))).1 [some t1, some t2, none] = .ok (.tmp (.fz (.int ds.length))) [some t1, some t2, none] := by
    show R.of (((t1.view).bind fun d => (some []).map (d :: ·)).bind fun ds => (biD .len ds).map Opd.tmp) _ = _
    rw [v1, Option.bind_some, Option.map_some, Option.bind_some, bl]
    rfl
  have l2 : (ev2 Φ (.bi .len (.cons (.nm 1) .nil))).1 [some t1, some t2, none] = .ok (.tmp (.fz (.int ds.length))) [some t1, some t2, none] := by
    show R.of (((t2.view).bind fun d => (some []).map (d :: ·)).bind fun ds => (biD .len ds).map Opd.tmp) _ = _
    rw [v2, Option.bind_some, Option.map_some, Option.bind_some, bl]
    rfl
  have fr : (Src.rng 0 1 ds.length).free (Tg.is (.one 2) ++ sameLoop.sets) = true := rfl
  have s1 : exS Φ (.ifS (.or_ (.cmp .NotEq (.isi (.nm 1) [.tuple]) (.isi (.nm 0) [.tuple])) (.cmp .NotEq (.isi (.nm 1) [.list]) (.isi (.nm 0) [.list]))) (.cons (.ret (.bl false)) .nil) .nil) [some t1, some t2, none] = .ok .nx [some t1, some t2, none] := by
    simp only [x_if, t_or, t_cmp, cmpB, i1, i2, bind_ok, map_ok, of_some, Opd.see, T.view, Option.bind_some, Option.map_some, cmpD, eqD, scalD, Bool.true_or, reduceIte, eqv_bool, decide_true, Bool.not_true, Bool.false_eq_true, x_nil]
  have s2 : exS Φ (.ifS (.cmp .NotEq (.bi .len (.cons (.nm 0) .nil)) (.bi .len (.cons (.nm 1) .nil))) (.cons (.ret (.bl false)) .nil) .nil) [some t1, some t2, none] = .ok .nx [some t1, some t2, none] := by
    simp only [x_if, t_cmp, cmpB, l1, l2, bind_ok, of_some, Opd.see, T.view, Option.bind_some, Option.map_some, cmpD, eqD, scalD, Bool.true_or, reduceIte, eqv_int, decide_true, Bool.not_true, Bool.false_eq_true, x_nil]
  have ev : evI Φ (.rng1 (.bi .len (.cons (.nm 1) .nil))) [some t1, some t2, none] = .ok (.rng 0 1 ds.length) [some t1, some t2, none] := by
    have q := r1_ok l2 rg
    rw [Int.toNat_natCast] at q
    exact q
  have s3 : exS Φ (.for_ (.one 2) (.rng1 (.bi .len (.cons (.nm 1) .nil))) sameLoop) [some t1, some t2, none] = .ok .nx [some t1, some t2, o] := by
    rw [x_for, ev, bind_ok, fr, if_pos rfl]
    exact lp
  refine ⟨o, ?_⟩
  rw [sameSeq, x_cons, s1, bind_ok]
  show exSs Φ (.cons _ _) _ = _
  rw [x_cons, s2, bind_ok]
  show exSs Φ (.cons _ _) _ = _
  rw [x_cons, s3, bind_ok]
  rfl
theorem endR_same {t1 t2 : T} {d : D} {o : Option T} (v1 : t1.view = some d) (v2 : t2.view = some d) (t : T) : endR sameBody.sets [t1, t2] (.ok (.rt t) [some t1, some t2, o]) = .ok t [t1, t2] := by
  cases t1 <;> cases t2 <;> first | rfl | cases v1 | cases v2
theorem same_ok {fs : List Fn} {B : Fx} {F : Fn} (h : (Fn.tab fs).lookup ("_law_same" : Str) = some F) (hF : F.body = sameBody) (hp : F.np = 2) (hN : F.N.length = 3) : ∀ (n k : Nat) (d : D), n ≤ k → good n d → ∀ t1 t2 : T, t1.view = some d → t2.view = some d →
    (lev fs B k).call "_law_same" [t1, t2] = .ok (.fz (.bool true)) [t1, t2] := by
  intro n
  induction n with
  | zero => exact fun _ _ _ g => g.elim
  | succ n ih =>
    intro k d hk g t1 t2 v1 v2
    rw [lev_call h (by omega), run_fn (by rw [hp]; rfl), hF, hN]
    have sc : ∀ {t : T}, t.view = some d → (∀ ds, d ≠ .list ds) → t = .fz d := fun {t} e hd => by
      cases t with
      | fz d' => cases e; rfl
      | ol ds => cases e; exact absurd rfl (hd _)
      | od _ _ => cases e
      | lk _ _ => cases e
    have st : startR 3 [t1, t2] = [some t1, some t2, none] := rfl
    have seq : ∀ ds, (d = .list ds ∨ d = .tuple ds) → ds.length ≤ 16777216 → (∀ e ∈ ds, good n e) → endR sameBody.sets [t1, t2] (exSs (lev fs B (k - 1)) sameBody (startR 3 [t1, t2])) = .ok (.fz (.bool true)) [t1, t2] := fun ds hd hl hg => by
      obtain ⟨o, sq⟩ := same_seq (Φ := lev fs B (k - 1)) v1 v2 hd (by omega) fun e he => ih (k - 1) e (by omega) (hg e he) _ _ rfl rfl
      have c1 : (ev2 (lev fs B (k - 1)) (.cmp .Is (.nm 1) .non)).2 [some t1, some t2, none] = .ok false [some t1, some t2, none] := by
        show R.of ((t2.view).bind fun d => (some PyData.none).bind fun e => cmpD .Is d e) _ = _
        rw [v2]
        rcases hd with rfl | rfl <;> rfl
      have c2 : (ev2 (lev fs B (k - 1)) (.isi (.nm 1) [.tuple, .list])).2 [some t1, some t2, none] = .ok true [some t1, some t2, none] := by
        show (R.of ((t2.view).map _) _).bind _ = _
        rw [v2]
        rcases hd with rfl | rfl <;> rfl
      have run : exSs (lev fs B (k - 1)) sameBody (startR 3 [t1, t2]) = .ok (.rt (.fz (.bool true))) [some t1, some t2, o] := by
        rw [st]
        simp only [sameBody, x_cons, sq_nx, sq_rt, x_if, c1, c2, bind_ok, Bool.false_eq_true, reduceIte, x_nil, sq]
      rw [run]
      exact endR_same v1 v2 _
    cases d with
    | none =>
      obtain rfl := sc v1 (fun _ z => nomatch z)
      obtain rfl := sc v2 (fun _ z => nomatch z)
      rfl
    | bool b =>
      obtain rfl := sc v1 (fun _ z => nomatch z)
      obtain rfl := sc v2 (fun _ z => nomatch z)
      simp -implicitDefEqProofs only [sameBody, sameTail, e_nm, e_int, e_str, e_bl, e_non, e_glb, e_bin, e_neg, e_cmp, t_cmp, chn_if, e_chn, t_chn, e_and, e_or, t_and, t_or, e_not, t_not, e_ite, e_lst, e_tup, e_idx, e_slc, e_call, e_bi, e_rl1, e_rl2, e_isi, e_me, e_mu, e_lrv, e_lrr, lrv_l, e_dn, e_d1, e_dpr, e_dat, e_din, t_din, e_dge, odf_none, odf_some, t_dat, t_dge, t_slc, t_lcd, x_dst, i_rv, isOd, dstFin, Opd.dic, dOf, Option.isSome_some, Option.isSome_none, t_nm, t_bl, t_idx, t_call, t_bi, t_isi, t_lc, t_bin, ds_nil, ds_cons, os_nil, os_cons, oi_none, oi_some, c_none, c_some, i_op, as_nm, as_mv, x_nil, x_cons, sq_nx, sq_rt, sq_bk, sq_ct, x_set, x_setF, x_setT, x_par, x_sub, x_expr, x_ret, x_if, x_whl, x_for, x_raise, x_pass, x_brk, x_cont, x_tryC, x_tryI, bind_ok, bind_exc, map_ok, map_exc, of_some, bind_ite, map_ite, endR_ite, dflT, asT, asD, frz, ofB, cmpB, takeSlot, moveSlot, slotT, Opd.see, sees, T.view, truthD, cmpD, eqD, scalD, binD, negD, isKd, callF, takeA, putA, startR, endR_rt, endR_nx, endR_exc, backs, evB, evT, evD, evO, List.map_cons, List.map_nil, List.length_cons, List.length_nil, List.cons_append, List.nil_append, List.append_nil, List.set_cons_zero, List.set_cons_succ, List.getElem?_cons_zero, List.getElem?_cons_succ, List.replicate_zero, List.replicate_succ, Option.join_some, Option.join_none, Option.bind_some, Option.bind_none, Option.map_some, Option.map_none, Nat.reduceAdd, Nat.reduceSub, Nat.sub_self, List.any_cons, List.any_nil, Bool.or_false, Bool.false_or, Bool.or_true, Bool.true_or, Bool.and_true, Bool.true_and, Bool.and_false, Bool.false_and, Bool.not_true, Bool.not_false, Bool.false_eq_true, reduceIte, reduceCtorEq, decide_eq_true_eq, Bool.not_eq_true', decide_eq_false_iff_not, sz_eq, Nat.reduceLeDiff, isOl, subFin, muFin, muD, setFin, setMany, parFin, idxD, slcD, bi_len, bi_lenT, bi_abs, bi_int, bi_list, bi_listT, bi_max2, bi_min2, Ss.sets, S.sets, Tg.is, List.mem_cons, List.not_mem_nil, or_false, or_true, false_or, true_or, List.mem_append, List.append_assoc, List.append_eq, isNonD, eqv_bool, decide_true]
    | int b =>
      obtain rfl := sc v1 (fun _ z => nomatch z)
      obtain rfl := sc v2 (fun _ z => nomatch z)
      simp -implicitDefEqProofs only [sameBody, sameTail, e_nm, e_int, e_str, e_bl, e_non, e_glb, e_bin, e_neg, e_cmp, t_cmp, chn_if, e_chn, t_chn, e_and, e_or, t_and, t_or, e_not, t_not, e_ite, e_lst, e_tup, e_idx, e_slc, e_call, e_bi, e_rl1, e_rl2, e_isi, e_me, e_mu, e_lrv, e_lrr, lrv_l, e_dn, e_d1, e_dpr, e_dat, e_din, t_din, e_dge, odf_none, odf_some, t_dat, t_dge, t_slc, t_lcd, x_dst, i_rv, isOd, dstFin, Opd.dic, dOf, Option.isSome_some, Option.isSome_none, t_nm, t_bl, t_idx, t_call, t_bi, t_isi, t_lc, t_bin, ds_nil, ds_cons, os_nil, os_cons, oi_none, oi_some, c_none, c_some, i_op, as_nm, as_mv, x_nil, x_cons, sq_nx, sq_rt, sq_bk, sq_ct, x_set, x_setF, x_setT, x_par, x_sub, x_expr, x_ret, x_if, x_whl, x_for, x_raise, x_pass, x_brk, x_cont, x_tryC, x_tryI, bind_ok, bind_exc, map_ok, map_exc, of_some, bind_ite, map_ite, endR_ite, dflT, asT, asD, frz, ofB, cmpB, takeSlot, moveSlot, slotT, Opd.see, sees, T.view, truthD, cmpD, eqD, scalD, binD, negD, isKd, callF, takeA, putA, startR, endR_rt, endR_nx, endR_exc, backs, evB, evT, evD, evO, List.map_cons, List.map_nil, List.length_cons, List.length_nil, List.cons_append, List.nil_append, List.append_nil, List.set_cons_zero, List.set_cons_succ, List.getElem?_cons_zero, List.getElem?_cons_succ, List.replicate_zero, List.replicate_succ, Option.join_some, Option.join_none, Option.bind_some, Option.bind_none, Option.map_some, Option.map_none, Nat.reduceAdd, Nat.reduceSub, Nat.sub_self, List.any_cons, List.any_nil, Bool.or_false, Bool.false_or, Bool.or_true, Bool.true_or, Bool.and_true, Bool.true_and, Bool.and_false, Bool.false_and, Bool.not_true, Bool.not_false, Bool.false_eq_true, reduceIte, reduceCtorEq, decide_eq_true_eq, Bool.not_eq_true', decide_eq_false_iff_not, sz_eq, Nat.reduceLeDiff, isOl, subFin, muFin, muD, setFin, setMany, parFin, idxD, slcD, bi_len, bi_lenT, bi_abs, bi_int, bi_list, bi_listT, bi_max2, bi_min2, Ss.sets, S.sets, Tg.is, List.mem_cons, List.not_mem_nil, or_false, or_true, false_or, true_or, List.mem_append, List.append_assoc, List.append_eq, isNonD, eqv_int, decide_true]
    | str b =>
      obtain rfl := sc v1 (fun _ z => nomatch z)
      obtain rfl := sc v2 (fun _ z => nomatch z)
      simp -implicitDefEqProofs only [sameBody, sameTail, e_nm, e_int, e_str, e_bl, e_non, e_glb, e_bin, e_neg, e_cmp, t_cmp, chn_if, e_chn, t_chn, e_and, e_or, t_and, t_or, e_not, t_not, e_ite, e_lst, e_tup, e_idx, e_slc, e_call, e_bi, e_rl1, e_rl2, e_isi, e_me, e_mu, e_lrv, e_lrr, lrv_l, e_dn, e_d1, e_dpr, e_dat, e_din, t_din, e_dge, odf_none, odf_some, t_dat, t_dge, t_slc, t_lcd, x_dst, i_rv, isOd, dstFin, Opd.dic, dOf, Option.isSome_some, Option.isSome_none, t_nm, t_bl, t_idx, t_call, t_bi, t_isi, t_lc, t_bin, ds_nil, ds_cons, os_nil, os_cons, oi_none, oi_some, c_none, c_some, i_op, as_nm, as_mv, x_nil, x_cons, sq_nx, sq_rt, sq_bk, sq_ct, x_set, x_setF, x_setT, x_par, x_sub, x_expr, x_ret, x_if, x_whl, x_for, x_raise, x_pass, x_brk, x_cont, x_tryC, x_tryI, bind_ok, bind_exc, map_ok, map_exc, of_some, bind_ite, map_ite, endR_ite, dflT, asT, asD, frz, ofB, cmpB, takeSlot, moveSlot, slotT, Opd.see, sees, T.view, truthD, cmpD, eqD, scalD, binD, negD, isKd, callF, takeA, putA, startR, endR_rt, endR_nx, endR_exc, backs, evB, evT, evD, evO, List.map_cons, List.map_nil, List.length_cons, List.length_nil, List.cons_append, List.nil_append, List.append_nil, List.set_cons_zero, List.set_cons_succ, List.getElem?_cons_zero, List.getElem?_cons_succ, List.replicate_zero, List.replicate_succ, Option.join_some, Option.join_none, Option.bind_some, Option.bind_none, Option.map_some, Option.map_none, Nat.reduceAdd, Nat.reduceSub, Nat.sub_self, List.any_cons, List.any_nil, Bool.or_false, Bool.false_or, Bool.or_true, Bool.true_or, Bool.and_true, Bool.true_and, Bool.and_false, Bool.false_and, Bool.not_true, Bool.not_false, Bool.false_eq_true, reduceIte, reduceCtorEq, decide_eq_true_eq, Bool.not_eq_true', decide_eq_false_iff_not, sz_eq, Nat.reduceLeDiff, isOl, subFin, muFin, muD, setFin, setMany, parFin, idxD, slcD, bi_len, bi_lenT, bi_abs, bi_int, bi_list, bi_listT, bi_max2, bi_min2, Ss.sets, S.sets, Tg.is, List.mem_cons, List.not_mem_nil, or_false, or_true, false_or, true_or, List.mem_append, List.append_assoc, List.append_eq, isNonD, eqv_str, decide_true]
    | dict _ => exact g.elim
    | list ds => exact seq ds (.inl rfl) g.1 g.2
    | tuple ds => exact seq ds (.inr rfl) g.1 g.2
end L2.Eng

/-! EngR: walks and loops as equations. -/
namespace L2.Eng
open PySem
section
variable {Φ : Fx} {e elt a b : E} {c : OE} {s : Nat} {ρ ρ1 ρ2 : Rho}
theorem r1_see {x : Opd} {j : Int} (h : (ev2 Φ a).1 ρ = .ok x ρ1) (hs : x.see ρ1 = some (.int j)) (hr : rngOk 0 j = true) : evI Φ (.rng1 a) ρ = .ok (.rng 0 1 j.toNat) ρ1 := by
  rw [i_r1, h, bind_ok, hs]
  show R.of (if rngOk 0 j then some (Src.rng 0 1 j.toNat) else none) ρ1 = _
  rw [hr]
  rfl
theorem r2_see {x y : Opd} {i j : Int} (h : (ev2 Φ a).1 ρ = .ok x ρ1) (h2 : (ev2 Φ b).1 ρ1 = .ok y ρ2) (hs : x.see ρ2 = some (.int i)) (hs2 : y.see ρ2 = some (.int j)) (hr : rngOk i j = true) : evI Φ (.rng2 a b) ρ = .ok (.rng i 1 (j - i).toNat) ρ2 := by
  rw [i_r2, h, bind_ok, h2, bind_ok, hs, hs2]
  show R.of (if rngOk i j then some (Src.rng i 1 (j - i).toNat) else none) ρ2 = _
  rw [hr]
  rfl
theorem set_self (h : s < ρ.length) : ρ.set s (slotT ρ s) = ρ := by
  unfold slotT
  rw [List.getElem?_eq_getElem h]
  exact List.set_getElem_self h
theorem wipe1 (ρ : Rho) (s : Nat) : wipeR ρ [s] = ρ.set s none := rfl
theorem back1 (ρ1 ρ2 : Rho) (s : Nat) : backR ρ1 ρ2 [s] = ρ2.set s (slotT ρ1 s) := rfl
/-- where a walk over an operand gets its items -/
theorem src_opd {x : Opd} {d : D} {k : Bool} {xs : List D} (hs : x.see ρ = some d) (hd : seqD d = some (k, xs)) (hne : x ≠ .sl s) : (opdSrc x (k, xs)).len = xs.length ∧
    (∀ o i y, xs[i]? = some y → (opdSrc x (k, xs)).item i (ρ.set s o) = some y) ∧ ∀ o, (opdSrc x (k, xs)).fin (ρ.set s o) = true := by
  cases x with
  | tmp t => exact ⟨rfl, fun o i y h => h, fun _ => rfl⟩
  | sl j =>
    have hj : s ≠ j := fun z => hne (by rw [z])
    have sk : seqK k d = some xs := by
      cases d <;> cases hd <;> rfl
    have st : ∀ o, ((slotT (ρ.set s o) j).bind T.view).bind (seqK k) = some xs := fun o => by
      rw [slotT_other hj]
      have hs' : (slotT ρ j).bind T.view = some d := hs
      rw [hs', Option.bind_some, sk]
    refine ⟨rfl, fun o i y h => ?_, fun o => ?_⟩
    · show (((slotT (ρ.set s o) j).bind T.view).bind (seqK k)).bind (fun ds => if ds.length = xs.length then ds[i]? else none) = _
      rw [st, Option.bind_some, if_pos rfl, h]
    · show (match ((slotT (ρ.set s o) j).bind T.view).bind (seqK k) with | some ds => decide (ds.length = xs.length) | none => false) = true
      rw [st]
      exact decide_eq_true rfl
/-- a comprehension over a list or tuple, with an if -/
theorem lc_list (p : D → Bool) (f : D → D) {x : Opd} {d : D} {k : Bool} {xs : List D} (hx : (ev2 Φ e).1 ρ = .ok x ρ1) (hs : x.see ρ1 = some d) (hd : seqD d = some (k, xs)) (hne : x ≠ .sl s) (hl : s < ρ1.length) (hz : xs.length ≤ 16777216)
    (hc : ∀ y ∈ xs, evC Φ c (ρ1.set s (some (.fz y))) = .ok (p y) (ρ1.set s (some (.fz y))))
    (he : ∀ y ∈ xs, p y = true → asD elt (ev2 Φ elt).1 (ρ1.set s (some (.fz y))) = .ok (f y) (ρ1.set s (some (.fz y)))) :
    (ev2 Φ (.lc (.one s) [s] (.opd e) c elt)).1 ρ = .ok (.tmp (.ol ((xs.filter p).map f))) ρ1 := by
  obtain ⟨h1, h2, h3⟩ := src_opd (s := s) hs hd hne
  have ev : evI Φ (.opd e) ρ = .ok (opdSrc x (k, xs)) ρ1 := by
    rw [i_op, hx, bind_ok, hs, Option.bind_some, src_of hd]
    rfl
  rw [e_lc, ev, bind_ok, wipe1, h1]
  rw [lc_pure (own := [s]) (tg := .one s) (xs := xs) (n := xs.length) p f rfl (by rw [sz_eq]; omega) (h2 _) (h3 _) fun y hy => ?_]
  · rw [lets_ok, bind_ok, back1, List.set_set, set_self hl]
  · refine ⟨_, rfl, ρ1.set s (some (.fz y)), ?_, fun hp => ⟨ρ1.set s (some (.fz y)), ?_, ?_⟩, fun _ => ?_⟩
    · rw [List.set_set]
      exact hc y hy
    · exact he y hy hp
    · rw [wipe1, List.set_set]
    · rw [wipe1, List.set_set]
theorem lc_map (f : D → D) {x : Opd} {d : D} {k : Bool} {xs : List D} (hx : (ev2 Φ e).1 ρ = .ok x ρ1) (hs : x.see ρ1 = some d) (hd : seqD d = some (k, xs)) (hne : x ≠ .sl s) (hl : s < ρ1.length) (hz : xs.length ≤ 16777216)
    (he : ∀ y ∈ xs, asD elt (ev2 Φ elt).1 (ρ1.set s (some (.fz y))) = .ok (f y) (ρ1.set s (some (.fz y)))) :
    (ev2 Φ (.lc (.one s) [s] (.opd e) .none elt)).1 ρ = .ok (.tmp (.ol (xs.map f))) ρ1 := by
  have q := lc_list (c := .none) (fun _ => true) f hx hs hd hne hl hz (fun y hy => rfl) (fun y hy _ => he y hy)
  rw [q, List.filter_eq_self.mpr (fun _ _ => rfl)]
/-- a comprehension over range(a), with an if -/
theorem lc_r1 (p : Nat → Bool) (f : Nat → D) {x : Opd} {n : Nat} (hx : (ev2 Φ a).1 ρ = .ok x ρ1) (hs : x.see ρ1 = some (.int n)) (hl : s < ρ1.length) (hz : n ≤ 16777216)
    (hc : ∀ i, i < n → evC Φ c (ρ1.set s (some (.fz (.int i)))) = .ok (p i) (ρ1.set s (some (.fz (.int i)))))
    (he : ∀ i, i < n → p i = true → asD elt (ev2 Φ elt).1 (ρ1.set s (some (.fz (.int i)))) = .ok (f i) (ρ1.set s (some (.fz (.int i))))) :
    (ev2 Φ (.lc (.one s) [s] (.rng1 a) c elt)).1 ρ = .ok (.tmp (.ol (((List.range n).filter p).map f))) ρ1 := by
  have ev := r1_see hx hs (decide_eq_true (p := -(2 ^ 62) ≤ (0 : Int) ∧ (0 : Int) < 2 ^ 62 ∧ -(2 ^ 62) ≤ (n : Int) ∧ (n : Int) < 2 ^ 62) ⟨by decide, by decide, by omega, by omega⟩)
  rw [Int.toNat_natCast] at ev
  rw [e_lc, ev, bind_ok, wipe1]
  show ((lcRun [s] (.one s) (.rng 0 1 n) _ _ n 0 [] _).lets _).bind _ = _
  rw [lc_rng (own := [s]) (s := s) (lo := 0) (n := n) p f (by rw [sz_eq]; omega) fun i hi => ?_]
  · rw [lets_ok, bind_ok, back1, List.set_set, set_self hl]
  · have e0 : (0 : Int) + (i : Int) = i := by omega
    rw [e0, List.set_set]
    refine ⟨_, hc i hi, fun hp => ⟨_, he i hi hp, ?_⟩, fun _ => ?_⟩
    · rw [wipe1, List.set_set]
    · rw [wipe1, List.set_set]
theorem lc_r1m (f : Nat → D) {x : Opd} {n : Nat} (hx : (ev2 Φ a).1 ρ = .ok x ρ1) (hs : x.see ρ1 = some (.int n)) (hl : s < ρ1.length) (hz : n ≤ 16777216)
    (he : ∀ i, i < n → asD elt (ev2 Φ elt).1 (ρ1.set s (some (.fz (.int i)))) = .ok (f i) (ρ1.set s (some (.fz (.int i))))) :
    (ev2 Φ (.lc (.one s) [s] (.rng1 a) .none elt)).1 ρ = .ok (.tmp (.ol ((List.range n).map f))) ρ1 := by
  have q := lc_r1 (c := .none) (fun _ => true) f hx hs hl hz (fun y hy => rfl) (fun y hy _ => he y hy)
  rw [q, List.filter_eq_self.mpr (fun _ _ => rfl)]
/-- a comprehension over range(a, b), with an if -/
theorem lc_r2 (p : Nat → Bool) (f : Nat → D) {x y : Opd} {lo hi : Int} (hx : (ev2 Φ a).1 ρ = .ok x ρ1) (hy : (ev2 Φ b).1 ρ1 = .ok y ρ2) (hs : x.see ρ2 = some (.int lo)) (hs2 : y.see ρ2 = some (.int hi)) (hl : s < ρ2.length) (h1 : -100000 ≤ lo ∧ lo ≤ 100000) (h2 : -100000 ≤ hi ∧ hi ≤ 100000)
    (hc : ∀ i, i < (hi - lo).toNat → evC Φ c (ρ2.set s (some (.fz (.int (lo + i))))) = .ok (p i) (ρ2.set s (some (.fz (.int (lo + i))))))
    (he : ∀ i, i < (hi - lo).toNat → p i = true → asD elt (ev2 Φ elt).1 (ρ2.set s (some (.fz (.int (lo + i))))) = .ok (f i) (ρ2.set s (some (.fz (.int (lo + i)))))) :
    (ev2 Φ (.lc (.one s) [s] (.rng2 a b) c elt)).1 ρ = .ok (.tmp (.ol (((List.range (hi - lo).toNat).filter p).map f))) ρ2 := by
  have ev := r2_see hx hy hs hs2 (decide_eq_true (p := -(2 ^ 62) ≤ lo ∧ lo < 2 ^ 62 ∧ -(2 ^ 62) ≤ hi ∧ hi < 2 ^ 62) ⟨by omega, by omega, by omega, by omega⟩)
  rw [e_lc, ev, bind_ok, wipe1]
  show ((lcRun [s] (.one s) (.rng lo 1 (hi - lo).toNat) _ _ (hi - lo).toNat 0 [] _).lets _).bind _ = _
  rw [lc_rng (own := [s]) (s := s) (lo := lo) (n := (hi - lo).toNat) p f (by rw [sz_eq]; omega) fun i hi => ?_]
  · rw [lets_ok, bind_ok, back1, List.set_set, set_self hl]
  · rw [List.set_set]
    refine ⟨_, hc i hi, fun hp => ⟨_, he i hi hp, ?_⟩, fun _ => ?_⟩
    · rw [wipe1, List.set_set]
    · rw [wipe1, List.set_set]
/-- a comprehension over range(a) whose item works on the slots: at each step one of all states that are right -/
theorem lc_r1x (I : Rho → Prop) (Q : D → Prop) {x : Opd} {n : Nat} (hx : (ev2 Φ a).1 ρ = .ok x ρ1) (hs : x.see ρ1 = some (.int n)) (hz : n ≤ 16777216) (hI : I (ρ1.set s none))
    (he : ∀ i ρ, i < n → I ρ → ∃ y ρ', asD elt (ev2 Φ elt).1 (ρ.set s (some (.fz (.int i)))) = .ok y ρ' ∧ Q y ∧ I (ρ'.set s none)) :
    ∃ ys ρ', (ev2 Φ (.lc (.one s) [s] (.rng1 a) .none elt)).1 ρ = .ok (.tmp (.ol ys)) (ρ'.set s (slotT ρ1 s)) ∧ ys.length = n ∧ (∀ y ∈ ys, Q y) ∧ I ρ' := by
  have ev := r1_see hx hs (decide_eq_true (p := -(2 ^ 62) ≤ (0 : Int) ∧ (0 : Int) < 2 ^ 62 ∧ -(2 ^ 62) ≤ (n : Int) ∧ (n : Int) < 2 ^ 62) ⟨by decide, by decide, by omega, by omega⟩)
  rw [Int.toNat_natCast] at ev
  rw [e_lc, ev, bind_ok, wipe1]
  show ∃ ys ρ', ((lcRun [s] (.one s) (.rng 0 1 n) _ _ n 0 [] _).lets _).bind _ = _ ∧ _
  refine lc_wp (fun i acc ρ => acc.length = i ∧ (∀ y ∈ acc, Q y) ∧ I ρ) (fun (r : R (List D)) => ∃ (ys : List D) (ρ' : Rho), ((r.lets fun ρ2 => backR ρ1 (wipeR ρ2 [s]) [s]).bind fun ds ρ2 => R.ok (Opd.tmp (.ol ds)) (backR ρ1 ρ2 [s])) = R.ok (Opd.tmp (.ol ys)) (ρ'.set s (slotT ρ1 s)) ∧ ys.length = n ∧ (∀ y ∈ ys, Q y) ∧ I ρ') n 0 [] _ ⟨rfl, fun _ z => (nomatch z), hI⟩ ?_ ?_
  · rintro i acc ρ _ hi ⟨h1, h2, h3⟩
    obtain ⟨y, ρ', e1, e2, e3⟩ := he i ρ (by omega) h3
    refine ⟨_, _, rfl, rfl, true, _, rfl, fun _ => ⟨y, ρ', ?_, ?_, ?_, ?_, e3⟩, fun z => absurd z (by decide)⟩
    · have e0 : (0 : Int) + (i : Int) * 1 = i := by omega
      rw [e0]
      exact e1
    · rw [sz_eq, h1]
      omega
    · rw [List.length_append, h1]
      rfl
    · intro z hz
      rcases List.mem_append.mp hz with hz | hz
      · exact h2 z hz
      · rw [List.mem_singleton.mp hz]
        exact e2
  · rintro acc ρ ⟨h1, h2, h3⟩
    exact ⟨rfl, acc, ρ, rfl, by omega, h2, h3⟩
/-! ### loops -/
variable {bd : Ss}
/-- a loop over range(a): the slots behind each round are told -/
theorem for_r1 (I : Nat → Rho) {x : Opd} {n : Nat} (hx : (ev2 Φ a).1 ρ = .ok x (I 0)) (hs : x.see (I 0) = some (.int n)) (hz : n ≤ 16777216)
    (h : ∀ i, i < n → exSs Φ bd ((I i).set s (some (.fz (.int i)))) = .ok .nx (I (i + 1))) :
    exS Φ (.for_ (.one s) (.rng1 a) bd) ρ = .ok .nx (I n) := by
  have ev := r1_see hx hs (decide_eq_true (p := -(2 ^ 62) ≤ (0 : Int) ∧ (0 : Int) < 2 ^ 62 ∧ -(2 ^ 62) ≤ (n : Int) ∧ (n : Int) < 2 ^ 62) ⟨by decide, by decide, by omega, by omega⟩)
  rw [Int.toNat_natCast] at ev
  rw [x_for, ev, bind_ok]
  show forRun _ (.rng 0 1 n) _ n 0 _ = _
  refine for_wp (fun i ρ => ρ = I i) (fun r => r = .ok .nx (I n)) n 0 _ rfl ?_ ?_
  · rintro i _ _ hi rfl
    have e0 : (0 : Int) + (i : Int) * 1 = i := by omega
    refine ⟨_, _, rfl, rfl, ?_⟩
    rw [e0, h i (by omega)]
  · rintro _ rfl
    exact ⟨rfl, by rw [Nat.zero_add]⟩
/-- .. with an end that some round may tell -/
theorem for_r1p (I : Nat → Rho → Prop) (P : R Fl → Prop) {x : Opd} {n : Nat} (hx : (ev2 Φ a).1 ρ = .ok x ρ1) (hs : x.see ρ1 = some (.int n)) (hz : n ≤ 16777216) (h0 : I 0 ρ1)
    (h : ∀ i ρ, i < n → I i ρ → match exSs Φ bd (ρ.set s (some (.fz (.int i)))) with
      | .ok .nx ρ2 => I (i + 1) ρ2
      | .ok .ct ρ2 => I (i + 1) ρ2
      | .ok .bk ρ2 => P (.ok .nx ρ2)
      | .ok (.rt t) ρ2 => P (.ok (.rt t) ρ2)
      | .exc x ρ2 => P (.exc x ρ2)
      | .no => False) (hf : ∀ ρ, I n ρ → P (.ok .nx ρ)) :
    P (exS Φ (.for_ (.one s) (.rng1 a) bd) ρ) := by
  have ev := r1_see hx hs (decide_eq_true (p := -(2 ^ 62) ≤ (0 : Int) ∧ (0 : Int) < 2 ^ 62 ∧ -(2 ^ 62) ≤ (n : Int) ∧ (n : Int) < 2 ^ 62) ⟨by decide, by decide, by omega, by omega⟩)
  rw [Int.toNat_natCast] at ev
  rw [x_for, ev, bind_ok]
  show P (forRun _ (.rng 0 1 n) _ n 0 _)
  refine for_wp I P n 0 _ h0 ?_ ?_
  · intro i ρ _ hi hI
    have e0 : (0 : Int) + (i : Int) * 1 = i := by omega
    refine ⟨_, _, rfl, rfl, ?_⟩
    rw [e0]
    exact h i ρ (by omega) hI
  · intro ρ hI
    rw [Nat.zero_add] at hI
    exact ⟨rfl, hf ρ hI⟩
theorem for_r2p (I : Nat → Rho → Prop) (P : R Fl → Prop) {x y : Opd} {lo hi : Int} (hx : (ev2 Φ a).1 ρ = .ok x ρ1) (hy : (ev2 Φ b).1 ρ1 = .ok y ρ2) (hs : x.see ρ2 = some (.int lo)) (hs2 : y.see ρ2 = some (.int hi)) (h1 : -100000 ≤ lo ∧ lo ≤ 100000) (h2 : -100000 ≤ hi ∧ hi ≤ 100000) (h0 : I 0 ρ2)
    (h : ∀ i ρ, i < (hi - lo).toNat → I i ρ → match exSs Φ bd (ρ.set s (some (.fz (.int (lo + i))))) with
      | .ok .nx ρ2 => I (i + 1) ρ2
      | .ok .ct ρ2 => I (i + 1) ρ2
      | .ok .bk ρ2 => P (.ok .nx ρ2)
      | .ok (.rt t) ρ2 => P (.ok (.rt t) ρ2)
      | .exc x ρ2 => P (.exc x ρ2)
      | .no => False) (hf : ∀ ρ, I (hi - lo).toNat ρ → P (.ok .nx ρ)) :
    P (exS Φ (.for_ (.one s) (.rng2 a b) bd) ρ) := by
  have ev := r2_see hx hy hs hs2 (decide_eq_true (p := -(2 ^ 62) ≤ lo ∧ lo < 2 ^ 62 ∧ -(2 ^ 62) ≤ hi ∧ hi < 2 ^ 62) ⟨by omega, by omega, by omega, by omega⟩)
  rw [x_for, ev, bind_ok]
  show P (forRun _ (.rng lo 1 (hi - lo).toNat) _ (hi - lo).toNat 0 _)
  refine for_wp I P (hi - lo).toNat 0 _ h0 ?_ ?_
  · intro i ρ _ hi hI
    have e0 : lo + (i : Int) * 1 = lo + i := by omega
    refine ⟨_, _, rfl, rfl, ?_⟩
    rw [e0]
    exact h i ρ (by omega) hI
  · intro ρ hI
    rw [Nat.zero_add] at hI
    exact ⟨rfl, hf ρ hI⟩
/-- a loop over a list or tuple -/
theorem for_lp (I : Nat → Rho → Prop) (P : R Fl → Prop) {x : Opd} {d : D} {k : Bool} {xs : List D} (hx : (ev2 Φ e).1 ρ = .ok x ρ1) (hs : x.see ρ1 = some d) (hd : seqD d = some (k, xs)) (hf1 : (opdSrc x (k, xs)).free (s :: bd.sets) = true) (h0 : I 0 ρ1)
    (ht : ∀ i ρ, I i ρ → x.see ρ = some d)
    (h : ∀ i y ρ, xs[i]? = some y → I i ρ → match exSs Φ bd (ρ.set s (some (.fz y))) with
      | .ok .nx ρ2 => I (i + 1) ρ2
      | .ok .ct ρ2 => I (i + 1) ρ2
      | .ok .bk ρ2 => P (.ok .nx ρ2)
      | .ok (.rt t) ρ2 => P (.ok (.rt t) ρ2)
      | .exc x ρ2 => P (.exc x ρ2)
      | .no => False) (hf : ∀ ρ, I xs.length ρ → P (.ok .nx ρ)) :
    P (exS Φ (.for_ (.one s) (.opd e) bd) ρ) := by
  have ev : evI Φ (.opd e) ρ = .ok (opdSrc x (k, xs)) ρ1 := by
    rw [i_op, hx, bind_ok, hs, Option.bind_some, src_of hd]
    rfl
  have sk : seqK k d = some xs := by
    cases d <;> cases hd <;> rfl
  have ln : (opdSrc x (k, xs)).len = xs.length := by cases x <;> rfl
  rw [x_for, ev, bind_ok]
  show P (if (opdSrc x (k, xs)).free (s :: bd.sets) = true then _ else _)
  rw [if_pos hf1, ln]
  have nx : ∀ i ρ, I i ρ → (∀ j, (opdSrc x (k, xs)).item j ρ = xs[j]?) ∧ (opdSrc x (k, xs)).fin ρ = true := fun i ρ hI => by
    cases x with
    | tmp t => exact ⟨fun _ => rfl, rfl⟩
    | sl j =>
      have st : ((slotT ρ j).bind T.view).bind (seqK k) = some xs := by
        have hs' : (slotT ρ j).bind T.view = some d := ht i ρ hI
        rw [hs', Option.bind_some, sk]
      refine ⟨fun j' => ?_, ?_⟩
      · show (((slotT ρ j).bind T.view).bind (seqK k)).bind (fun ds => if ds.length = xs.length then ds[j']? else none) = _
        rw [st, Option.bind_some, if_pos rfl]
      · show (match ((slotT ρ j).bind T.view).bind (seqK k) with | some ds => decide (ds.length = xs.length) | none => false) = true
        rw [st]
        exact decide_eq_true rfl
  refine for_wp I P xs.length 0 _ h0 ?_ ?_
  · intro i ρ _ hi hI
    have ex : xs[i]? = some xs[i] := List.getElem?_eq_getElem (by omega)
    refine ⟨xs[i], _, by rw [(nx i ρ hI).1, ex], rfl, h i _ ρ ex hI⟩
  · intro ρ hI
    rw [Nat.zero_add] at hI
    exact ⟨(nx _ ρ hI).2, hf ρ hI⟩
/-- .. of a list that is a row of things, each told as data -/
theorem for_lm {α : Type} (I : Nat → Rho → Prop) (P : R Fl → Prop) {x : Opd} {k : Bool} {rs : List α} {g : α → D} {d : D} (hx : (ev2 Φ e).1 ρ = .ok x ρ1) (hs : x.see ρ1 = some d) (hd : seqD d = some (k, rs.map g)) (hf1 : (opdSrc x (k, rs.map g)).free (s :: bd.sets) = true) (h0 : I 0 ρ1)
    (ht : ∀ i ρ, I i ρ → x.see ρ = some d)
    (h : ∀ i r ρ, rs[i]? = some r → I i ρ → match exSs Φ bd (ρ.set s (some (.fz (g r)))) with
      | .ok .nx ρ2 => I (i + 1) ρ2
      | .ok .ct ρ2 => I (i + 1) ρ2
      | .ok .bk ρ2 => P (.ok .nx ρ2)
      | .ok (.rt t) ρ2 => P (.ok (.rt t) ρ2)
      | .exc x ρ2 => P (.exc x ρ2)
      | .no => False) (hf : ∀ ρ, I rs.length ρ → P (.ok .nx ρ)) :
    P (exS Φ (.for_ (.one s) (.opd e) bd) ρ) := by
  refine for_lp I P hx hs hd hf1 h0 ht (fun i y ρ hy hI => ?_) (fun ρ hI => hf ρ (by rwa [List.length_map] at hI))
  rw [List.getElem?_map] at hy
  cases hr : rs[i]? with
  | none => rw [hr] at hy; cases hy
  | some r =>
    rw [hr] at hy
    cases hy
    exact h i r ρ hr hI
/-- a comprehension over a row of things, each told as data -/
theorem lc_lm {α : Type} (p : α → Bool) (f : α → D) {x : Opd} {d : D} {k : Bool} {rs : List α} {g : α → D} (hx : (ev2 Φ e).1 ρ = .ok x ρ1) (hs : x.see ρ1 = some d) (hd : seqD d = some (k, rs.map g)) (hne : x ≠ .sl s) (hl : s < ρ1.length) (hz : rs.length ≤ 16777216)
    (hc : ∀ r ∈ rs, evC Φ c (ρ1.set s (some (.fz (g r)))) = .ok (p r) (ρ1.set s (some (.fz (g r)))))
    (he : ∀ r ∈ rs, p r = true → asD elt (ev2 Φ elt).1 (ρ1.set s (some (.fz (g r)))) = .ok (f r) (ρ1.set s (some (.fz (g r))))) :
    (ev2 Φ (.lc (.one s) [s] (.opd e) c elt)).1 ρ = .ok (.tmp (.ol ((rs.filter p).map f))) ρ1 := by
  obtain ⟨h1, h2, h3⟩ := src_opd (s := s) hs hd hne
  have ev : evI Φ (.opd e) ρ = .ok (opdSrc x (k, rs.map g)) ρ1 := by
    rw [i_op, hx, bind_ok, hs, Option.bind_some, src_of hd]
    rfl
  rw [e_lc, ev, bind_ok, wipe1, h1, List.length_map]
  have run : lcRun [s] (.one s) (opdSrc x (k, rs.map g)) (evC Φ c) (asD elt (ev2 Φ elt).1) rs.length 0 [] (ρ1.set s none) = .ok ((rs.filter p).map f) (ρ1.set s none) := by
    refine lc_wp (fun i acc ρ' => ρ' = ρ1.set s none ∧ acc = ((rs.take i).filter p).map f) (fun r => r = .ok ((rs.filter p).map f) (ρ1.set s none)) rs.length 0 [] _ ⟨rfl, by simp⟩ ?_ ?_
    · rintro i acc _ _ hlt ⟨rfl, rfl⟩
      have hi' : i < rs.length := by omega
      have ex : rs[i]? = some rs[i] := List.getElem?_eq_getElem hi'
      have hm := List.getElem_mem hi'
      have tk : rs.take (i + 1) = rs.take i ++ [rs[i]] := by rw [List.take_add_one, ex]; rfl
      have it := h2 none i (g rs[i]) (by rw [List.getElem?_map, ex]; rfl)
      refine ⟨_, (ρ1.set s none).set s (some (.fz (g rs[i]))), it, rfl, p rs[i], ρ1.set s (some (.fz (g rs[i]))), ?_, fun hb => ⟨f rs[i], ρ1.set s (some (.fz (g rs[i]))), he _ hm hb, ?_, ?_, ?_⟩, fun hb => ⟨?_, ?_⟩⟩
      · rw [List.set_set]
        exact hc _ hm
      · have l1 := List.length_filter_le p (rs.take i)
        rw [List.length_take] at l1
        rw [List.length_map, sz_eq]
        omega
      · rw [wipe1, List.set_set]
      · rw [tk, List.filter_append, List.map_append]
        simp [hb]
      · rw [wipe1, List.set_set]
      · rw [tk, List.filter_append, List.map_append]
        simp [hb]
    · rintro acc _ ⟨rfl, rfl⟩
      refine ⟨h3 none, ?_⟩
      rw [Nat.zero_add, List.take_of_length_le (Nat.le_refl _)]
  rw [run, lets_ok, bind_ok, back1, List.set_set, set_self hl]
theorem seq_nx {st : S} {ss : Ss} (h : exS Φ st ρ = .ok .nx ρ1) : exSs Φ (.cons st ss) ρ = exSs Φ ss ρ1 := by
  rw [x_cons, h]
  rfl
theorem seq_rt {st : S} {ss : Ss} {t : T} (h : exS Φ st ρ = .ok (.rt t) ρ1) : exSs Φ (.cons st ss) ρ = .ok (.rt t) ρ1 := by
  rw [x_cons, h]
  rfl
theorem mu_of {m : Mu} {i : Nat} {es : Es} (h : isOl (slotT ρ i) = true) : (ev2 Φ (.mu m i es)).1 ρ = (evDs Φ es ρ).bind (muFin m i) := by
  rw [e_mu, if_pos h]
theorem mu_fin {m : Mu} {i : Nat} {xs ys ds : List D} {d : D} (h : slotT ρ i = some (.ol xs)) (e : muD m xs ds = some (ys, d)) : muFin m i ds ρ = .ok (.tmp (.fz d)) (ρ.set i (some (.ol ys))) := by
  unfold muFin
  rw [h]
  show (match muD m xs ds with | some (ys, d) => R.ok (Opd.tmp (.fz d)) (ρ.set i (some (.ol ys))) | none => R.no) = _
  rw [e]
theorem tryT_ok {b : Ss} {h1 h2 : Str} {d : D} {f : Fl} (h : exSs Φ b ρ = .ok f ρ1) : exS Φ (.tryT b h1 h2 d) ρ = .ok f ρ1 := by
  show (match exSs Φ b ρ with | .exc x ρ1 => catchT Φ.sub x ρ1 h1 h2 d | r => r) = _
  rw [h]
theorem tryT_exc {b : Ss} {h1 h2 : Str} {d : D} {x : Ex} {b1 b2 : Bool} (h : exSs Φ b ρ = .exc x ρ1) (e1 : Φ.sub x.c h1 = some b1) (e2 : Φ.sub x.c h2 = some b2) (hb : (b1 || (b2 || false)) = true) : exS Φ (.tryT b h1 h2 d) ρ = .ok (.rt (.fz d)) ρ1 := by
  show (match exSs Φ b ρ with | .exc x ρ1 => catchT Φ.sub x ρ1 h1 h2 d | r => r) = _
  rw [h]
  show catchT Φ.sub x ρ1 h1 h2 d = _
  unfold catchT
  rw [e1, e2]
  exact if_pos hb
theorem catchI_exc {h c c1 c2 : Str} {i : Nat} {b1 b2 : Bool} (hs : Φ.sub c h = some true) (h1 : Φ.isx c c1 = some b1) (h2 : Φ.isx c c2 = some b2) : catchI Φ h i c1 c2 (.exc ⟨c, []⟩ ρ) = .ok (.rt (.fz (.bool (b1 && b2)))) (ρ.set i none) := by
  simp only [catchI, hs, h1, h2]
theorem catch_exc {h f c : Str} {i : Nat} {d : D} (hs : Φ.sub c h = some true) (hh : Φ.hot f c = some d) : catchC Φ h i f (.exc ⟨c, []⟩ ρ) = .ok (.rt (.fz d)) (ρ.set i none) := by
  unfold catchC
  simp only [hs, hh]
theorem ints_of {P : Int → Prop} : ∀ {ys : List D}, (∀ y ∈ ys, ∃ x, y = .int x ∧ P x) → ∃ ws : List Int, ys = ws.map PyData.int ∧ ∀ w ∈ ws, P w
  | [], _ => ⟨[], rfl, fun _ z => nomatch z⟩
  | y :: ys, h => by
    obtain ⟨x, rfl, hx⟩ := h y (List.mem_cons_self ..)
    obtain ⟨ws, rfl, hw⟩ := ints_of fun z hz => h z (List.mem_cons_of_mem _ hz)
    refine ⟨x :: ws, rfl, fun w hm => ?_⟩
    rcases List.mem_cons.mp hm with rfl | hm
    · exact hx
    · exact hw w hm
end
/-! ### loops that look for something -/
/-- a loop that went through (and then b is True) or gave t -/
def Scan (I : Rho → Prop) (t : T) (b : Bool) (r : R Fl) : Prop := (b = true ∧ ∃ ρ, r = .ok .nx ρ ∧ I ρ) ∨ (b = false ∧ ∃ ρ, r = .ok (.rt t) ρ)
section
variable {Φ : Fx} {e a b : E} {s : Nat} {ρ ρ1 ρ2 : Rho} {bd ss : Ss} {st : S} {I : Rho → Prop} {t : T} {v : Bool}
theorem scan_nx (h : exS Φ st ρ = .ok .nx ρ1) (k : Scan I t v (exSs Φ ss ρ1)) : Scan I t v (exSs Φ (.cons st ss) ρ) := by
  rw [seq_nx h]
  exact k
theorem scan_last (h : Scan I t v (exS Φ st ρ)) : Scan I t v (exSs Φ (.cons st .nil) ρ) := by
  rcases h with ⟨hb, ρ', e, hI⟩ | ⟨hb, ρ', e⟩
  · rw [seq_nx e]
    exact .inl ⟨hb, ρ', rfl, hI⟩
  · rw [seq_rt e]
    exact .inr ⟨hb, ρ', rfl⟩
theorem all_no {n i : Nat} {ok : Nat → Bool} (hi : i < n) (h : ok i = false) : (List.range n).all ok = false :=
  List.all_eq_false.mpr ⟨i, List.mem_range.mpr hi, by rw [h]; exact Bool.false_ne_true⟩
theorem all_more {i : Nat} {ok : Nat → Bool} (ha : (List.range i).all ok = true) (h : ok i = true) : (List.range (i + 1)).all ok = true := by
  rw [List.range_succ, List.all_append, ha, List.all_cons, h]
  rfl
theorem scan_r1 (ok : Nat → Bool) {x : Opd} {n : Nat} (hx : (ev2 Φ a).1 ρ = .ok x ρ1) (hs : x.see ρ1 = some (.int n)) (hz : n ≤ 16777216) (h0 : I ρ1)
    (h : ∀ i ρ, i < n → I ρ → Scan I t (ok i) (exSs Φ bd (ρ.set s (some (.fz (.int i)))))) : Scan I t ((List.range n).all ok) (exS Φ (.for_ (.one s) (.rng1 a) bd) ρ) := by
  refine for_r1p (fun i ρ => (List.range i).all ok = true ∧ I ρ) (Scan I t ((List.range n).all ok)) hx hs hz ⟨rfl, h0⟩ ?_ ?_
  · rintro i ρ hi ⟨ha, hI⟩
    rcases h i ρ hi hI with ⟨hb, ρ', e, hI'⟩ | ⟨hb, ρ', e⟩
    · rw [e]
      exact ⟨all_more ha hb, hI'⟩
    · rw [e]
      exact .inr ⟨all_no hi hb, ρ', rfl⟩
  · rintro ρ ⟨ha, hI⟩
    exact .inl ⟨ha, ρ, rfl, hI⟩
theorem scan_r2 (ok : Nat → Bool) {x y : Opd} {lo hi : Int} (hx : (ev2 Φ a).1 ρ = .ok x ρ1) (hy : (ev2 Φ b).1 ρ1 = .ok y ρ2) (hs : x.see ρ2 = some (.int lo)) (hs2 : y.see ρ2 = some (.int hi)) (h1 : -100000 ≤ lo ∧ lo ≤ 100000) (h2 : -100000 ≤ hi ∧ hi ≤ 100000) (h0 : I ρ2)
    (h : ∀ i ρ, i < (hi - lo).toNat → I ρ → Scan I t (ok i) (exSs Φ bd (ρ.set s (some (.fz (.int (lo + i))))))) : Scan I t ((List.range (hi - lo).toNat).all ok) (exS Φ (.for_ (.one s) (.rng2 a b) bd) ρ) := by
  refine for_r2p (fun i ρ => (List.range i).all ok = true ∧ I ρ) (Scan I t ((List.range (hi - lo).toNat).all ok)) hx hy hs hs2 h1 h2 ⟨rfl, h0⟩ ?_ ?_
  · rintro i ρ hi ⟨ha, hI⟩
    rcases h i ρ hi hI with ⟨hb, ρ', e, hI'⟩ | ⟨hb, ρ', e⟩
    · rw [e]
      exact ⟨all_more ha hb, hI'⟩
    · rw [e]
      exact .inr ⟨all_no hi hb, ρ', rfl⟩
  · rintro ρ ⟨ha, hI⟩
    exact .inl ⟨ha, ρ, rfl, hI⟩
theorem scan_lm {α : Type} (ok : α → Bool) {x : Opd} {k : Bool} {rs : List α} {g : α → D} {d : D} (hx : (ev2 Φ e).1 ρ = .ok x ρ1) (hs : x.see ρ1 = some d) (hd : seqD d = some (k, rs.map g)) (hf1 : (opdSrc x (k, rs.map g)).free (s :: bd.sets) = true) (h0 : I ρ1)
    (ht : ∀ ρ, I ρ → x.see ρ = some d)
    (h : ∀ r ρ, r ∈ rs → I ρ → Scan I t (ok r) (exSs Φ bd (ρ.set s (some (.fz (g r)))))) : Scan I t (rs.all ok) (exS Φ (.for_ (.one s) (.opd e) bd) ρ) := by
  refine for_lm (fun i ρ => (rs.take i).all ok = true ∧ I ρ) (Scan I t (rs.all ok)) hx hs hd hf1 ⟨rfl, h0⟩ (fun i ρ q => ht ρ q.2) ?_ ?_
  · rintro i r ρ hr ⟨ha, hI⟩
    rcases h r ρ (List.mem_of_getElem? hr) hI with ⟨hb, ρ', e, hI'⟩ | ⟨hb, ρ', e⟩
    · rw [e]
      refine ⟨?_, hI'⟩
      rw [List.take_add_one, hr, List.all_append, ha]
      simp [hb]
    · rw [e]
      exact .inr ⟨List.all_eq_false.mpr ⟨r, List.mem_of_getElem? hr, by rw [hb]; exact Bool.false_ne_true⟩, ρ', rfl⟩
  · rintro ρ ⟨ha, hI⟩
    rw [List.take_of_length_le (Nat.le_refl _)] at ha
    exact .inl ⟨ha, ρ, rfl, hI⟩
/-- a loop that gave the first found thing, or went through -/
def First (I J : Rho → Prop) (o : Option T) (r : R Fl) : Prop := (o = none ∧ ∃ ρ, r = .ok .nx ρ ∧ I ρ) ∨ (∃ t, o = some t ∧ ∃ ρ, r = .ok (.rt t) ρ ∧ J ρ)
theorem fs_succ {i : Nat} {g : Nat → Option T} (ha : (List.range i).findSome? g = none) : (List.range (i + 1)).findSome? g = g i := by
  rw [List.range_succ, List.findSome?_append, ha]
  show (List.findSome? g [i]) = g i
  rw [List.findSome?_cons]
  cases g i <;> rfl
theorem fs_at {n i : Nat} {g : Nat → Option T} {t : T} (hi : i < n) (ha : (List.range i).findSome? g = none) (h : g i = some t) : (List.range n).findSome? g = some t := by
  have split : List.range n = List.range (i + 1) ++ (List.range (n - (i + 1))).map (i + 1 + ·) := by
    rw [← List.range_add]
    congr 1
    omega
  rw [split, List.findSome?_append, fs_succ ha, h]
  rfl
theorem first_r1 {J : Rho → Prop} (g : Nat → Option T) {x : Opd} {n : Nat} (hx : (ev2 Φ a).1 ρ = .ok x ρ1) (hs : x.see ρ1 = some (.int n)) (hz : n ≤ 16777216) (h0 : I ρ1)
    (h : ∀ i ρ, i < n → I ρ → First I J (g i) (exSs Φ bd (ρ.set s (some (.fz (.int i)))))) : First I J ((List.range n).findSome? g) (exS Φ (.for_ (.one s) (.rng1 a) bd) ρ) := by
  refine for_r1p (fun i ρ => (List.range i).findSome? g = none ∧ I ρ) (First I J ((List.range n).findSome? g)) hx hs hz ⟨rfl, h0⟩ ?_ ?_
  · rintro i ρ hi ⟨ha, hI⟩
    rcases h i ρ hi hI with ⟨hb, ρ', e, hI'⟩ | ⟨t, hb, ρ', e, hJ⟩
    · rw [e]
      exact ⟨by rw [fs_succ ha, hb], hI'⟩
    · rw [e]
      exact .inr ⟨t, fs_at hi ha hb, ρ', rfl, hJ⟩
  · rintro ρ ⟨ha, hI⟩
    exact .inl ⟨ha, ρ, rfl, hI⟩
theorem first_r2 {J : Rho → Prop} (g : Nat → Option T) {x y : Opd} {lo hi : Int} (hx : (ev2 Φ a).1 ρ = .ok x ρ1) (hy : (ev2 Φ b).1 ρ1 = .ok y ρ2) (hs : x.see ρ2 = some (.int lo)) (hs2 : y.see ρ2 = some (.int hi)) (h1 : -100000 ≤ lo ∧ lo ≤ 100000) (h2 : -100000 ≤ hi ∧ hi ≤ 100000) (h0 : I ρ2)
    (h : ∀ i ρ, i < (hi - lo).toNat → I ρ → First I J (g i) (exSs Φ bd (ρ.set s (some (.fz (.int (lo + i))))))) : First I J ((List.range (hi - lo).toNat).findSome? g) (exS Φ (.for_ (.one s) (.rng2 a b) bd) ρ) := by
  refine for_r2p (fun i ρ => (List.range i).findSome? g = none ∧ I ρ) (First I J ((List.range (hi - lo).toNat).findSome? g)) hx hy hs hs2 h1 h2 ⟨rfl, h0⟩ ?_ ?_
  · rintro i ρ hi ⟨ha, hI⟩
    rcases h i ρ hi hI with ⟨hb, ρ', e, hI'⟩ | ⟨t, hb, ρ', e, hJ⟩
    · rw [e]
      exact ⟨by rw [fs_succ ha, hb], hI'⟩
    · rw [e]
      exact .inr ⟨t, fs_at hi ha hb, ρ', rfl, hJ⟩
  · rintro ρ ⟨ha, hI⟩
    exact .inl ⟨ha, ρ, rfl, hI⟩
end
end L2.Eng

namespace L2.Eng
open PySem
/-! EngS: rows of the numbers from 1 on, lists as data. -/
def iota (n : Nat) : List Int := (List.range n).map fun (i : Nat) => 1 + (i : Int)
theorem iota_len (n : Nat) : (iota n).length = n := by
  unfold iota
  rw [List.length_map, List.length_range]
theorem iota_mem {n : Nat} {x : Int} : x ∈ iota n ↔ 1 ≤ x ∧ x ≤ n := by
  unfold iota
  rw [List.mem_map]
  constructor
  · rintro ⟨i, hi, rfl⟩
    have := List.mem_range.mp hi
    omega
  · rintro ⟨h1, h2⟩
    exact ⟨(x - 1).toNat, List.mem_range.mpr (by omega), by omega⟩
theorem iota_nodup (n : Nat) : (iota n).Nodup := by
  unfold iota
  refine List.Pairwise.map _ (fun a b (h : a ≠ b) e => h ?_) (List.nodup_range (n := n))
  omega
theorem iota_sorted (n : Nat) : (iota n).Pairwise (· ≤ ·) := by
  unfold iota
  refine List.Pairwise.map _ (fun a b (h : a < b) => ?_) (List.pairwise_lt_range (n := n))
  omega
theorem iota_rng (n : Nat) : rngD 1 ((n : Int) + 1) = (iota n).map PyData.int := by
  unfold rngD iota
  rw [show ((n : Int) + 1 - 1).toNat = n by omega, List.map_map]
  rfl
def Row (n : Nat) (r : List Int) : Prop := r.Perm (iota n)
section
variable {n : Nat} {r : List Int}
theorem Row.len (h : Row n r) : r.length = n := by rw [h.length_eq, iota_len]
theorem Row.bnd (h : Row n r) {x : Int} (hx : x ∈ r) : 1 ≤ x ∧ x ≤ n := iota_mem.mp (h.mem_iff.mp hx)
theorem Row.has (h : Row n r) {x : Int} (h1 : 1 ≤ x) (h2 : x ≤ n) : x ∈ r := h.mem_iff.mpr (iota_mem.mpr ⟨h1, h2⟩)
theorem Row.nodup (h : Row n r) : r.Nodup := h.symm.nodup (iota_nodup n)
end
theorem le_int (a b : Int) : PySem.W.dataLe false id (PyData.int a) (PyData.int b) = decide (a ≤ b) := by
  show (!(PyProof.Rows.lexLt PyProof.Rows.itemOrd [.inl b] [.inl a])) = _
  simp only [PyProof.Rows.lexLt, PyProof.Rows.itemLt]
  by_cases h : a ≤ b
  · rw [decide_eq_true h]
    have h2 : ¬ b < a := by omega
    by_cases h3 : a < b <;> simp [h2, h3]
  · rw [decide_eq_false h]
    have h2 : b < a := by omega
    simp [h2]
theorem alike_ints (l : List Int) : ((l.map PyData.int).all fun d => (l.map PyData.int).all fun e => PySem.W.alike d e) = true := by
  rw [List.all_eq_true]
  intro d hd
  rw [List.all_eq_true]
  intro e he
  obtain ⟨x, _, rfl⟩ := List.mem_map.mp hd
  obtain ⟨y, _, rfl⟩ := List.mem_map.mp he
  rfl
theorem sort_row {n : Nat} {r : List Int} (h : Row n r) (hn : n ≤ 1000) : biD .sorted [.list (r.map PyData.int)] = some (.ol ((iota n).map PyData.int)) := by
  have tl := PySem.W.sortLe_total (PyProof.Rows.listOrd PyProof.Rows.itemOrd) false fun b : PyData => PySem.W.keyToks (id b)
  have e : (r.map PyData.int).mergeSort (PySem.W.dataLe false id) = (iota n).map PyData.int := by
    refine List.Perm.eq_of_pairwise (le := fun a b => PySem.W.dataLe false id a b = true) ?_ (List.pairwise_mergeSort (fun a b c => tl.trans a b c) (fun a b => (Bool.or_eq_true _ _).mpr (tl.total a b)) _) ?_ ((List.mergeSort_perm _ _).trans (h.map _))
    · intro a b ha hb h1 h2
      have ha := (List.mergeSort_perm _ _).mem_iff.mp ha
      obtain ⟨x, _, rfl⟩ := List.mem_map.mp ha
      obtain ⟨y, _, rfl⟩ := List.mem_map.mp hb
      rw [le_int, decide_eq_true_eq] at h1 h2
      rw [show x = y by omega]
    · refine List.Pairwise.map _ (fun a b (h : a ≤ b) => ?_) (iota_sorted n)
      rw [le_int]
      exact decide_eq_true h
  have c1 : ((r.map PyData.int).all fun d => decide (d.depth ≤ 64)) = true := by
    rw [List.all_eq_true]
    intro d hd
    obtain ⟨x, _, rfl⟩ := List.mem_map.mp hd
    rfl
  have c2 : ((r.map PyData.int).all fun d => match d with | .none => false | .tuple _ => false | _ => true) = true := by
    rw [List.all_eq_true]
    intro d hd
    obtain ⟨x, _, rfl⟩ := List.mem_map.mp hd
    rfl
  show (sortD _).map _ = _
  unfold sortD
  rw [if_pos ⟨by rw [sz_eq, List.length_map, h.len]; omega, alike_ints r, c1, .inr c2⟩, e]
  rfl
theorem eqv_ints : ∀ a b : List Int, PyData.eqvAll (a.map PyData.int) (b.map PyData.int) = decide (a = b)
  | [], [] => rfl
  | [], _ :: _ => rfl
  | _ :: _, [] => rfl
  | x :: a, y :: b => by
    show (PyData.eqv (.int x) (.int y) && PyData.eqvAll (a.map PyData.int) (b.map PyData.int)) = _
    rw [eqv_int, eqv_ints a b]
    by_cases h1 : x = y <;> by_cases h2 : a = b <;> simp [h1, h2]
theorem eqv_il (a b : List Int) : PyData.eqv (.list (a.map PyData.int)) (.list (b.map PyData.int)) = decide (a = b) := by
  rw [PyData.eqv]
  exact eqv_ints a b
theorem dep_ints : ∀ a : List Int, PyData.depthAll (a.map PyData.int) = 0
  | [] => rfl
  | x :: a => by
    show max (PyData.depth (.int x)) (PyData.depthAll (a.map PyData.int)) = 0
    rw [dep_ints a]
    rfl
theorem lay_ints : ∀ a : List Int, PyData.canLayAll0 (a.map PyData.int) = true
  | [] => rfl
  | x :: a => by
    show (PyData.canLay0 (.int x) && PyData.canLayAll0 (a.map PyData.int)) = true
    rw [lay_ints a]
    rfl
theorem shp_il (a : List Int) : SeqAt.shaped (.list (a.map PyData.int)) = true := by
  show (PyData.canLayAll0 (a.map PyData.int) && decide (PyData.depthAll (a.map PyData.int) + 1 ≤ 64)) = true
  rw [lay_ints, dep_ints]
  rfl
theorem lay_ils : ∀ a : List (List Int), PyData.canLayAll0 (a.map fun r => PyData.list (r.map PyData.int)) = true
  | [] => rfl
  | x :: a => by
    show (PyData.canLayAll0 (x.map PyData.int) && PyData.canLayAll0 (a.map fun r => PyData.list (r.map PyData.int))) = true
    rw [lay_ils a, lay_ints]
    rfl
theorem dep_ils : ∀ a : List (List Int), PyData.depthAll (a.map fun r => PyData.list (r.map PyData.int)) ≤ 1
  | [] => by decide
  | x :: a => by
    show max (PyData.depthAll (x.map PyData.int) + 1) (PyData.depthAll (a.map fun r => PyData.list (r.map PyData.int))) ≤ 1
    have h := dep_ils a
    rw [dep_ints]
    omega
theorem shp_ils (a : List (List Int)) : SeqAt.shaped (.list (a.map fun r => PyData.list (r.map PyData.int))) = true := by
  show (PyData.canLayAll0 (a.map fun r => PyData.list (r.map PyData.int)) && decide (PyData.depthAll (a.map fun r => PyData.list (r.map PyData.int)) + 1 ≤ 64)) = true
  have h := dep_ils a
  rw [lay_ils, decide_eq_true (by omega)]
  rfl
/-- a list of numbers is in a list of such -/
theorem in_ils (a : List Int) (l : List (List Int)) : inD (.list (a.map PyData.int)) (.list (l.map fun r => PyData.list (r.map PyData.int))) = some (decide (a ∈ l)) := by
  show (if (SeqAt.shaped (.list (a.map PyData.int)) && SeqAt.shaped (.list (l.map fun r => PyData.list (r.map PyData.int)))) = true then some ((l.map fun r => PyData.list (r.map PyData.int)).any fun z => PyData.eqv z (.list (a.map PyData.int))) else none) = _
  rw [shp_il, shp_ils]
  show some _ = _
  congr 1
  rw [Bool.eq_iff_iff, List.any_eq_true, decide_eq_true_eq]
  constructor
  · rintro ⟨z, hz, e⟩
    obtain ⟨r, hr, rfl⟩ := List.mem_map.mp hz
    rw [eqv_il, decide_eq_true_eq] at e
    rw [← e]
    exact hr
  · intro h
    exact ⟨_, List.mem_map.mpr ⟨a, h, rfl⟩, by rw [eqv_il]; exact decide_eq_true rfl⟩
theorem in_il (x : Int) (l : List Int) : inD (.int x) (.list (l.map PyData.int)) = some (decide (x ∈ l)) := by
  show (if (SeqAt.shaped (.int x) && SeqAt.shaped (.list (l.map PyData.int))) = true then some ((l.map PyData.int).any fun z => PyData.eqv z (.int x)) else none) = _
  rw [shp_il]
  show some _ = _
  congr 1
  rw [Bool.eq_iff_iff, List.any_eq_true, decide_eq_true_eq]
  constructor
  · rintro ⟨z, hz, e⟩
    obtain ⟨r, hr, rfl⟩ := List.mem_map.mp hz
    rw [eqv_int, decide_eq_true_eq] at e
    rw [← e]
    exact hr
  · intro h
    exact ⟨_, List.mem_map.mpr ⟨x, h, rfl⟩, by rw [eqv_int]; exact decide_eq_true rfl⟩
theorem eq_il (a b : List Int) : eqD (.list (a.map PyData.int)) (.list (b.map PyData.int)) = some (decide (a = b)) := by
  unfold eqD
  rw [shp_il, shp_il, eqv_il]
  rfl
theorem rl2_iota {n : Nat} (h : n ≤ 1000) : rl2D (.int 1) (.int ((n : Int) + 1)) = some (.ol ((iota n).map PyData.int)) := by
  have c : -(2 ^ 62) ≤ (1 : Int) ∧ (1 : Int) < 2 ^ 62 ∧ -(2 ^ 62) ≤ ((n : Int) + 1) ∧ ((n : Int) + 1) < 2 ^ 62 ∧ ((n : Int) + 1 - 1).toNat ≤ 16777216 := ⟨by decide, by decide, by omega, by omega, by omega⟩
  simp only [rl2D]
  rw [if_pos c, iota_rng]
theorem nodup_take {l : List Int} (h : l.Nodup) {i : Nat} (hi : i < l.length) : l[i] ∉ l.take i := by
  intro hm
  obtain ⟨j, hj, e⟩ := List.getElem_of_mem hm
  rw [List.length_take] at hj
  rw [List.getElem_take] at e
  have := (List.getElem_inj h).mp e
  omega
end L2.Eng

/-! EngT: texts of small letters. -/
namespace L2.Eng
open PySem
/-- the text of the letters at these places of the alphabet -/
def tx (ps : List Nat) : Str := SX.S (ps.map (97 + ·))
abbrev td (ps : List Nat) : D := .str (tx ps)
theorem tx_inj {a b : List Nat} (h : tx a = tx b) : a = b := by
  have q := SX.S_inj h
  exact List.map_inj_right (fun x y e => by omega) |>.mp q
theorem tx_len (a : List Nat) : (tx a).length = a.length := by
  unfold tx
  rw [SX.S_len, List.length_map]
theorem tx_cat (a b : List Nat) : tx a ++ tx b = tx (a ++ b) := by
  unfold tx
  rw [SX.S_cat, List.map_append]
theorem eqv_tx (a b : List Nat) : PyData.eqv (td a) (td b) = decide (a = b) := by
  show (tx a == tx b) = _
  by_cases h : a = b
  · subst h
    simp
  · rw [decide_eq_false h]
    exact beq_false_of_ne fun e => h (tx_inj e)
theorem tx_cps (a : List Nat) : (tx a).cps.toList = a.map (97 + ·) := rfl
theorem tx_one (p : Nat) : (⟨#[97 + p]⟩ : Str) = tx [p] := rfl
theorem signs_tx (a : List Nat) : signsD (tx a) = a.map fun p => td [p] := by
  unfold signsD
  rw [tx_cps, List.map_map]
  rfl
theorem ixL (ds : List D) (i : Int) : idxD (.list ds) (.int i) = atI ds i := rfl
theorem ixT (ds : List D) (i : Int) : idxD (.tuple ds) (.int i) = atI ds i := rfl
theorem scL (ds : List D) (lo hi : Option Int) : slcD (.list ds) lo hi = some (.ol (cutD ds lo hi)) := rfl
theorem atN_nat {α : Type} {xs : List α} {i : Nat} {x : α} (h : xs[i]? = some x) : atI xs (i : Int) = some x := by
  have hi := (List.getElem?_eq_some_iff.mp h).1
  unfold atI ixN
  rw [if_pos (by omega), if_pos (by omega)]
  simpa using h
theorem idx_tx {a : List Nat} {i : Nat} (h : i < a.length) (hz : a.length ≤ 16777216) : idxD (td a) (.int (i : Int)) = some (td [a.getD i 0]) := by
  show (if (tx a).length ≤ sizeLine then (atI (tx a).cps.toList (i : Int)).map fun c => PyData.str ⟨#[c]⟩ else none) = _
  rw [tx_len, if_pos (by rw [sz_eq]; exact hz), tx_cps]
  rw [atN_nat (x := 97 + a.getD i 0) (by rw [List.getElem?_map, List.getElem?_eq_getElem h]; simp [List.getD, h])]
  rfl
theorem cut_tx (a : List Nat) (lo hi : Option Int) : cutS (tx a) lo hi = tx ((a.drop (HT.sIx a.length 0 lo)).take (HT.sIx a.length a.length hi - HT.sIx a.length 0 lo)) := by
  unfold cutS
  rw [tx_len, tx_cps, ← List.map_drop, ← List.map_take]
  rfl
theorem cut_txto (a : List Nat) (n : Nat) : cutS (tx a) none (some (n : Int)) = tx (a.take n) := by
  rw [cut_tx, HT.sIx_nat, HT.sIx_none, List.drop_zero, Nat.sub_zero]
  congr 1
  by_cases h : n ≤ a.length
  · rw [Nat.min_eq_left h]
  · rw [Nat.min_eq_right (by omega), List.take_of_length_le (Nat.le_refl _), List.take_of_length_le (by omega)]
theorem cut_txb (a : List Nat) (m n : Nat) (h : n ≤ a.length) : cutS (tx a) (some (m : Int)) (some (n : Int)) = tx ((a.drop m).take (n - m)) := by
  rw [cut_tx, HT.sIx_nat, HT.sIx_nat, Nat.min_eq_left h]
  by_cases h2 : m ≤ a.length
  · rw [Nat.min_eq_left h2]
  · rw [Nat.min_eq_right (by omega), List.drop_of_length_le (Nat.le_refl _), List.drop_of_length_le (by omega), List.take_nil, List.take_nil]
theorem sc_txto {a : List Nat} (n : Nat) (h : a.length ≤ 16777216) : slcD (td a) none (some (n : Int)) = some (.fz (td (a.take n))) := by
  show (if (tx a).length ≤ sizeLine then some (T.fz (.str (cutS (tx a) none (some (n : Int))))) else none) = _
  rw [tx_len, if_pos (by rw [sz_eq]; exact h), cut_txto]
theorem sc_txb {a : List Nat} (m n : Nat) (h : a.length ≤ 16777216) (hn : n ≤ a.length) : slcD (td a) (some (m : Int)) (some (n : Int)) = some (.fz (td ((a.drop m).take (n - m)))) := by
  show (if (tx a).length ≤ sizeLine then some (T.fz (.str (cutS (tx a) (some (m : Int)) (some (n : Int))))) else none) = _
  rw [tx_len, if_pos (by rw [sz_eq]; exact h), cut_txb _ _ _ hn]
theorem add_tx {a b : List Nat} (h : a.length + b.length ≤ 16777216) : binD .Add (td a) (td b) = some (.fz (td (a ++ b))) := by
  show (if (tx a).length + (tx b).length ≤ sizeLine then some (T.fz (.str (tx a ++ tx b))) else none) = _
  rw [tx_len, tx_len, if_pos (by rw [sz_eq]; exact h), tx_cat]
theorem in_tx (p : Nat) (a : List Nat) : inD (td [p]) (td a) = some (decide (p ∈ a)) := by
  show some (!(Builtin.Str.occurrences (tx a) (tx [p]) 0 (tx a).length 1).isEmpty) = _
  have q := SX.in_one (a.map (97 + ·)) (97 + p)
  have e : decide (97 + p ∈ a.map (97 + ·)) = decide (p ∈ a) := by
    refine decide_eq_decide.mpr ?_
    rw [List.mem_map]
    constructor
    · rintro ⟨x, hx, e⟩
      have : x = p := by omega
      rw [← this]
      exact hx
    · exact fun h => ⟨p, h, rfl⟩
  rw [e] at q
  exact congrArg some q
theorem join_tx (yss : List (List Nat)) : Txt.join "" (yss.map tx) = tx yss.flatten := by
  have q := SX.join_S [] (yss.map (List.map (97 + ·)))
  rw [List.map_map] at q
  have e : (yss.map tx) = yss.map (SX.S ∘ List.map (97 + ·)) := rfl
  rw [e]
  refine (show Txt.join "" _ = Txt.join (SX.S []) _ from rfl).trans (q.trans ?_)
  unfold tx
  congr 1
  rw [List.map_flatten]
  generalize yss.map (List.map (97 + ·)) = zs
  clear q e yss
  induction zs with
  | nil => rfl
  | cons z r ih =>
    cases r with
    | nil => simp [TL.joinL]
    | cons y r => rw [List.flatten_cons, ← ih]; simp [TL.joinL]
theorem strs_tx (yss : List (List Nat)) : strsD (yss.map td) = some (yss.map tx) := by
  induction yss with
  | nil => rfl
  | cons y r ih =>
    show (strsD (r.map td)).map (tx y :: ·) = _
    rw [ih]
    rfl
theorem flat_one (ps : List Nat) (f : Nat → Nat) : (ps.map fun p => [f p]).flatten = ps.map f := by
  induction ps with
  | nil => rfl
  | cons p r ih => rw [List.map_cons, List.flatten_cons, ih]; rfl
theorem bi_lenX {a : List Nat} (h : a.length ≤ 16777216) : biD .len [td a] = some (.fz (.int (a.length : Nat))) := by
  show (if (tx a).length ≤ sizeLine then some (T.fz (.int ((tx a).length : Nat))) else none) = _
  rw [tx_len, if_pos (by rw [sz_eq]; exact h)]
/-- "".join of letters -/
theorem me_join (ps : List Nat) (f : Nat → Nat) (h : ps.length ≤ 16777216) : meD .join (.str "") [.list (ps.map fun p => td [f p])] = some (.fz (td (ps.map f))) := by
  have e : (ps.map fun p => td [f p]) = (ps.map fun p => [f p]).map td := by
    rw [List.map_map]
    rfl
  rw [e]
  show ((strsD ((ps.map fun p => [f p]).map td)).bind fun ys => if (ys.map (·.length)).sum + ys.length * (Str.length "") ≤ 16777216 then some (T.fz (.str (Txt.join "" ys))) else none) = _
  rw [strs_tx, Option.bind_some, join_tx, flat_one, if_pos]
  rw [List.map_map, List.map_map, List.length_map, List.length_map]
  have l1 : (ps.map (((fun x : Str => x.length) ∘ tx) ∘ fun p => [f p])).sum = ps.length := by
    have : ps.map (((fun x : Str => x.length) ∘ tx) ∘ fun p => [f p]) = ps.map fun _ => 1 := List.map_congr_left fun p _ => tx_len _
    rw [this]
    clear e h this
    induction ps with
    | nil => rfl
    | cons p r ih => rw [List.map_cons, List.sum_cons, ih, List.length_cons]; omega
  rw [l1]
  show ps.length + ps.length * (Str.length "") ≤ _
  have : Str.length "" = 0 := rfl
  rw [this]
  omega
theorem alpha : ("abcdefghijklmnopqrstuvwxyz" : Str) = tx (List.range 26) := by decide +kernel
section
variable {Φ : Fx} {e elt : E} {c : OE} {s : Nat} {ρ ρ1 : Rho}
theorem lc_tmp {α : Type} (p : α → Bool) (f : α → D) {it : It} {k : Bool} {rs : List α} {g : α → D} (ev : evI Φ it ρ = .ok (.tmp k (rs.map g)) ρ1) (hl : s < ρ1.length) (hz : rs.length ≤ 16777216)
    (hc : ∀ r ∈ rs, evC Φ c (ρ1.set s (some (.fz (g r)))) = .ok (p r) (ρ1.set s (some (.fz (g r)))))
    (he : ∀ r ∈ rs, p r = true → asD elt (ev2 Φ elt).1 (ρ1.set s (some (.fz (g r)))) = .ok (f r) (ρ1.set s (some (.fz (g r))))) :
    (ev2 Φ (.lc (.one s) [s] it c elt)).1 ρ = .ok (.tmp (.ol ((rs.filter p).map f))) ρ1 := by
  rw [e_lc, ev, bind_ok, wipe1]
  show ((lcRun [s] (.one s) (.tmp k (rs.map g)) _ _ (rs.map g).length 0 [] _).lets _).bind _ = _
  rw [List.length_map]
  have run : lcRun [s] (.one s) (.tmp k (rs.map g)) (evC Φ c) (asD elt (ev2 Φ elt).1) rs.length 0 [] (ρ1.set s none) = .ok ((rs.filter p).map f) (ρ1.set s none) := by
    refine lc_wp (fun i acc ρ' => ρ' = ρ1.set s none ∧ acc = ((rs.take i).filter p).map f) (fun r => r = .ok ((rs.filter p).map f) (ρ1.set s none)) rs.length 0 [] _ ⟨rfl, by simp⟩ ?_ ?_
    · rintro i acc _ _ hlt ⟨rfl, rfl⟩
      have hi' : i < rs.length := by omega
      have ex : rs[i]? = some rs[i] := List.getElem?_eq_getElem hi'
      have hm := List.getElem_mem hi'
      have tk : rs.take (i + 1) = rs.take i ++ [rs[i]] := by rw [List.take_add_one, ex]; rfl
      have it : Src.item i (ρ1.set s none) (.tmp k (rs.map g)) = some (g rs[i]) := by
        show (rs.map g)[i]? = _
        rw [List.getElem?_map, ex]
        rfl
      refine ⟨_, (ρ1.set s none).set s (some (.fz (g rs[i]))), it, rfl, p rs[i], ρ1.set s (some (.fz (g rs[i]))), ?_, fun hb => ⟨f rs[i], ρ1.set s (some (.fz (g rs[i]))), he _ hm hb, ?_, ?_, ?_⟩, fun hb => ⟨?_, ?_⟩⟩
      · rw [List.set_set]
        exact hc _ hm
      · have l1 := List.length_filter_le p (rs.take i)
        rw [List.length_take] at l1
        rw [List.length_map, sz_eq]
        omega
      · rw [wipe1, List.set_set]
      · rw [tk, List.filter_append, List.map_append]
        simp [hb]
      · rw [wipe1, List.set_set]
      · rw [tk, List.filter_append, List.map_append]
        simp [hb]
    · rintro acc _ ⟨rfl, rfl⟩
      refine ⟨rfl, ?_⟩
      rw [Nat.zero_add, List.take_of_length_le (Nat.le_refl _)]
  rw [run, lets_ok, bind_ok, back1, List.set_set, set_self hl]
theorem i_text {x : Opd} {ps : List Nat} (hx : (ev2 Φ e).1 ρ = .ok x ρ1) (hs : x.see ρ1 = some (td ps)) : evI Φ (.opd e) ρ = .ok (.tmp false (ps.map fun p => td [p])) ρ1 := by
  rw [i_op, hx, bind_ok, hs, Option.bind_some]
  show R.of (some (Src.tmp false (signsD (tx ps)))) ρ1 = _
  rw [signs_tx]
  rfl
/-- a comprehension over a text's letters -/
theorem lc_text (p : Nat → Bool) (f : Nat → D) {x : Opd} {ps : List Nat} (hx : (ev2 Φ e).1 ρ = .ok x ρ1) (hs : x.see ρ1 = some (td ps)) (hl : s < ρ1.length) (hz : ps.length ≤ 16777216)
    (hc : ∀ r ∈ ps, evC Φ c (ρ1.set s (some (.fz (td [r])))) = .ok (p r) (ρ1.set s (some (.fz (td [r])))))
    (he : ∀ r ∈ ps, p r = true → asD elt (ev2 Φ elt).1 (ρ1.set s (some (.fz (td [r])))) = .ok (f r) (ρ1.set s (some (.fz (td [r]))))) :
    (ev2 Φ (.lc (.one s) [s] (.opd e) c elt)).1 ρ = .ok (.tmp (.ol ((ps.filter p).map f))) ρ1 :=
  lc_tmp p f (g := fun r => td [r]) (i_text hx hs) hl hz hc he
theorem lc_textm (f : Nat → D) {x : Opd} {ps : List Nat} (hx : (ev2 Φ e).1 ρ = .ok x ρ1) (hs : x.see ρ1 = some (td ps)) (hl : s < ρ1.length) (hz : ps.length ≤ 16777216)
    (he : ∀ r ∈ ps, asD elt (ev2 Φ elt).1 (ρ1.set s (some (.fz (td [r])))) = .ok (f r) (ρ1.set s (some (.fz (td [r]))))) :
    (ev2 Φ (.lc (.one s) [s] (.opd e) .none elt)).1 ρ = .ok (.tmp (.ol (ps.map f))) ρ1 := by
  have q := lc_text (c := .none) (fun _ => true) f hx hs hl hz (fun _ _ => rfl) (fun r hr _ => he r hr)
  rw [q, List.filter_eq_self.mpr (fun _ _ => rfl)]
/-- a comprehension over things at hand whose item works on the slots -/
theorem lc_tx {α : Type} (I : Rho → Prop) (Q : α → D → Prop) {it : It} {k : Bool} {rs : List α} {g : α → D} (ev : evI Φ it ρ = .ok (.tmp k (rs.map g)) ρ1) (hz : rs.length ≤ 16777216) (hI : I (ρ1.set s none))
    (he : ∀ r ρ, r ∈ rs → I ρ → ∃ y ρ', asD elt (ev2 Φ elt).1 (ρ.set s (some (.fz (g r)))) = .ok y ρ' ∧ Q r y ∧ I (ρ'.set s none)) :
    ∃ (ys : List D) (ρ' : Rho), (ev2 Φ (.lc (.one s) [s] it .none elt)).1 ρ = .ok (.tmp (.ol ys)) (ρ'.set s (slotT ρ1 s)) ∧ ys.length = rs.length ∧ (∀ (i : Nat) r y, rs[i]? = some r → ys[i]? = some y → Q r y) ∧ I ρ' := by
  rw [e_lc, ev, bind_ok, wipe1]
  show ∃ (ys : List D) (ρ' : Rho), ((lcRun [s] (.one s) (.tmp k (rs.map g)) _ _ (rs.map g).length 0 [] _).lets _).bind _ = _ ∧ _
  rw [List.length_map]
  refine lc_wp (fun i acc ρ => acc.length = i ∧ (∀ (j : Nat) r y, rs[j]? = some r → acc[j]? = some y → Q r y) ∧ I ρ) (fun (r : R (List D)) => ∃ (ys : List D) (ρ' : Rho), ((r.lets fun ρ2 => backR ρ1 (wipeR ρ2 [s]) [s]).bind fun ds ρ2 => R.ok (Opd.tmp (.ol ds)) (backR ρ1 ρ2 [s])) = R.ok (Opd.tmp (.ol ys)) (ρ'.set s (slotT ρ1 s)) ∧ ys.length = rs.length ∧ (∀ (i : Nat) r y, rs[i]? = some r → ys[i]? = some y → Q r y) ∧ I ρ') rs.length 0 [] _ ⟨rfl, fun _ _ _ _ z => by simp at z, hI⟩ ?_ ?_
  · rintro i acc ρ _ hi ⟨h1, h2, h3⟩
    have hi' : i < rs.length := by omega
    have ex : rs[i]? = some rs[i] := List.getElem?_eq_getElem hi'
    have itm : Src.item i ρ (.tmp k (rs.map g)) = some (g rs[i]) := by
      show (rs.map g)[i]? = _
      rw [List.getElem?_map, ex]
      rfl
    obtain ⟨y, ρ', e1, e2, e3⟩ := he rs[i] ρ (List.getElem_mem hi') h3
    refine ⟨_, _, itm, rfl, true, _, rfl, fun _ => ⟨y, ρ', e1, ?_, ?_, ?_, e3⟩, fun z => absurd z (by decide)⟩
    · rw [sz_eq, h1]
      omega
    · rw [List.length_append, h1]
      rfl
    · intro j r z hr hz
      rcases Nat.lt_trichotomy j i with hj | rfl | hj
      · rw [List.getElem?_append_left (by omega)] at hz
        exact h2 j r z hr hz
      · rw [List.getElem?_append_right (by omega), h1, Nat.sub_self] at hz
        rw [ex] at hr
        cases hr
        cases hz
        exact e2
      · rw [List.getElem?_eq_none (by rw [List.length_append, h1, List.length_singleton]; omega)] at hz
        cases hz
  · rintro acc ρ ⟨h1, h2, h3⟩
    exact ⟨rfl, acc, ρ, rfl, by omega, h2, h3⟩
end
end L2.Eng

/-! EngU: one sign's places in a text; runs told by their end. -/
namespace L2.Eng
open PySem
def plc (x : List Nat) (c : Nat) : List Nat := (List.range x.length).filter fun i => decide (x[i]? = some c)
theorem occ_run (x : Str) (c lim : Nat) : ∀ (l : List Nat) (acc : Array Nat) (free : Nat), l.Pairwise (· < ·) → (∀ i ∈ l, free ≤ i) →
    (forIn l (acc, free) (StrLaws.occBody x ⟨#[c]⟩ x.length lim)).run.fst.toList = acc.toList ++ (l.filter fun i => decide (x.cps.toList[i]? = some c)).take (lim - acc.size)
  | [], acc, free, _, _ => by simp
  | i :: l, acc, free, hp, hf => by
    rw [List.forIn_cons]
    have hp' := List.pairwise_cons.mp hp
    have hi : free ≤ i := hf i (List.mem_cons_self ..)
    have so := StrLaws.subAt_one x c i
    unfold StrLaws.occBody
    by_cases hc : x.cps.toList[i]? = some c
    · obtain ⟨s1, s2⟩ := so.mpr hc
      have fc : (i :: l).filter (fun i => decide (x.cps.toList[i]? = some c)) = i :: l.filter (fun i => decide (x.cps.toList[i]? = some c)) := List.filter_cons_of_pos (decide_eq_true hc)
      rw [fc]
      by_cases hs : acc.size < lim
      · rw [if_pos ⟨⟨⟨hs, hi⟩, s1⟩, s2⟩]
        refine (occ_run x c lim l (acc.push i) (i + 1) hp'.2 (fun j hj => hp'.1 j hj)).trans ?_
        rw [Array.toList_push, Array.size_push, show lim - acc.size = (lim - (acc.size + 1)) + 1 by omega, List.take_succ_cons, List.append_assoc]
        rfl
      · rw [if_neg (fun h => hs h.1.1.1)]
        refine (occ_run x c lim l acc free hp'.2 (fun j hj => hf j (List.mem_cons_of_mem _ hj))).trans ?_
        rw [show lim - acc.size = 0 by omega, List.take_zero, List.take_zero]
    · have fc : (i :: l).filter (fun i => decide (x.cps.toList[i]? = some c)) = l.filter (fun i => decide (x.cps.toList[i]? = some c)) := List.filter_cons_of_neg (by rw [decide_eq_false hc]; exact Bool.false_ne_true)
      rw [fc, if_neg (fun h => hc (so.mp ⟨h.1.2, h.2⟩))]
      exact occ_run x c lim l acc free hp'.2 (fun j hj => hf j (List.mem_cons_of_mem _ hj))
theorem occ_one (x : Str) (c lim : Nat) : Builtin.Str.occurrences x ⟨#[c]⟩ 0 x.length lim = (plc x.cps.toList c).take lim := by
  rw [StrLaws.occ_eq, occ_run x c lim _ _ _ (List.pairwise_lt_range' ..) (fun i _ => Nat.zero_le i)]
  have e : List.range' 0 (x.length + 1 - 0) = List.range (x.length + 1) := by rw [List.range_eq_range']; rfl
  have hl : x.cps.toList.length = x.length := rfl
  rw [e, List.range_succ, List.filter_append]
  have z : decide (x.cps.toList[x.length]? = some c) = false := decide_eq_false (by rw [List.getElem?_eq_none (by rw [hl]; exact Nat.le_refl _)]; exact fun z => nomatch z)
  rw [List.filter_cons, if_neg (by rw [z]; exact Bool.false_ne_true), List.filter_nil, List.append_nil]
  unfold plc
  rw [hl]
  rfl
theorem plc_cons (d : Nat) (l : List Nat) (c : Nat) : plc (d :: l) c = (if d = c then [0] else []) ++ (plc l c).map (· + 1) := by
  unfold plc
  rw [List.length_cons, List.range_succ_eq_map, List.filter_cons, List.filter_map]
  have e : ((fun i => decide ((d :: l)[i]? = some c)) ∘ Nat.succ) = fun i => decide (l[i]? = some c) := funext fun i => by simp
  rw [e]
  by_cases h : d = c
  · simp [h]
  · simp [h]
theorem plc_len : ∀ (l : List Nat) (c : Nat), (plc l c).length = l.count c
  | [], c => rfl
  | d :: l, c => by
    rw [plc_cons, List.length_append, List.length_map, plc_len l c, List.count_cons]
    by_cases h : d = c <;> simp [h, Nat.add_comm]
theorem plc_head : ∀ (l : List Nat) (c : Nat), c ∈ l → (plc l c).head? = some (l.idxOf c)
  | [], c, h => by simp at h
  | d :: l, c, h => by
    rw [plc_cons, List.idxOf_cons]
    by_cases e : d = c
    · simp [e]
    · have h' : c ∈ l := by
        rcases List.mem_cons.mp h with h | h
        · exact absurd h.symm e
        · exact h
      have q := plc_head l c h'
      rw [if_neg e, List.nil_append, List.head?_map, q]
      simp [beq_false_of_ne e]
theorem add_inj97 (c d : Nat) : (97 + c = 97 + d) ↔ c = d := by omega
theorem plc_tx (a : List Nat) (c : Nat) : plc (a.map (97 + ·)) (97 + c) = plc a c := by
  unfold plc
  rw [List.length_map]
  refine List.filter_congr fun i _ => decide_eq_decide.mpr ?_
  rw [List.getElem?_map]
  cases a[i]? with
  | none => simp
  | some d => simp
theorem count_tx (a : List Nat) (c : Nat) : meD .count (td a) [td [c]] = some (.fz (.int ((a.count c : Nat) : Int))) := by
  show some (T.fz (.int (Txt.count (tx a) (tx [c])))) = _
  have e : Txt.count (tx a) (tx [c]) = ((a.count c : Nat) : Int) := by
    show (((Builtin.Str.occurrences (tx a) ⟨#[97 + c]⟩ 0 (tx a).length ((tx a).length + 1)).length : Nat) : Int) = _
    rw [occ_one, tx_cps, plc_tx, tx_len, List.take_of_length_le, plc_len]
    rw [plc_len]
    exact Nat.le_succ_of_le List.count_le_length
  rw [e]
theorem index_tx {a : List Nat} {c : Nat} (h : c ∈ a) : meD .index (td a) [td [c]] = some (.fz (.int ((a.idxOf c : Nat) : Int))) := by
  show (match Builtin.Str.occurrences (tx a) ⟨#[97 + c]⟩ 0 (tx a).length 1 with | i :: _ => some (T.fz (.int (i : Nat))) | [] => none) = _
  rw [occ_one, tx_cps, plc_tx]
  have q := plc_head a c h
  cases hp : plc a c with
  | nil => rw [hp] at q; cases q
  | cons i r =>
    rw [hp] at q
    cases q
    rfl

theorem lay_all : ∀ {l : List D}, (∀ d ∈ l, PyData.canLay0 d = true) → PyData.canLayAll0 l = true
  | [], _ => rfl
  | x :: a, h => by
    show (PyData.canLay0 x && PyData.canLayAll0 a) = true
    rw [h x (List.mem_cons_self ..), lay_all fun d hd => h d (List.mem_cons_of_mem _ hd)]
    rfl
theorem dep_all {n : Nat} : ∀ {l : List D}, (∀ d ∈ l, PyData.depth d ≤ n) → PyData.depthAll l ≤ n
  | [], _ => Nat.zero_le n
  | x :: a, h => by
    show max (PyData.depth x) (PyData.depthAll a) ≤ n
    exact Nat.max_le.mpr ⟨h x (List.mem_cons_self ..), dep_all fun d hd => h d (List.mem_cons_of_mem _ hd)⟩
theorem shp_all {l : List D} (h1 : ∀ d ∈ l, PyData.canLay0 d = true) (h2 : ∀ d ∈ l, PyData.depth d ≤ 60) : SeqAt.shaped (.list l) = true := by
  show (PyData.canLayAll0 l && decide (PyData.depthAll l + 1 ≤ 64)) = true
  have q := dep_all h2
  rw [lay_all h1, decide_eq_true (by omega)]
  rfl
theorem shp_map {α : Type} (g : α → D) (l : List α) (h1 : ∀ a ∈ l, PyData.canLay0 (g a) = true) (h2 : ∀ a ∈ l, PyData.depth (g a) ≤ 60) : SeqAt.shaped (.list (l.map g)) = true :=
  shp_all (fun d hd => by obtain ⟨a, ha, rfl⟩ := List.mem_map.mp hd; exact h1 a ha) (fun d hd => by obtain ⟨a, ha, rfl⟩ := List.mem_map.mp hd; exact h2 a ha)
theorem eqv_nil (l : List D) : PyData.eqv (.list l) (.list []) = l.isEmpty := by
  cases l <;> rfl
/-- two rows of things, each told as data, are equal just if they are the same -/
theorem eqv_all {α : Type} {g : α → D} (hg : ∀ a b, PyData.eqv (g a) (g b) = true ↔ a = b) : ∀ l r : List α, PyData.eqvAll (l.map g) (r.map g) = true ↔ l = r
  | [], [] => ⟨fun _ => rfl, fun _ => rfl⟩
  | [], _ :: _ => ⟨fun z => (nomatch z), fun z => (nomatch z)⟩
  | _ :: _, [] => ⟨fun z => (nomatch z), fun z => (nomatch z)⟩
  | x :: l, y :: r => by
    show (PyData.eqv (g x) (g y) && PyData.eqvAll (l.map g) (r.map g)) = true ↔ _
    rw [Bool.and_eq_true, hg, eqv_all hg l r, List.cons.injEq]
theorem eqv_maps {α : Type} [DecidableEq α] {g : α → D} (hg : ∀ a b, PyData.eqv (g a) (g b) = true ↔ a = b) (l r : List α) : PyData.eqv (.list (l.map g)) (.list (r.map g)) = decide (l = r) := by
  rw [PyData.eqv, Bool.eq_iff_iff, eqv_all hg, decide_eq_true_eq]
theorem idx_ints : ∀ {l : List Int} {x : Int}, x ∈ l → idxOfD (.int x) (l.map PyData.int) = some (l.idxOf x)
  | [], x, h => by simp at h
  | y :: l, x, h => by
    unfold idxOfD
    rw [List.map_cons, List.findIdx?_cons, eqv_int, List.idxOf_cons]
    by_cases e : y = x
    · simp [e]
    · have h' : x ∈ l := by
        rcases List.mem_cons.mp h with h | h
        · exact absurd h.symm e
        · exact h
      have q := idx_ints h'
      unfold idxOfD at q
      rw [decide_eq_false e, q]
      simp [beq_false_of_ne e]
theorem shp_int (x : Int) : SeqAt.shaped (.int x) = true := rfl
theorem index_il {l : List Int} {x : Int} (h : x ∈ l) : meD .index (.list (l.map PyData.int)) [.int x] = some (.fz (.int ((l.idxOf x : Nat) : Int))) := by
  show (if (SeqAt.shaped (.int x) && SeqAt.shaped (.list (l.map PyData.int))) = true then (idxOfD (.int x) (l.map PyData.int)).map fun (j : Nat) => T.fz (.int j) else none) = _
  rw [shp_il, shp_int, idx_ints h]
  rfl
theorem intsD_map : ∀ l : List Int, intsD (l.map PyData.int) = some l
  | [] => rfl
  | x :: l => by
    show (intsD (l.map PyData.int)).map (x :: ·) = _
    rw [intsD_map l]
    rfl
theorem maxI_spec : ∀ (l : List Int) (m : Int), (maxI m l = m ∨ maxI m l ∈ l) ∧ m ≤ maxI m l ∧ ∀ x ∈ l, x ≤ maxI m l
  | [], m => ⟨.inl rfl, Int.le_refl m, fun _ z => nomatch z⟩
  | n :: l, m => by
    show ((maxI (if m < n then n else m) l = m ∨ _) ∧ _ ≤ maxI (if m < n then n else m) l ∧ _)
    obtain ⟨a, b, c⟩ := maxI_spec l (if m < n then n else m)
    by_cases h : m < n
    · rw [if_pos h] at a b c ⊢
      refine ⟨.inr ?_, by omega, fun x hx => ?_⟩
      · show maxI (if m < n then n else m) l ∈ _
        rw [if_pos h]
        rcases a with a | a
        · rw [a]; exact List.mem_cons_self ..
        · exact List.mem_cons_of_mem _ a
      · show x ≤ maxI (if m < n then n else m) l
        rw [if_pos h]
        rcases List.mem_cons.mp hx with rfl | hx
        · exact b
        · exact c x hx
    · rw [if_neg h] at a b c ⊢
      refine ⟨?_, b, fun x hx => ?_⟩
      · show _ ∨ maxI (if m < n then n else m) l ∈ _
        rw [if_neg h]
        rcases a with a | a
        · exact .inl a
        · exact .inr (List.mem_cons_of_mem _ a)
      · show x ≤ maxI (if m < n then n else m) l
        rw [if_neg h]
        rcases List.mem_cons.mp hx with rfl | hx
        · omega
        · exact c x hx
def lmax : List Int → Int
  | [] => 0
  | n :: r => maxI n r
theorem lmax_mem {l : List Int} (h : l ≠ []) : lmax l ∈ l := by
  cases l with
  | nil => exact absurd rfl h
  | cons n r =>
    rcases (maxI_spec r n).1 with e | e
    · exact (show maxI n r ∈ _ by rw [e]; exact List.mem_cons_self ..)
    · exact List.mem_cons_of_mem _ e
theorem lmax_le {l : List Int} {x : Int} (h : x ∈ l) : x ≤ lmax l := by
  cases l with
  | nil => cases h
  | cons n r =>
    rcases List.mem_cons.mp h with rfl | h
    · exact (maxI_spec r x).2.1
    · exact (maxI_spec r n).2.2 x h
theorem bi_max {l : List Int} (h : l ≠ []) : biD .maxL [.list (l.map PyData.int)] = some (.fz (.int (lmax l))) := by
  show ((intsD (l.map PyData.int)).bind fun ns => match ns with | [] => none | n :: r => some (T.fz (.int (maxI n r)))) = _
  rw [intsD_map]
  cases l with
  | nil => exact absurd rfl h
  | cons n r => rfl

theorem lc_lmm {Φ : Fx} {e elt : E} {s : Nat} {ρ ρ1 : Rho} {α : Type} (f : α → D) {x : Opd} {d : D} {k : Bool} {rs : List α} {g : α → D} (hx : (ev2 Φ e).1 ρ = .ok x ρ1) (hs : x.see ρ1 = some d) (hd : seqD d = some (k, rs.map g)) (hne : x ≠ .sl s) (hl : s < ρ1.length) (hz : rs.length ≤ 16777216)
    (he : ∀ r ∈ rs, asD elt (ev2 Φ elt).1 (ρ1.set s (some (.fz (g r)))) = .ok (f r) (ρ1.set s (some (.fz (g r))))) :
    (ev2 Φ (.lc (.one s) [s] (.opd e) .none elt)).1 ρ = .ok (.tmp (.ol (rs.map f))) ρ1 := by
  have q := lc_lm (c := .none) (fun _ => true) f hx hs hd hne hl hz (fun _ _ => rfl) (fun r hr _ => he r hr)
  rw [q, List.filter_eq_self.mpr (fun _ _ => rfl)]
theorem fil_count (ps : List Nat) (c : Nat) : (ps.filter fun p => decide (p = c)).length = ps.count c := by
  rw [List.count, List.countP_eq_length_filter]
  congr 1
theorem plc_fil (ps : List Nat) (c : Nat) : (List.range ps.length).filter (fun i => decide (ps.getD i 0 = c)) = plc ps c := by
  unfold plc
  refine List.filter_congr fun i hi => decide_eq_decide.mpr ?_
  have hi := List.mem_range.mp hi
  simp [List.getD, hi]
theorem atI_zero {α : Type} (x : α) (l : List α) : atI (x :: l) 0 = some x := by
  unfold atI ixN
  rw [if_pos (by decide), if_pos (by rw [List.length_cons]; omega)]
  rfl
theorem head_at0 {α β : Type} {l : List α} {x : α} (f : α → β) (h : l.head? = some x) : atI (l.map f) 0 = some (f x) := by
  cases l with
  | nil => cases h
  | cons a r => cases h; exact atI_zero _ _
/-- the first place at which x stands -/
theorem fil_head {α : Type} [DecidableEq α] [BEq α] [LawfulBEq α] (e : α) : ∀ {l : List α} {x : α}, x ∈ l → ((List.range l.length).filter fun i => decide (l.getD i e = x)).head? = some (l.idxOf x)
  | [], x, h => by simp at h
  | d :: l, x, h => by
    rw [List.length_cons, List.range_succ_eq_map, List.filter_cons, List.filter_map, List.idxOf_cons]
    have e1 : ((fun i => decide ((d :: l).getD i e = x)) ∘ Nat.succ) = fun i => decide (l.getD i e = x) := funext fun i => by simp
    rw [e1]
    by_cases hd : d = x
    · simp [hd]
    · have h' : x ∈ l := by
        rcases List.mem_cons.mp h with h | h
        · exact absurd h.symm hd
        · exact h
      have q := fil_head e h'
      rw [if_neg (by simpa using hd), List.head?_map, q]
      simp [beq_false_of_ne hd]
theorem atI_getD {α β : Type} {l : List α} {i : Nat} (d : α) (f : α → β) (h : i < l.length) : atI (l.map f) (i : Int) = some (f (l.getD i d)) :=
  atN_nat (by rw [List.getElem?_map, List.getElem?_eq_getElem h]; simp [List.getD, h])
theorem atI_getD' {α : Type} {l : List α} {i : Nat} (d : α) (h : i < l.length) : atI l (i : Int) = some (l.getD i d) :=
  atN_nat (by rw [List.getElem?_eq_getElem h]; simp [List.getD, h])
/-- a comprehension over range(a), a any number -/
theorem lc_r1z {Φ : Fx} {a elt : E} {c : OE} {s : Nat} {ρ ρ1 : Rho} (p : Nat → Bool) (f : Nat → D) {x : Opd} {n : Int} (hx : (ev2 Φ a).1 ρ = .ok x ρ1) (hs : x.see ρ1 = some (.int n)) (hl : s < ρ1.length) (hz : -100000 ≤ n ∧ n ≤ 16777216)
    (hc : ∀ i, i < n.toNat → evC Φ c (ρ1.set s (some (.fz (.int i)))) = .ok (p i) (ρ1.set s (some (.fz (.int i)))))
    (he : ∀ i, i < n.toNat → p i = true → asD elt (ev2 Φ elt).1 (ρ1.set s (some (.fz (.int i)))) = .ok (f i) (ρ1.set s (some (.fz (.int i))))) :
    (ev2 Φ (.lc (.one s) [s] (.rng1 a) c elt)).1 ρ = .ok (.tmp (.ol (((List.range n.toNat).filter p).map f))) ρ1 := by
  have ev := r1_see hx hs (decide_eq_true (p := -(2 ^ 62) ≤ (0 : Int) ∧ (0 : Int) < 2 ^ 62 ∧ -(2 ^ 62) ≤ n ∧ n < 2 ^ 62) ⟨by decide, by decide, by omega, by omega⟩)
  rw [e_lc, ev, bind_ok, wipe1]
  show ((lcRun [s] (.one s) (.rng 0 1 n.toNat) _ _ n.toNat 0 [] _).lets _).bind _ = _
  rw [lc_rng (own := [s]) (s := s) (lo := 0) (n := n.toNat) p f (by rw [sz_eq]; omega) fun i hi => ?_]
  · rw [lets_ok, bind_ok, back1, List.set_set, set_self hl]
  · have e0 : (0 : Int) + (i : Int) = i := by omega
    rw [e0, List.set_set]
    refine ⟨_, hc i hi, fun hp => ⟨_, he i hi hp, ?_⟩, fun _ => ?_⟩
    · rw [wipe1, List.set_set]
    · rw [wipe1, List.set_set]
theorem minI_spec : ∀ (l : List Int) (m : Int), (minI m l = m ∨ minI m l ∈ l) ∧ minI m l ≤ m ∧ ∀ x ∈ l, minI m l ≤ x
  | [], m => ⟨.inl rfl, Int.le_refl m, fun _ z => nomatch z⟩
  | n :: l, m => by
    have key : minI m (n :: l) = minI (if n < m then n else m) l := rfl
    rw [key]
    obtain ⟨a, b, c⟩ := minI_spec l (if n < m then n else m)
    by_cases h : n < m
    · rw [if_pos h] at a b c ⊢
      refine ⟨.inr ?_, by omega, fun x hx => ?_⟩
      · rcases a with a | a
        · rw [a]; exact List.mem_cons_self ..
        · exact List.mem_cons_of_mem _ a
      · rcases List.mem_cons.mp hx with rfl | hx
        · exact b
        · exact c x hx
    · rw [if_neg h] at a b c ⊢
      refine ⟨?_, b, fun x hx => ?_⟩
      · rcases a with a | a
        · exact .inl a
        · exact .inr (List.mem_cons_of_mem _ a)
      · rcases List.mem_cons.mp hx with rfl | hx
        · omega
        · exact c x hx
def lmin : List Int → Int
  | [] => 0
  | n :: r => minI n r
theorem lmin_mem {l : List Int} (h : l ≠ []) : lmin l ∈ l := by
  cases l with
  | nil => exact absurd rfl h
  | cons n r =>
    rcases (minI_spec r n).1 with e | e
    · exact (show minI n r ∈ _ by rw [e]; exact List.mem_cons_self ..)
    · exact List.mem_cons_of_mem _ e
theorem lmin_le {l : List Int} {x : Int} (h : x ∈ l) : lmin l ≤ x := by
  cases l with
  | nil => cases h
  | cons n r =>
    rcases List.mem_cons.mp h with rfl | h
    · exact (minI_spec r x).2.1
    · exact (minI_spec r n).2.2 x h
theorem bi_min {l : List Int} (h : l ≠ []) : biD .minL [.list (l.map PyData.int)] = some (.fz (.int (lmin l))) := by
  show ((intsD (l.map PyData.int)).bind fun ns => match ns with | [] => none | n :: r => some (T.fz (.int (minI n r)))) = _
  rw [intsD_map]
  cases l with
  | nil => exact absurd rfl h
  | cons n r => rfl
theorem bi_sum (l : List Int) : biD .sum [.list (l.map PyData.int)] = some (.fz (.int l.sum)) := by
  show (intsD (l.map PyData.int)).map _ = _
  rw [intsD_map]
  rfl
/-! ### parts of lists -/
theorem cut_from {α : Type} (l : List α) (f : α → D) (k : Nat) : cutD (l.map f) (some (k : Int)) none = (l.drop k).map f := by
  unfold cutD
  rw [HT.sIx_nat, HT.sIx_none, List.length_map, ← List.map_drop, ← List.map_take]
  congr 1
  by_cases h : k ≤ l.length
  · rw [Nat.min_eq_left h, List.take_of_length_le (by rw [List.length_drop]; exact Nat.le_refl _)]
  · rw [Nat.min_eq_right (by omega), List.drop_of_length_le (Nat.le_refl _), List.drop_of_length_le (by omega), List.take_nil]
theorem cut_to {α : Type} (l : List α) (f : α → D) (k : Nat) : cutD (l.map f) none (some (k : Int)) = (l.take k).map f := by
  unfold cutD
  rw [HT.sIx_nat, HT.sIx_none, List.length_map, List.drop_zero, Nat.sub_zero, ← List.map_take]
  congr 1
  by_cases h : k ≤ l.length
  · rw [Nat.min_eq_left h]
  · rw [Nat.min_eq_right (by omega), List.take_of_length_le (Nat.le_refl _), List.take_of_length_le (by omega)]
theorem sl_from {α : Type} (l : List α) (f : α → D) (k : Nat) : slcD (.list (l.map f)) (some (k : Int)) none = some (.ol ((l.drop k).map f)) := by
  rw [scL, cut_from]
theorem sl_to {α : Type} (l : List α) (f : α → D) (k : Nat) : slcD (.list (l.map f)) none (some (k : Int)) = some (.ol ((l.take k).map f)) := by
  rw [scL, cut_to]
theorem fmod_nat (a n : Nat) : ((a : Int)).fmod (n : Int) = ((a % n : Nat) : Int) := by
  rw [Int.fmod_eq_emod_of_nonneg _ (by omega)]
  omega
theorem first_lm {Φ : Fx} {e : E} {s : Nat} {ρ ρ1 : Rho} {bd : Ss} {I J : Rho → Prop} {α : Type} (g : α → Option T) {x : Opd} {k : Bool} {rs : List α} {gd : α → D} {d : D} (hx : (ev2 Φ e).1 ρ = .ok x ρ1) (hs : x.see ρ1 = some d) (hd : seqD d = some (k, rs.map gd)) (hf1 : (opdSrc x (k, rs.map gd)).free (s :: bd.sets) = true) (h0 : I ρ1)
    (ht : ∀ ρ, I ρ → x.see ρ = some d)
    (h : ∀ r ρ, r ∈ rs → I ρ → First I J (g r) (exSs Φ bd (ρ.set s (some (.fz (gd r)))))) : First I J (rs.findSome? g) (exS Φ (.for_ (.one s) (.opd e) bd) ρ) := by
  refine for_lm (fun i ρ => (rs.take i).findSome? g = none ∧ I ρ) (First I J (rs.findSome? g)) hx hs hd hf1 ⟨rfl, h0⟩ (fun i ρ q => ht ρ q.2) ?_ ?_
  · rintro i r ρ hr ⟨ha, hI⟩
    have sp : rs = rs.take i ++ r :: rs.drop (i + 1) := by
      have hi := (List.getElem?_eq_some_iff.mp hr)
      obtain ⟨hi, e⟩ := hi
      rw [← e, List.getElem_cons_drop, List.take_append_drop]
    rcases h r ρ (List.mem_of_getElem? hr) hI with ⟨hb, ρ', e, hI'⟩ | ⟨t, hb, ρ', e, hJ⟩
    · rw [e]
      refine ⟨?_, hI'⟩
      rw [List.take_add_one, hr, List.findSome?_append, ha]
      simp [hb]
    · rw [e]
      refine .inr ⟨t, ?_, ρ', rfl, hJ⟩
      rw [sp, List.findSome?_append, ha]
      simp [hb]
  · rintro ρ ⟨ha, hI⟩
    rw [List.take_of_length_le (Nat.le_refl _)] at ha
    exact .inl ⟨ha, ρ, rfl, hI⟩
/-! ### any texts, by their codes -/
abbrev sd (cs : List Nat) : D := .str (SX.S cs)
theorem signs_S (cs : List Nat) : signsD (SX.S cs) = cs.map fun c => sd [c] := rfl
theorem eqv_S (a b : List Nat) : PyData.eqv (sd a) (sd b) = decide (a = b) := by
  show (SX.S a == SX.S b) = _
  rw [SX.S_beq_eq]
theorem in_S (c : Nat) (a : List Nat) : inD (sd [c]) (sd a) = some (decide (c ∈ a)) := congrArg some (SX.in_one a c)
theorem strs_S (yss : List (List Nat)) : strsD (yss.map sd) = some (yss.map SX.S) := by
  induction yss with
  | nil => rfl
  | cons y r ih =>
    show (strsD (r.map sd)).map (SX.S y :: ·) = _
    rw [ih]
    rfl
theorem joinL_nil : ∀ zs : List (List Nat), TL.joinL [] zs = zs.flatten
  | [] => rfl
  | [z] => by simp [TL.joinL]
  | z :: y :: r => by
    have := joinL_nil (y :: r)
    rw [List.flatten_cons, ← this]
    simp [TL.joinL]
theorem flat_single (cs : List Nat) : (cs.map fun c => [c]).flatten = cs := by
  induction cs with
  | nil => rfl
  | cons c r ih => rw [List.map_cons, List.flatten_cons, ih]; rfl
theorem sumlen_single (cs : List Nat) : (((cs.map fun c => [c]).map SX.S).map fun x : Str => x.length).sum = cs.length := by
  induction cs with
  | nil => rfl
  | cons c r ih =>
    rw [List.map_cons, List.map_cons, List.map_cons, List.sum_cons, ih, List.length_cons, SX.S_len]
    show 1 + r.length = r.length + 1
    omega
theorem me_joinS (cs : List Nat) (h : cs.length ≤ 16777216) : meD .join (.str "") [.list (cs.map fun c => sd [c])] = some (.fz (sd cs)) := by
  have e : (cs.map fun c => sd [c]) = (cs.map fun c => [c]).map sd := by
    rw [List.map_map]
    rfl
  rw [e]
  show ((strsD ((cs.map fun c => [c]).map sd)).bind fun ys => if (ys.map (·.length)).sum + ys.length * (Str.length "") ≤ 16777216 then some (T.fz (.str (Txt.join "" ys))) else none) = _
  rw [strs_S, Option.bind_some, if_pos (by
    rw [sumlen_single]
    have : Str.length "" = 0 := rfl
    rw [this]
    omega)]
  have q := SX.join_S [] (cs.map fun c => [c])
  rw [joinL_nil, flat_single] at q
  exact congrArg (fun z => some (T.fz (.str z))) q
theorem i_textS {Φ : Fx} {e : E} {ρ ρ1 : Rho} {x : Opd} {cs : List Nat} (hx : (ev2 Φ e).1 ρ = .ok x ρ1) (hs : x.see ρ1 = some (sd cs)) : evI Φ (.opd e) ρ = .ok (.tmp false (cs.map fun c => sd [c])) ρ1 := by
  rw [i_op, hx, bind_ok, hs, Option.bind_some]
  show R.of (some (Src.tmp false (signsD (SX.S cs)))) ρ1 = _
  rw [signs_S]
  rfl
/-- a comprehension over a text's signs -/
theorem lc_textS {Φ : Fx} {e elt : E} {c : OE} {s : Nat} {ρ ρ1 : Rho} (p : Nat → Bool) (f : Nat → D) {x : Opd} {cs : List Nat} (hx : (ev2 Φ e).1 ρ = .ok x ρ1) (hs : x.see ρ1 = some (sd cs)) (hl : s < ρ1.length) (hz : cs.length ≤ 16777216)
    (hc : ∀ r ∈ cs, evC Φ c (ρ1.set s (some (.fz (sd [r])))) = .ok (p r) (ρ1.set s (some (.fz (sd [r])))))
    (he : ∀ r ∈ cs, p r = true → asD elt (ev2 Φ elt).1 (ρ1.set s (some (.fz (sd [r])))) = .ok (f r) (ρ1.set s (some (.fz (sd [r]))))) :
    (ev2 Φ (.lc (.one s) [s] (.opd e) c elt)).1 ρ = .ok (.tmp (.ol ((cs.filter p).map f))) ρ1 :=
  lc_tmp p f (g := fun r => sd [r]) (i_textS hx hs) hl hz hc he
theorem lc_textSm {Φ : Fx} {e elt : E} {s : Nat} {ρ ρ1 : Rho} (f : Nat → D) {x : Opd} {cs : List Nat} (hx : (ev2 Φ e).1 ρ = .ok x ρ1) (hs : x.see ρ1 = some (sd cs)) (hl : s < ρ1.length) (hz : cs.length ≤ 16777216)
    (he : ∀ r ∈ cs, asD elt (ev2 Φ elt).1 (ρ1.set s (some (.fz (sd [r])))) = .ok (f r) (ρ1.set s (some (.fz (sd [r]))))) :
    (ev2 Φ (.lc (.one s) [s] (.opd e) .none elt)).1 ρ = .ok (.tmp (.ol (cs.map f))) ρ1 := by
  have q := lc_textS (c := .none) (fun _ => true) f hx hs hl hz (fun _ _ => rfl) (fun r hr _ => he r hr)
  rw [q, List.filter_eq_self.mpr (fun _ _ => rfl)]
theorem lenS {cs : List Nat} (h : cs.length ≤ 16777216) : biD .len [sd cs] = some (.fz (.int (cs.length : Nat))) := by
  show (if (SX.S cs).length ≤ sizeLine then some (T.fz (.int ((SX.S cs).length : Nat))) else none) = _
  rw [SX.S_len, if_pos (by rw [sz_eq]; exact h)]
/-! ### arguments that are lists, frozen or owned -/
theorem view_l {t : T} {ds : List D} (h : t.view = some (.list ds)) : t = .fz (.list ds) ∨ t = .ol ds := by
  cases t with
  | fz d => cases h; exact .inl rfl
  | ol d => cases h; exact .inr rfl
  | od _ _ => cases h
  | lk _ _ => cases h
theorem set_slot {ρ : Rho} {i : Nat} {t : T} (h : slotT ρ i = some t) : ρ.set i (some t) = ρ := by
  by_cases hl : i < ρ.length
  · rw [← h]
    exact set_self hl
  · exact List.set_eq_of_length_le (by omega)
theorem call_sl {Φ : Fx} {f : Str} {i : Nat} {t v : T} {ds : List D} {ρ : Rho} (h : slotT ρ i = some t) (hc : Φ.call f (t :: ds.map T.fz) = .ok v (t :: ds.map T.fz)) : callF Φ f [.sl i] ds ρ = .ok v ρ := by
  cases t with
  | fz d =>
    simp only [callF, takeA, h, Option.map_some, List.cons_append, List.nil_append, hc, putA]
  | ol d =>
    simp only [callF, takeA, h, Option.map_some, List.cons_append, List.nil_append, hc, putA, List.set_set, set_slot h]
  | od _ _ =>
    simp only [callF, takeA, h, Option.map_some, List.cons_append, List.nil_append, hc, putA, List.set_set, set_slot h]
  | lk _ _ =>
    simp only [callF, takeA, h, Option.map_some, List.cons_append, List.nil_append, hc, putA, List.set_set, set_slot h]
/-- a def of one argument called with what stands at a slot -/
theorem e_call1 {Φ : Fx} {f : Str} {i : Nat} {t v : T} {ρ : Rho} (h : slotT ρ i = some t) (hc : Φ.call f [t] = .ok v [t]) : (ev2 Φ (.call f (.cons (.nm i) .nil) [])).1 ρ = .ok (.tmp v) ρ := by
  have e0 : (ev2 Φ (.nm i)).1 ρ = .ok (.sl i) ρ := by rw [e_nm, h]
  rw [e_call, os_cons, e0, bind_ok, os_nil, map_ok, bind_ok, call_sl h hc]
  rfl
theorem x_setF1 {Φ : Fx} {f : Str} {i j : Nat} {t v : T} {d : D} {ρ : Rho} (h : slotT ρ i = some t) (hc : Φ.call f [t] = .ok v [t]) (hv : v.view = some d) : exS Φ (.setF j (.call f (.cons (.nm i) .nil) [])) ρ = .ok .nx (ρ.set j (some (.fz d))) := by
  rw [x_setF]
  show ((frz (((ev2 Φ (.call f (.cons (.nm i) .nil) [])).1 ρ).bind _)).bind _) = _
  rw [e_call1 h hc, bind_ok]
  show ((R.of v.view ρ).bind _) = _
  rw [hv]
  rfl
theorem endR_g1 {l : List Nat} {t v : T} {ρ : Rho} (h : slotT ρ 0 = some t) (hl : 0 ∉ l) : endR l [t] (.ok (.rt v) ρ) = .ok v [t] := by
  cases t <;> simp [endR, backs, h, hl]
theorem endR_g2 {l : List Nat} {t v : T} {a : D} {ρ : Rho} (h : slotT ρ 0 = some t) (hl : 0 ∉ l) : endR l [t, .fz a] (.ok (.rt v) ρ) = .ok v [t, .fz a] := by
  cases t <;> simp [endR, backs, h, hl]
theorem endR_g3 {l : List Nat} {t v : T} {a b : D} {ρ : Rho} (h : slotT ρ 0 = some t) (hl : 0 ∉ l) : endR l [t, .fz a, .fz b] (.ok (.rt v) ρ) = .ok v [t, .fz a, .fz b] := by
  cases t <;> simp [endR, backs, h, hl]
theorem endR_g4 {l : List Nat} {t v : T} {a b c : D} {ρ : Rho} (h : slotT ρ 0 = some t) (hl : 0 ∉ l) : endR l [t, .fz a, .fz b, .fz c] (.ok (.rt v) ρ) = .ok v [t, .fz a, .fz b, .fz c] := by
  cases t <;> simp [endR, backs, h, hl]
theorem endR_gg {l : List Nat} {t u v : T} {ρ : Rho} (h : slotT ρ 0 = some t) (h1 : slotT ρ 1 = some u) (hl : 0 ∉ l) (hl1 : 1 ∉ l) : endR l [t, u] (.ok (.rt v) ρ) = .ok v [t, u] := by
  cases t <;> cases u <;> simp [endR, backs, h, h1, hl, hl1]
theorem endR_x1 {l : List Nat} {t : T} {x : Ex} {ρ : Rho} (h : slotT ρ 0 = some t) (hl : 0 ∉ l) : endR l [t] (.exc x ρ) = .exc x [t] := by
  cases t <;> simp [endR, backs, h, hl]
theorem endR_x3 {l : List Nat} {t : T} {a b : D} {x : Ex} {ρ : Rho} (h : slotT ρ 0 = some t) (hl : 0 ∉ l) : endR l [t, .fz a, .fz b] (.exc x ρ) = .exc x [t, .fz a, .fz b] := by
  cases t <;> simp [endR, backs, h, hl]
/-! ### runs told by their end -/
/-- the run gives True -/
def RT (r : R Fl) : Prop := ∃ ρ, r = .ok (.rt (.fz (.bool true))) ρ
/-- the run goes on, at slots that I tells -/
def NX (I : Rho → Prop) (r : R Fl) : Prop := ∃ ρ, r = .ok .nx ρ ∧ I ρ
section
variable {Φ : Fx} {P : R Fl → Prop} {a b e : E} {s : Nat} {ρ ρ1 ρ2 : Rho} {bd ss : Ss} {st : S} {K : Fl → Rho → R Fl}
theorem nx_of {I : Rho → Prop} {r : R Fl} {K : Fl → Rho → R Fl} (h : NX I r) (k : ∀ ρ, I ρ → P (K .nx ρ)) : P (r.bind K) := by
  obtain ⟨ρ, rfl, hI⟩ := h
  exact k ρ hI
theorem fl_r1 {I : Nat → Rho → Prop} {n : Nat} {x : Opd} (hx : (ev2 Φ a).1 ρ = .ok x ρ1) (hs : x.see ρ1 = some (.int n)) (hz : n ≤ 16777216) (h0 : I 0 ρ1)
    (h : ∀ i ρ, i < n → I i ρ → NX (I (i + 1)) (exSs Φ bd (ρ.set s (some (.fz (.int i)))))) (hf : ∀ ρ, I n ρ → P (exSs Φ ss ρ)) : P ((exS Φ (.for_ (.one s) (.rng1 a) bd) ρ).bind (thenK Φ ss)) := by
  refine nx_of (I := I n) (for_r1p (ρ := ρ) (bd := bd) (s := s) (Φ := Φ) I (fun r => NX (I n) r) hx hs hz h0 (fun i ρ hi hI => ?_) (fun ρ hI => ⟨ρ, rfl, hI⟩)) hf
  obtain ⟨ρ', e, h'⟩ := h i ρ hi hI
  rw [e]
  exact h'
theorem fl_r2 {I : Nat → Rho → Prop} {x y : Opd} {lo hi : Int} (hx : (ev2 Φ a).1 ρ = .ok x ρ1) (hy : (ev2 Φ b).1 ρ1 = .ok y ρ2) (hs : x.see ρ2 = some (.int lo)) (hs2 : y.see ρ2 = some (.int hi)) (h1 : -100000 ≤ lo ∧ lo ≤ 100000) (h2 : -100000 ≤ hi ∧ hi ≤ 100000) (h0 : I 0 ρ2)
    (h : ∀ i ρ, i < (hi - lo).toNat → I i ρ → NX (I (i + 1)) (exSs Φ bd (ρ.set s (some (.fz (.int (lo + i))))))) (hf : ∀ ρ, I (hi - lo).toNat ρ → P (exSs Φ ss ρ)) : P ((exS Φ (.for_ (.one s) (.rng2 a b) bd) ρ).bind (thenK Φ ss)) := by
  refine nx_of (I := I (hi - lo).toNat) (for_r2p (ρ := ρ) (bd := bd) (s := s) (Φ := Φ) I (fun r => NX (I (hi - lo).toNat) r) hx hy hs hs2 h1 h2 h0 (fun i ρ hi hI => ?_) (fun ρ hI => ⟨ρ, rfl, hI⟩)) hf
  obtain ⟨ρ', e, h'⟩ := h i ρ hi hI
  rw [e]
  exact h'
theorem fl_lm {α : Type} {I : Nat → Rho → Prop} {x : Opd} {k : Bool} {rs : List α} {g : α → D} {d : D} (hx : (ev2 Φ e).1 ρ = .ok x ρ1) (hs : x.see ρ1 = some d) (hd : seqD d = some (k, rs.map g)) (hf1 : (opdSrc x (k, rs.map g)).free (s :: bd.sets) = true) (h0 : I 0 ρ1)
    (ht : ∀ i ρ, I i ρ → x.see ρ = some d) (h : ∀ i r ρ, rs[i]? = some r → I i ρ → NX (I (i + 1)) (exSs Φ bd (ρ.set s (some (.fz (g r)))))) (hf : ∀ ρ, I rs.length ρ → P (exSs Φ ss ρ)) : P ((exS Φ (.for_ (.one s) (.opd e) bd) ρ).bind (thenK Φ ss)) := by
  refine nx_of (I := I rs.length) (for_lm (ρ := ρ) (bd := bd) (s := s) (Φ := Φ) I (fun r => NX (I rs.length) r) hx hs hd hf1 h0 ht (fun i r ρ hi hI => ?_) (fun ρ hI => ⟨ρ, rfl, hI⟩)) hf
  obtain ⟨ρ', e, h'⟩ := h i r ρ hi hI
  rw [e]
  exact h'
end
/-- a call that gives True -/
def CT (r : CR) : Prop := ∃ us, r = .ok (.fz (.bool true)) us
theorem endR_fz (l : List Nat) (d : D) (t : T) (ρ : Rho) : endR l [.fz d] (.ok (.rt t) ρ) = .ok t [.fz d] := rfl
theorem ct_rt {l : List Nat} {d : D} {r : R Fl} (h : RT r) : CT (endR l [.fz d] r) := by
  obtain ⟨ρ, rfl⟩ := h
  exact ⟨_, rfl⟩
end L2.Eng

namespace L2.Eng.K65
open PySem PySem.Spec PyProof.Rows L2.Eng
abbrev top (i : Nat) : Stmt := PySem.Challenge.pw_heraldboughs_k65_passes_by_figures.main.body.getD i (.Pass ⟨0, 0, 0, 0⟩)
def f_is_number : Fn := ⟨"is_number", ["value", "least", "most"], 3, [(.int 0), (.int 1000000)], 6,
    (.cons (.ifS (.or_ (.isi (.nm 0) [.bool]) (.not_ (.isi (.nm 0) [.int]))) (.cons (.ret (.bl false))
    .nil) .nil)
    (.cons (.ret (.chn .LtE .LtE (.nm 1) (.nm 0) (.nm 2)))
    .nil))⟩
def f_checked_number : Fn := ⟨"checked_number", ["value", "least", "most"], 3, [(.int 0), (.int 1000000)], 7,
    (.cons (.ifS (.not_ (.call "is_number" (.cons (.nm 0) (.cons (.nm 1) (.cons (.nm 2) .nil))) [])) (.cons (.raise "InvalidNumber" (.bin .Add (.bin .Add (.bin .Add (.str "no number from ") (.bi .str (.cons (.nm 1) .nil))) (.str " to ")) (.bi .str (.cons (.nm 2) .nil))))
    .nil) .nil)
    (.cons (.ret (.nm 0))
    .nil))⟩
def f_checked_letters : Fn := ⟨"checked_letters", ["numbers", "number"], 1, [], 10,
    (.cons (.ifS (.cmp .Gt (.bi .len (.cons (.nm 0) .nil)) (.glb "MOST" (.int 200))) (.cons (.raise "TooMany" (.str "letters"))
    .nil) .nil)
    (.cons (.ret (.lc (.one 1) [1] (.opd (.nm 0)) .none (.call "checked_number" (.cons (.nm 1) .nil) [(.int 0), (.int 1000000)])))
    .nil))⟩
def f_checked_holes : Fn := ⟨"checked_holes", ["holes"], 1, [], 11,
    (.cons (.ret (.call "checked_number" (.cons (.nm 0) (.cons (.int 2) (.cons (.int 100) .nil))) []))
    .nil)⟩
def f_figure : Fn := ⟨"figure", ["number", "place", "holes", "turn"], 3, [], 12,
    (.cons (.expr (.call "checked_number" (.cons (.nm 0) .nil) [(.int 0), (.int 1000000)]))
    (.cons (.expr (.call "checked_holes" (.cons (.nm 2) .nil) []))
    (.cons (.expr (.call "checked_number" (.cons (.nm 1) (.cons (.int 0) (.cons (.int 20) .nil))) []))
    (.cons (.for_ (.one 3) (.rng1 (.nm 1)) (.cons (.setF 0 (.bin .FloorDiv (.nm 0) (.nm 2)))
    .nil))
    (.cons (.ret (.bin .Mod (.nm 0) (.nm 2)))
    .nil)))))⟩
def f_passed : Fn := ⟨"passed", ["numbers", "place", "holes", "rows", "found", "hole", "number"], 3, [], 13,
    (.cons (.setF 3 (.call "checked_letters" (.cons (.nm 0) .nil) []))
    (.cons (.set 4 (.lst .nil))
    (.cons (.for_ (.one 5) (.rng1 (.call "checked_holes" (.cons (.nm 2) .nil) [])) (.cons (.expr (.mu .extend 4 (.cons (.lc (.one 6) [6] (.opd (.nm 3)) (.some (.cmp .Eq (.call "figure" (.cons (.nm 6) (.cons (.nm 1) (.cons (.nm 2) .nil))) []) (.nm 5))) (.nm 6)) .nil)))
    .nil))
    (.cons (.ret (.mv 4))
    .nil))))⟩
def f_passes : Fn := ⟨"passes", ["numbers", "many", "holes", "rows", "found", "place"], 3, [], 14,
    (.cons (.setF 3 (.call "checked_letters" (.cons (.nm 0) .nil) []))
    (.cons (.expr (.call "checked_holes" (.cons (.nm 2) .nil) []))
    (.cons (.expr (.call "checked_number" (.cons (.nm 1) (.cons (.int 0) (.cons (.int 20) .nil))) []))
    (.cons (.set 4 (.lst .nil))
    (.cons (.for_ (.one 5) (.rng1 (.nm 1)) (.cons (.setF 3 (.call "passed" (.cons (.nm 3) (.cons (.nm 5) (.cons (.nm 2) .nil))) []))
    (.cons (.expr (.mu .append 4 (.cons (.nm 3) .nil)))
    .nil)))
    (.cons (.ret (.mv 4))
    .nil))))))⟩
def f_needed : Fn := ⟨"needed", ["numbers", "holes", "top", "many"], 2, [], 15,
    (.cons (.setF 2 (.bi .maxL (.cons (.bin .Add (.lst (.cons (.int 0) .nil)) (.call "checked_letters" (.cons (.nm 0) .nil) [])) .nil)))
    (.cons (.expr (.call "checked_holes" (.cons (.nm 1) .nil) []))
    (.cons (.setF 3 (.int 0))
    (.cons (.whl (.cmp .Gt (.nm 2) (.int 0)) (.cons (.setF 2 (.bin .FloorDiv (.nm 2) (.nm 1)))
    (.cons (.setF 3 (.bin .Add (.nm 3) (.int 1)))
    .nil)))
    (.cons (.ret (.mv 3))
    .nil)))))⟩
def f_falls : Fn := ⟨"falls", ["numbers", "rows", "at"], 1, [], 16,
    (.cons (.setF 1 (.call "checked_letters" (.cons (.nm 0) .nil) []))
    (.cons (.ret (.lc (.one 2) [2] (.rng2 (.int 1) (.bi .len (.cons (.nm 1) .nil))) (.some (.cmp .Lt (.idx (.nm 1) (.nm 2)) (.idx (.nm 1) (.bin .Sub (.nm 2) (.int 1))))) (.nm 2)))
    .nil))⟩
def f__law_same : Fn := ⟨"_law_same", ["actual", "due", "k"], 2, [], 18,
    (.cons (.ifS (.cmp .Is (.nm 1) .non) (.cons (.ret (.cmp .Is (.nm 0) .non))
    .nil) .nil)
    (.cons (.ifS (.isi (.nm 1) [.tuple, .list]) (.cons (.ifS (.or_ (.cmp .NotEq (.isi (.nm 1) [.tuple]) (.isi (.nm 0) [.tuple])) (.cmp .NotEq (.isi (.nm 1) [.list]) (.isi (.nm 0) [.list]))) (.cons (.ret (.bl false))
    .nil) .nil)
    (.cons (.ifS (.cmp .NotEq (.bi .len (.cons (.nm 0) .nil)) (.bi .len (.cons (.nm 1) .nil))) (.cons (.ret (.bl false))
    .nil) .nil)
    (.cons (.for_ (.one 2) (.rng1 (.bi .len (.cons (.nm 1) .nil))) (.cons (.ifS (.not_ (.call "_law_same" (.cons (.idx (.nm 0) (.nm 2)) (.cons (.idx (.nm 1) (.nm 2)) .nil)) [])) (.cons (.ret (.bl false))
    .nil) .nil)
    .nil))
    (.cons (.ret (.bl true))
    .nil)))) .nil)
    (.cons (.ifS (.isi (.nm 1) [.bool]) (.cons (.ret (.and_ (.isi (.nm 0) [.bool]) (.cmp .Eq (.nm 0) (.nm 1))))
    .nil) .nil)
    (.cons (.ifS (.isi (.nm 1) [.int]) (.cons (.ret (.and_ (.isi (.nm 0) [.int]) (.and_ (.not_ (.isi (.nm 0) [.bool])) (.cmp .Eq (.nm 0) (.nm 1)))))
    .nil) .nil)
    (.cons (.ret (.and_ (.isi (.nm 0) [.str]) (.cmp .Eq (.nm 0) (.nm 1))))
    .nil)))))⟩
def f__law_pool : Fn := ⟨"_law_pool", ["script"], 1, [], 19,
    (.cons (.ret (.lst (.cons (.bi .list (.cons (.nm 0) .nil)) (.cons (.int 0) (.cons (.int 0) (.cons (.int 0) (.cons (.int 0) .nil)))))))
    .nil)⟩
def f__law_draw : Fn := ⟨"_law_draw", ["pool", "many", "mixed", "found", "cell"], 2, [], 20,
    (.cons (.ifS (.cmp .Gt (.idx (.nm 0) (.int 2)) (.int 0)) (.cons (.setF 3 (.bin .Mod (.bi .int (.cons (.idx (.nm 0) (.int 2)) .nil)) (.nm 1)))
    (.cons (.sub 0 (.int 2) (.bin .FloorDiv (.idx (.nm 0) (.int 2)) (.nm 1)))
    (.cons (.ret (.mv 3))
    .nil))) .nil)
    (.cons (.ifS (.and_ (.cmp .Eq (.bin .Mod (.bi .int (.cons (.idx (.nm 0) (.int 4)) .nil)) (.int 8)) (.int 0)) (.cmp .Lt (.idx (.nm 0) (.int 1)) (.bi .len (.cons (.idx (.nm 0) (.int 0)) .nil)))) (.cons (.setF 4 (.bi .abs (.cons (.idx (.idx (.nm 0) (.int 0)) (.idx (.nm 0) (.int 1))) .nil)))
    (.cons (.sub 0 (.int 1) (.bin .Add (.idx (.nm 0) (.int 1)) (.int 1)))
    (.cons (.ifS (.cmp .GtE (.nm 4) (.bin .Pow (.int 10) (.int 18))) (.cons (.sub 0 (.int 2) (.bin .FloorDiv (.nm 4) (.nm 1)))
    (.cons (.ret (.bin .Mod (.bi .int (.cons (.nm 4) .nil)) (.nm 1)))
    .nil)) .nil)
    (.cons (.sub 0 (.int 3) (.nm 4))
    .nil)))) .nil)
    (.cons (.sub 0 (.int 4) (.bin .Add (.idx (.nm 0) (.int 4)) (.int 1)))
    (.cons (.setF 2 (.bin .Mod (.bi .int (.cons (.bin .Add (.bin .Add (.bin .Mult (.idx (.nm 0) (.int 3)) (.int 48271)) (.bin .Mult (.idx (.nm 0) (.int 4)) (.int 69621))) (.int 7919)) .nil)) (.int 2147483647)))
    (.cons (.setF 2 (.bin .Mod (.bi .int (.cons (.bin .Add (.bin .Mult (.nm 2) (.nm 2)) (.bin .Mult (.idx (.nm 0) (.int 4)) (.int 40692))) .nil)) (.int 2147483399)))
    (.cons (.ret (.bin .Mod (.bi .int (.cons (.nm 2) .nil)) (.nm 1)))
    .nil))))))⟩
def f__law_pick : Fn := ⟨"_law_pick", ["pool", "rows"], 2, [], 21,
    (.cons (.ret (.idx (.nm 1) (.call "_law_draw" (.cons (.nm 0) (.cons (.bi .len (.cons (.nm 1) .nil)) .nil)) [])))
    .nil)⟩
def f__law_figures : Fn := ⟨"_law_figures", ["number", "holes", "found"], 2, [], 23,
    (.cons (.set 2 (.lst .nil))
    (.cons (.whl (.cmp .Gt (.nm 0) (.int 0)) (.cons (.expr (.mu .append 2 (.cons (.bin .Mod (.bi .int (.cons (.nm 0) .nil)) (.nm 1)) .nil)))
    (.cons (.setF 0 (.bin .FloorDiv (.nm 0) (.nm 1)))
    .nil)))
    (.cons (.ret (.mv 2))
    .nil)))⟩
def f__law_figure : Fn := ⟨"_law_figure", ["number", "place", "holes", "row"], 3, [], 24,
    (.cons (.setF 3 (.call "_law_figures" (.cons (.nm 0) (.cons (.nm 2) .nil)) []))
    (.cons (.ret (.ite (.cmp .Lt (.nm 1) (.bi .len (.cons (.nm 3) .nil))) (.idx (.nm 3) (.nm 1)) (.int 0)))
    .nil))⟩
def f__law_refused : Fn := ⟨"_law_refused", ["choice", "one", "two", "three", "problem"], 4, [], 25,
    (.cons (.tryC (.cons (.ifS (.cmp .Eq (.nm 0) (.int 0)) (.cons (.expr (.call "checked_letters" (.cons (.nm 1) .nil) []))
    .nil) (.cons (.ifS (.cmp .Eq (.nm 0) (.int 1)) (.cons (.expr (.call "figure" (.cons (.nm 1) (.cons (.nm 2) (.cons (.nm 3) .nil))) []))
    .nil) (.cons (.ifS (.cmp .Eq (.nm 0) (.int 2)) (.cons (.expr (.call "passed" (.cons (.nm 1) (.cons (.nm 2) (.cons (.nm 3) .nil))) []))
    .nil) (.cons (.ifS (.cmp .Eq (.nm 0) (.int 3)) (.cons (.expr (.call "passes" (.cons (.nm 1) (.cons (.nm 2) (.cons (.nm 3) .nil))) []))
    .nil) (.cons (.ifS (.cmp .Eq (.nm 0) (.int 4)) (.cons (.expr (.call "needed" (.cons (.nm 1) (.cons (.nm 2) .nil)) []))
    .nil) (.cons (.expr (.call "checked_holes" (.cons (.nm 1) .nil) []))
    .nil))
    .nil))
    .nil))
    .nil))
    .nil))
    .nil) "HeraldError" 4 "_law_refusal")
    (.cons (.ret (.str "none"))
    .nil))⟩
def f_law : Fn := ⟨"law", ["script", "pool", "holes", "wide", "numbers", "many", "rows", "due", "place", "k", "bad", "wrong", "after", "hole", "power", "number"], 1, [], 26,
    (.cons (.set 1 (.call "_law_pool" (.cons (.nm 0) .nil) []))
    (.cons (.setF 2 (.bin .Add (.int 2) (.call "_law_draw" (.cons (.nm 1) (.cons (.int 9) .nil)) [])))
    (.cons (.setF 3 (.call "_law_pick" (.cons (.nm 1) (.cons (.lst (.cons (.int 4) (.cons (.int 30) (.cons (.int 1000) .nil)))) .nil)) []))
    (.cons (.setF 4 (.lc (.one 9) [9] (.rng1 (.call "_law_draw" (.cons (.nm 1) (.cons (.int 9) .nil)) [])) .none (.call "_law_draw" (.cons (.nm 1) (.cons (.nm 3) .nil)) [])))
    (.cons (.ifS (.or_ (.not_ (.call "_law_same" (.cons (.call "checked_letters" (.cons (.bi .list (.cons (.nm 4) .nil)) .nil) []) (.cons (.nm 4) .nil)) [])) (.not_ (.call "_law_same" (.cons (.call "falls" (.cons (.bi .list (.cons (.nm 4) .nil)) .nil) []) (.cons (.lc (.one 9) [9] (.rng2 (.int 1) (.bi .len (.cons (.nm 4) .nil))) (.some (.cmp .Lt (.idx (.nm 4) (.nm 9)) (.idx (.nm 4) (.bin .Sub (.nm 9) (.int 1))))) (.nm 9)) .nil)) []))) (.cons (.ret (.bl false))
    .nil) .nil)
    (.cons (.setF 5 (.bi .maxL (.cons (.bin .Add (.lst (.cons (.int 0) .nil)) (.lc (.one 15) [15] (.opd (.nm 4)) .none (.bi .len (.cons (.call "_law_figures" (.cons (.nm 15) (.cons (.nm 2) .nil)) []) .nil)))) .nil)))
    (.cons (.ifS (.not_ (.call "_law_same" (.cons (.call "needed" (.cons (.bi .list (.cons (.nm 4) .nil)) (.cons (.nm 2) .nil)) []) (.cons (.nm 5) .nil)) [])) (.cons (.ret (.bl false))
    .nil) .nil)
    (.cons (.setF 6 (.bi .list (.cons (.nm 4) .nil)))
    (.cons (.set 7 (.lst .nil))
    (.cons (.for_ (.one 8) (.rng1 (.nm 5)) (.cons (.set 12 (.lst .nil))
    (.cons (.for_ (.one 13) (.rng1 (.nm 2)) (.cons (.expr (.mu .extend 12 (.cons (.lc (.one 15) [15] (.opd (.nm 6)) (.some (.cmp .Eq (.call "_law_figure" (.cons (.nm 15) (.cons (.nm 8) (.cons (.nm 2) .nil))) []) (.nm 13))) (.nm 15)) .nil)))
    .nil))
    (.cons (.ifS (.not_ (.call "_law_same" (.cons (.call "passed" (.cons (.bi .list (.cons (.nm 6) .nil)) (.cons (.nm 8) (.cons (.nm 2) .nil))) []) (.cons (.nm 12) .nil)) [])) (.cons (.ret (.bl false))
    .nil) .nil)
    (.cons (.setF 6 (.nm 12))
    (.cons (.expr (.mu .append 7 (.cons (.nm 6) .nil)))
    .nil))))))
    (.cons (.ifS (.or_ (.not_ (.call "_law_same" (.cons (.call "passes" (.cons (.bi .list (.cons (.nm 4) .nil)) (.cons (.nm 5) (.cons (.nm 2) .nil))) []) (.cons (.nm 7) .nil)) [])) (.cmp .NotEq (.nm 6) (.bi .sorted (.cons (.nm 4) .nil)))) (.cons (.ret (.bl false))
    .nil) .nil)
    (.cons (.ifS (.cmp .Gt (.nm 5) (.int 0)) (.cons (.setF 14 (.int 1))
    (.cons (.for_ (.one 9) (.rng1 (.bin .Sub (.nm 5) (.int 1))) (.cons (.setF 14 (.bin .Mult (.nm 14) (.nm 2)))
    .nil))
    (.cons (.ifS (.cmp .NotEq (.call "passes" (.cons (.lst (.cons (.nm 14) (.cons (.int 0) .nil))) (.cons (.bin .Sub (.nm 5) (.int 1)) (.cons (.nm 2) .nil))) []) (.lc (.one 9) [9] (.rng1 (.bin .Sub (.nm 5) (.int 1))) .none (.lst (.cons (.nm 14) (.cons (.int 0) .nil))))) (.cons (.ret (.bl false))
    .nil) .nil)
    .nil))) .nil)
    (.cons (.for_ (.one 9) (.rng1 (.int 5)) (.cons (.setF 15 (.call "_law_draw" (.cons (.nm 1) (.cons (.int 1000) .nil)) []))
    (.cons (.setF 8 (.call "_law_draw" (.cons (.nm 1) (.cons (.int 6) .nil)) []))
    (.cons (.ifS (.not_ (.call "_law_same" (.cons (.call "figure" (.cons (.nm 15) (.cons (.nm 8) (.cons (.nm 2) .nil))) []) (.cons (.call "_law_figure" (.cons (.nm 15) (.cons (.nm 8) (.cons (.nm 2) .nil))) []) .nil)) [])) (.cons (.ret (.bl false))
    .nil) .nil)
    .nil))))
    (.cons (.setF 10 (.call "_law_pick" (.cons (.nm 1) (.cons (.lst (.cons (.neg (.int 1)) (.cons (.int 1000001) (.cons (.bl true) .nil)))) .nil)) []))
    (.cons (.ifS (.or_ (.cmp .NotEq (.call "_law_refused" (.cons (.int 0) (.cons (.lst (.cons (.int 5) (.cons (.nm 10) .nil))) (.cons (.int 0) (.cons (.int 0) .nil)))) []) (.str "number")) (.cmp .NotEq (.call "_law_refused" (.cons (.int 0) (.cons (.lc (.one 9) [9] (.rng1 (.int 201)) .none (.int 1)) (.cons (.int 0) (.cons (.int 0) .nil)))) []) (.str "many"))) (.cons (.ret (.bl false))
    .nil) .nil)
    (.cons (.ifS (.or_ (.cmp .NotEq (.call "_law_refused" (.cons (.int 1) (.cons (.nm 10) (.cons (.int 0) (.cons (.int 2) .nil)))) []) (.str "number")) (.cmp .NotEq (.call "_law_refused" (.cons (.int 1) (.cons (.int 5) (.cons (.call "_law_pick" (.cons (.nm 1) (.cons (.lst (.cons (.neg (.int 1)) (.cons (.int 21) (.cons (.bl true) .nil)))) .nil)) []) (.cons (.int 2) .nil)))) []) (.str "number"))) (.cons (.ret (.bl false))
    .nil) .nil)
    (.cons (.setF 11 (.call "_law_pick" (.cons (.nm 1) (.cons (.lst (.cons (.int 1) (.cons (.int 101) (.cons (.int 0) (.cons (.bl true) .nil))))) .nil)) []))
    (.cons (.ifS (.or_ (.cmp .NotEq (.call "_law_refused" (.cons (.int 1) (.cons (.int 5) (.cons (.int 0) (.cons (.nm 11) .nil)))) []) (.str "number")) (.or_ (.cmp .NotEq (.call "_law_refused" (.cons (.int 2) (.cons (.lst (.cons (.int 5) .nil)) (.cons (.int 0) (.cons (.nm 11) .nil)))) []) (.str "number")) (.cmp .NotEq (.call "_law_refused" (.cons (.int 3) (.cons (.lst .nil) (.cons (.int 1) (.cons (.nm 11) .nil)))) []) (.str "number")))) (.cons (.ret (.bl false))
    .nil) .nil)
    (.cons (.ret (.and_ (.cmp .Eq (.call "_law_refused" (.cons (.int 4) (.cons (.lst (.cons (.int 5) .nil)) (.cons (.nm 11) (.cons (.int 0) .nil)))) []) (.str "number")) (.and_ (.cmp .Eq (.call "_law_refused" (.cons (.int 3) (.cons (.lst .nil) (.cons (.call "_law_pick" (.cons (.nm 1) (.cons (.lst (.cons (.neg (.int 1)) (.cons (.int 21) (.cons (.bl true) .nil)))) .nil)) []) (.cons (.int 2) .nil)))) []) (.str "number")) (.cmp .Eq (.call "_law_refused" (.cons (.int 5) (.cons (.nm 11) (.cons (.int 0) (.cons (.int 0) .nil)))) []) (.str "number")))))
    .nil)))))))))))))))))))⟩
def fs : List Fn := [f_is_number, f_checked_number, f_checked_letters, f_checked_holes, f_figure, f_passed, f_passes, f_needed, f_falls, f__law_same, f__law_pool, f__law_draw, f__law_pick, f__law_figures, f__law_figure, f__law_refused, f_law]
def rcs : List Str := ["InvalidNumber", "TooMany"]
def rzs : List Str := ["number", "many"]
def rtb : List (Str × List Bool) := [("InvalidNumber", [true, false]), ("TooMany", [false, true])]
def hot : Str → Str → Option D := hotOf rzs rtb
def prog : Pr := ⟨fs, [("MOST", (.int 200))], ["ValueError", "abs", "bool", "int", "isinstance", "len", "list", "max", "range", "sorted", "str", "tuple"], ["InvalidNumber", "TooMany"], ["HeraldError"], [("InvalidNumber", "HeraldError", true), ("TooMany", "HeraldError", true)], [("_law_refusal", 22)], freeB :: rtb.map (hotB rcs), []⟩
theorem ck_is_number : f_is_number.ck top prog.tb = true := by decide +kernel
theorem ck_checked_number : f_checked_number.ck top prog.tb = true := by decide +kernel
theorem ck_checked_letters : f_checked_letters.ck top prog.tb = true := by decide +kernel
theorem ck_checked_holes : f_checked_holes.ck top prog.tb = true := by decide +kernel
theorem ck_figure : f_figure.ck top prog.tb = true := by decide +kernel
theorem ck_passed : f_passed.ck top prog.tb = true := by decide +kernel
theorem ck_passes : f_passes.ck top prog.tb = true := by decide +kernel
theorem ck_needed : f_needed.ck top prog.tb = true := by decide +kernel
theorem ck_falls : f_falls.ck top prog.tb = true := by decide +kernel
theorem ck__law_same : f__law_same.ck top prog.tb = true := by decide +kernel
theorem ck__law_pool : f__law_pool.ck top prog.tb = true := by decide +kernel
theorem ck__law_draw : f__law_draw.ck top prog.tb = true := by decide +kernel
theorem ck__law_pick : f__law_pick.ck top prog.tb = true := by decide +kernel
theorem ck__law_figures : f__law_figures.ck top prog.tb = true := by decide +kernel
theorem ck__law_figure : f__law_figure.ck top prog.tb = true := by decide +kernel
theorem ck__law_refused : f__law_refused.ck top prog.tb = true := by decide +kernel
theorem ck_law : f_law.ck top prog.tb = true := by decide +kernel
theorem ck : prog.fs.all (Fn.ck top prog.tb) = true := by
  show fs.all _ = true
  simp only [fs, List.all_cons, List.all_nil, ck_is_number, ck_checked_number, ck_checked_letters, ck_checked_holes, ck_figure, ck_passed, ck_passes, ck_needed, ck_falls, ck__law_same, ck__law_pool, ck__law_draw, ck__law_pick, ck__law_figures, ck__law_figure, ck__law_refused, ck_law, Bool.and_self]
theorem bn_is_number : f_is_number.bnd top := by
  unfold Fn.bnd
  rw [if_neg (show ¬ f_is_number.dfl = [] from fun z => nomatch z)]
  intro j hj T kV doc pm an cdv ct us its h1 h2
  match j, hj, us, its, h1, h2 with
  | 0, _, [_], [_, _], _, _ => exact ⟨_, rfl, rfl⟩
  | 1, _, [_, _], [_, _], _, _ => exact ⟨_, rfl, rfl⟩
  | 2, _, [_, _, _], [_, _], _, _ => exact ⟨_, rfl, rfl⟩
theorem bn_checked_number : f_checked_number.bnd top := by
  unfold Fn.bnd
  rw [if_neg (show ¬ f_checked_number.dfl = [] from fun z => nomatch z)]
  intro j hj T kV doc pm an cdv ct us its h1 h2
  match j, hj, us, its, h1, h2 with
  | 0, _, [_], [_, _], _, _ => exact ⟨_, rfl, rfl⟩
  | 1, _, [_, _], [_, _], _, _ => exact ⟨_, rfl, rfl⟩
  | 2, _, [_, _, _], [_, _], _, _ => exact ⟨_, rfl, rfl⟩
theorem bn_checked_letters : f_checked_letters.bnd top := by
  unfold Fn.bnd
  rw [if_pos (show f_checked_letters.dfl = [] from rfl)]
  exact fun _ _ _ _ _ _ us hl => match us, hl with | [_], _ => rfl
theorem bn_checked_holes : f_checked_holes.bnd top := by
  unfold Fn.bnd
  rw [if_pos (show f_checked_holes.dfl = [] from rfl)]
  exact fun _ _ _ _ _ _ us hl => match us, hl with | [_], _ => rfl
theorem bn_figure : f_figure.bnd top := by
  unfold Fn.bnd
  rw [if_pos (show f_figure.dfl = [] from rfl)]
  exact fun _ _ _ _ _ _ us hl => match us, hl with | [_, _, _], _ => rfl
theorem bn_passed : f_passed.bnd top := by
  unfold Fn.bnd
  rw [if_pos (show f_passed.dfl = [] from rfl)]
  exact fun _ _ _ _ _ _ us hl => match us, hl with | [_, _, _], _ => rfl
theorem bn_passes : f_passes.bnd top := by
  unfold Fn.bnd
  rw [if_pos (show f_passes.dfl = [] from rfl)]
  exact fun _ _ _ _ _ _ us hl => match us, hl with | [_, _, _], _ => rfl
theorem bn_needed : f_needed.bnd top := by
  unfold Fn.bnd
  rw [if_pos (show f_needed.dfl = [] from rfl)]
  exact fun _ _ _ _ _ _ us hl => match us, hl with | [_, _], _ => rfl
theorem bn_falls : f_falls.bnd top := by
  unfold Fn.bnd
  rw [if_pos (show f_falls.dfl = [] from rfl)]
  exact fun _ _ _ _ _ _ us hl => match us, hl with | [_], _ => rfl
theorem bn__law_same : f__law_same.bnd top := by
  unfold Fn.bnd
  rw [if_pos (show f__law_same.dfl = [] from rfl)]
  exact fun _ _ _ _ _ _ us hl => match us, hl with | [_, _], _ => rfl
theorem bn__law_pool : f__law_pool.bnd top := by
  unfold Fn.bnd
  rw [if_pos (show f__law_pool.dfl = [] from rfl)]
  exact fun _ _ _ _ _ _ us hl => match us, hl with | [_], _ => rfl
theorem bn__law_draw : f__law_draw.bnd top := by
  unfold Fn.bnd
  rw [if_pos (show f__law_draw.dfl = [] from rfl)]
  exact fun _ _ _ _ _ _ us hl => match us, hl with | [_, _], _ => rfl
theorem bn__law_pick : f__law_pick.bnd top := by
  unfold Fn.bnd
  rw [if_pos (show f__law_pick.dfl = [] from rfl)]
  exact fun _ _ _ _ _ _ us hl => match us, hl with | [_, _], _ => rfl
theorem bn__law_figures : f__law_figures.bnd top := by
  unfold Fn.bnd
  rw [if_pos (show f__law_figures.dfl = [] from rfl)]
  exact fun _ _ _ _ _ _ us hl => match us, hl with | [_, _], _ => rfl
theorem bn__law_figure : f__law_figure.bnd top := by
  unfold Fn.bnd
  rw [if_pos (show f__law_figure.dfl = [] from rfl)]
  exact fun _ _ _ _ _ _ us hl => match us, hl with | [_, _, _], _ => rfl
theorem bn__law_refused : f__law_refused.bnd top := by
  unfold Fn.bnd
  rw [if_pos (show f__law_refused.dfl = [] from rfl)]
  exact fun _ _ _ _ _ _ us hl => match us, hl with | [_, _, _, _], _ => rfl
theorem bn_law : f_law.bnd top := by
  unfold Fn.bnd
  rw [if_pos (show f_law.dfl = [] from rfl)]
  exact fun _ _ _ _ _ _ us hl => match us, hl with | [_], _ => rfl
theorem bnd : bndAll top prog.fs := ⟨bn_is_number, bn_checked_number, bn_checked_letters, bn_checked_holes, bn_figure, bn_passed, bn_passes, bn_needed, bn_falls, bn__law_same, bn__law_pool, bn__law_draw, bn__law_pick, bn__law_figures, bn__law_figure, bn__law_refused, bn_law, trivial⟩
theorem hotOk {P : Program} (w : World) (K : PySem.W.Frag) (h : Heap) (mg : Str → Option Value) (pk : PK prog top K) (X : K.In h) (G : h.Ns mainGlobals mg) (base : Heap) (n : Nat) (f x : Str) (d : D) (e : hot f x = some d) :
    ∃ a fd ps cls, mg f = some (.ref a) ∧ mg x = some cls ∧ PySem.W.keepIn K (.ref a) = true ∧ Binds K fd ps [] ∧ FnX P w K mg base (n + 1) a fd ps cls d :=
  hot_fn (cs := rcs) (st := 22) (List.mem_singleton_self _) (List.mem_cons_self ..) (fun q hq => List.mem_cons_of_mem _ (List.mem_map_of_mem hq)) (by decide +kernel) (by decide +kernel) (fun _ _ _ _ _ _ us hl => match us, hl with | [_], _ => rfl) w K h mg pk X G base n f x d e
def nm0 : List Str := ["HeraldError", "InvalidNumber", "TooMany", "GREATEST", "is_number", "checked_number", "MOST", "checked_letters", "checked_holes", "figure", "passed", "passes", "needed", "falls", "_law_same", "_law_pool", "_law_draw", "_law_pick", "_law_refusal", "_law_figures", "_law_figure", "_law_refused"]
def names : List Str := nm0
abbrev Rw : PySem.W.OpenRow := PySem.W.OpenLaw.row PySem.Challenge.rw_heraldboughs_k65_passes_by_figures
abbrev hk : PySem.W.Hook := hookQ 5 prog (prog.dds top)
def ob (s : PySem.W.SharedT) : He.AlD := obsQG 5 prog (prog.dds top) (HandSHeadRun.getT s)
theorem ob_eq (s : PySem.W.SharedT) : ob s = hk.obs s.abs := obsQG_eq (HandSHeadRun.getT_eq s)
theorem run (w : World) : HandSHeadRun.RunEq Rw (PySem.W.view Rw.prog [26]) hk ob 6000 names w := by
  intro os
  kernel_rfl
end L2.Eng.K65

namespace L2.Eng.K65
open PySem
theorem s_is_number {B : Fx} {k : Nat} (a b c : Int) (hk : 0 < k) : (lev fs B k).call "is_number" [.fz (.int a), .fz (.int b), .fz (.int c)] = .ok (.fz (.bool (decide (b ≤ a) && decide (a ≤ c)))) [.fz (.int a), .fz (.int b), .fz (.int c)] := by
  rw [lev_call (F := f_is_number) rfl hk, run_fn rfl]
  simp -implicitDefEqProofs only [f_is_number, e_nm, e_int, e_str, e_bl, e_non, e_glb, e_bin, e_neg, e_cmp, t_cmp, chn_if, e_chn, t_chn, e_and, e_or, t_and, t_or, e_not, t_not, e_ite, e_lst, e_tup, e_idx, e_slc, e_call, e_bi, e_rl1, e_rl2, e_isi, e_me, e_mu, e_lrv, e_lrr, lrv_l, e_dn, e_d1, e_dpr, e_dat, e_din, t_din, e_dge, odf_none, odf_some, t_dat, t_dge, t_slc, t_lcd, x_dst, i_rv, isOd, dstFin, Opd.dic, dOf, Option.isSome_some, Option.isSome_none, t_nm, t_bl, t_idx, t_call, t_bi, t_isi, t_lc, t_bin, ds_nil, ds_cons, os_nil, os_cons, oi_none, oi_some, c_none, c_some, i_op, as_nm, as_mv, x_nil, x_cons, sq_nx, sq_rt, sq_bk, sq_ct, x_set, x_setF, x_setT, x_par, x_sub, x_expr, x_ret, x_if, x_whl, x_for, x_raise, x_pass, x_brk, x_cont, x_tryC, x_tryI, bind_ok, bind_exc, map_ok, map_exc, of_some, bind_ite, map_ite, endR_ite, dflT, asT, asD, frz, ofB, cmpB, takeSlot, moveSlot, slotT, Opd.see, sees, T.view, truthD, cmpD, eqD, scalD, binD, negD, isKd, callF, takeA, putA, startR, endR_rt, endR_nx, endR_exc, backs, evB, evT, evD, evO, List.map_cons, List.map_nil, List.length_cons, List.length_nil, List.cons_append, List.nil_append, List.append_nil, List.set_cons_zero, List.set_cons_succ, List.getElem?_cons_zero, List.getElem?_cons_succ, List.replicate_zero, List.replicate_succ, Option.join_some, Option.join_none, Option.bind_some, Option.bind_none, Option.map_some, Option.map_none, Nat.reduceAdd, Nat.reduceSub, Nat.sub_self, List.any_cons, List.any_nil, Bool.or_false, Bool.false_or, Bool.or_true, Bool.true_or, Bool.and_true, Bool.true_and, Bool.and_false, Bool.false_and, Bool.not_true, Bool.not_false, Bool.false_eq_true, reduceIte, reduceCtorEq, decide_eq_true_eq, Bool.not_eq_true', decide_eq_false_iff_not, sz_eq, Nat.reduceLeDiff, isOl, subFin, muFin, muD, setFin, setMany, parFin, idxD, slcD, bi_len, bi_lenT, bi_abs, bi_int, bi_list, bi_listT, bi_max2, bi_min2, Ss.sets, S.sets, Tg.is, List.mem_cons, List.not_mem_nil, or_false, or_true, false_or, true_or, List.mem_append, List.append_assoc, List.append_eq]
  by_cases h : b ≤ a <;> simp [h]
theorem s_is_numberB {B : Fx} {k : Nat} (a : Bool) (b c : Int) (hk : 0 < k) : (lev fs B k).call "is_number" [.fz (.bool a), .fz (.int b), .fz (.int c)] = .ok (.fz (.bool false)) [.fz (.bool a), .fz (.int b), .fz (.int c)] := by
  rw [lev_call (F := f_is_number) rfl hk, run_fn rfl]
  simp -implicitDefEqProofs only [f_is_number, e_nm, e_int, e_str, e_bl, e_non, e_glb, e_bin, e_neg, e_cmp, t_cmp, chn_if, e_chn, t_chn, e_and, e_or, t_and, t_or, e_not, t_not, e_ite, e_lst, e_tup, e_idx, e_slc, e_call, e_bi, e_rl1, e_rl2, e_isi, e_me, e_mu, e_lrv, e_lrr, lrv_l, e_dn, e_d1, e_dpr, e_dat, e_din, t_din, e_dge, odf_none, odf_some, t_dat, t_dge, t_slc, t_lcd, x_dst, i_rv, isOd, dstFin, Opd.dic, dOf, Option.isSome_some, Option.isSome_none, t_nm, t_bl, t_idx, t_call, t_bi, t_isi, t_lc, t_bin, ds_nil, ds_cons, os_nil, os_cons, oi_none, oi_some, c_none, c_some, i_op, as_nm, as_mv, x_nil, x_cons, sq_nx, sq_rt, sq_bk, sq_ct, x_set, x_setF, x_setT, x_par, x_sub, x_expr, x_ret, x_if, x_whl, x_for, x_raise, x_pass, x_brk, x_cont, x_tryC, x_tryI, bind_ok, bind_exc, map_ok, map_exc, of_some, bind_ite, map_ite, endR_ite, dflT, asT, asD, frz, ofB, cmpB, takeSlot, moveSlot, slotT, Opd.see, sees, T.view, truthD, cmpD, eqD, scalD, binD, negD, isKd, callF, takeA, putA, startR, endR_rt, endR_nx, endR_exc, backs, evB, evT, evD, evO, List.map_cons, List.map_nil, List.length_cons, List.length_nil, List.cons_append, List.nil_append, List.append_nil, List.set_cons_zero, List.set_cons_succ, List.getElem?_cons_zero, List.getElem?_cons_succ, List.replicate_zero, List.replicate_succ, Option.join_some, Option.join_none, Option.bind_some, Option.bind_none, Option.map_some, Option.map_none, Nat.reduceAdd, Nat.reduceSub, Nat.sub_self, List.any_cons, List.any_nil, Bool.or_false, Bool.false_or, Bool.or_true, Bool.true_or, Bool.and_true, Bool.true_and, Bool.and_false, Bool.false_and, Bool.not_true, Bool.not_false, Bool.false_eq_true, reduceIte, reduceCtorEq, decide_eq_true_eq, Bool.not_eq_true', decide_eq_false_iff_not, sz_eq, Nat.reduceLeDiff, isOl, subFin, muFin, muD, setFin, setMany, parFin, idxD, slcD, bi_len, bi_lenT, bi_abs, bi_int, bi_list, bi_listT, bi_max2, bi_min2, Ss.sets, S.sets, Tg.is, List.mem_cons, List.not_mem_nil, or_false, or_true, false_or, true_or, List.mem_append, List.append_assoc, List.append_eq]
theorem s_pool {B : Fx} {k : Nat} (ns : List Int) (hk : 0 < k) : (lev fs B k).call "_law_pool" [.fz (.list (ns.map PyData.int))] = .ok (.ol (poolL ns 0 0 0 0)) [.fz (.list (ns.map PyData.int))] := by
  rw [lev_call (F := f__law_pool) rfl hk, run_fn rfl]
  simp -implicitDefEqProofs only [f__law_pool, e_nm, e_int, e_str, e_bl, e_non, e_glb, e_bin, e_neg, e_cmp, t_cmp, chn_if, e_chn, t_chn, e_and, e_or, t_and, t_or, e_not, t_not, e_ite, e_lst, e_tup, e_idx, e_slc, e_call, e_bi, e_rl1, e_rl2, e_isi, e_me, e_mu, e_lrv, e_lrr, lrv_l, e_dn, e_d1, e_dpr, e_dat, e_din, t_din, e_dge, odf_none, odf_some, t_dat, t_dge, t_slc, t_lcd, x_dst, i_rv, isOd, dstFin, Opd.dic, dOf, Option.isSome_some, Option.isSome_none, t_nm, t_bl, t_idx, t_call, t_bi, t_isi, t_lc, t_bin, ds_nil, ds_cons, os_nil, os_cons, oi_none, oi_some, c_none, c_some, i_op, as_nm, as_mv, x_nil, x_cons, sq_nx, sq_rt, sq_bk, sq_ct, x_set, x_setF, x_setT, x_par, x_sub, x_expr, x_ret, x_if, x_whl, x_for, x_raise, x_pass, x_brk, x_cont, x_tryC, x_tryI, bind_ok, bind_exc, map_ok, map_exc, of_some, bind_ite, map_ite, endR_ite, dflT, asT, asD, frz, ofB, cmpB, takeSlot, moveSlot, slotT, Opd.see, sees, T.view, truthD, cmpD, eqD, scalD, binD, negD, isKd, callF, takeA, putA, startR, endR_rt, endR_nx, endR_exc, backs, evB, evT, evD, evO, List.map_cons, List.map_nil, List.length_cons, List.length_nil, List.cons_append, List.nil_append, List.append_nil, List.set_cons_zero, List.set_cons_succ, List.getElem?_cons_zero, List.getElem?_cons_succ, List.replicate_zero, List.replicate_succ, Option.join_some, Option.join_none, Option.bind_some, Option.bind_none, Option.map_some, Option.map_none, Nat.reduceAdd, Nat.reduceSub, Nat.sub_self, List.any_cons, List.any_nil, Bool.or_false, Bool.false_or, Bool.or_true, Bool.true_or, Bool.and_true, Bool.true_and, Bool.and_false, Bool.false_and, Bool.not_true, Bool.not_false, Bool.false_eq_true, reduceIte, reduceCtorEq, decide_eq_true_eq, Bool.not_eq_true', decide_eq_false_iff_not, sz_eq, Nat.reduceLeDiff, isOl, subFin, muFin, muD, setFin, setMany, parFin, idxD, slcD, bi_len, bi_lenT, bi_abs, bi_int, bi_list, bi_listT, bi_max2, bi_min2, Ss.sets, S.sets, Tg.is, List.mem_cons, List.not_mem_nil, or_false, or_true, false_or, true_or, List.mem_append, List.append_assoc, List.append_eq, poolL]
theorem s_draw {p : List D} {m : Int} (hp : Pool p) (h0 : 0 < m) (h1 : m < 1073741824) : ∃ r p', Pool p' ∧ 0 ≤ r ∧ r < m ∧ ∀ B k, 0 < k → (lev fs B k).call "_law_draw" [.ol p, .fz (.int m)] = .ok (.fz (.int r)) [.ol p', .fz (.int m)] := by
  obtain ⟨r, p', a, b, c, e⟩ := draw_ok hp h0 h1
  refine ⟨r, p', a, b, c, fun B k hk => ?_⟩
  rw [lev_call (F := f__law_draw) rfl hk, run_fn rfl]
  exact e _
theorem s_same {B : Fx} {k n : Nat} {d : D} {t1 t2 : T} (hk : n ≤ k) (g : good n d) (v1 : t1.view = some d) (v2 : t2.view = some d) : (lev fs B k).call "_law_same" [t1, t2] = .ok (.fz (.bool true)) [t1, t2] :=
  same_ok (F := f__law_same) rfl rfl rfl rfl n k d hk g t1 t2 v1 v2
theorem s_pick {p : List D} {ds : List D} (hp : Pool p) (h0 : 0 < ds.length) (h1 : ds.length < 1073741824) : ∃ (i : Nat) (x : D) (p' : List D), Pool p' ∧ ds[i]? = some x ∧ ∀ B k, 1 < k → (lev fs B k).call "_law_pick" [.ol p, .fz (.list ds)] = .ok (.fz x) [.ol p', .fz (.list ds)] := by
  obtain ⟨r, p', hp', r0, r1, e⟩ := s_draw hp (m := (ds.length : Int)) (by omega) (by omega)
  have hi : r.toNat < ds.length := by omega
  have ai : atI ds r = some ds[r.toNat] := by
    have q := atI_nat (List.getElem?_eq_getElem hi)
    rwa [Int.toNat_of_nonneg r0] at q
  refine ⟨r.toNat, ds[r.toNat], p', hp', List.getElem?_eq_getElem hi, fun B k hk => ?_⟩
  rw [lev_call (F := f__law_pick) rfl (by omega), run_fn rfl]
  have e' := e B (k - 1) (by omega)
  simp -implicitDefEqProofs only [f__law_pick, e_nm, e_int, e_str, e_bl, e_non, e_glb, e_bin, e_neg, e_cmp, t_cmp, chn_if, e_chn, t_chn, e_and, e_or, t_and, t_or, e_not, t_not, e_ite, e_lst, e_tup, e_idx, e_slc, e_call, e_bi, e_rl1, e_rl2, e_isi, e_me, e_mu, e_lrv, e_lrr, lrv_l, e_dn, e_d1, e_dpr, e_dat, e_din, t_din, e_dge, odf_none, odf_some, t_dat, t_dge, t_slc, t_lcd, x_dst, i_rv, isOd, dstFin, Opd.dic, dOf, Option.isSome_some, Option.isSome_none, t_nm, t_bl, t_idx, t_call, t_bi, t_isi, t_lc, t_bin, ds_nil, ds_cons, os_nil, os_cons, oi_none, oi_some, c_none, c_some, i_op, as_nm, as_mv, x_nil, x_cons, sq_nx, sq_rt, sq_bk, sq_ct, x_set, x_setF, x_setT, x_par, x_sub, x_expr, x_ret, x_if, x_whl, x_for, x_raise, x_pass, x_brk, x_cont, x_tryC, x_tryI, bind_ok, bind_exc, map_ok, map_exc, of_some, bind_ite, map_ite, endR_ite, dflT, asT, asD, frz, ofB, cmpB, takeSlot, moveSlot, slotT, Opd.see, sees, T.view, truthD, cmpD, eqD, scalD, binD, negD, isKd, callF, takeA, putA, startR, endR_rt, endR_nx, endR_exc, backs, evB, evT, evD, evO, List.map_cons, List.map_nil, List.length_cons, List.length_nil, List.cons_append, List.nil_append, List.append_nil, List.set_cons_zero, List.set_cons_succ, List.getElem?_cons_zero, List.getElem?_cons_succ, List.replicate_zero, List.replicate_succ, Option.join_some, Option.join_none, Option.bind_some, Option.bind_none, Option.map_some, Option.map_none, Nat.reduceAdd, Nat.reduceSub, Nat.sub_self, List.any_cons, List.any_nil, Bool.or_false, Bool.false_or, Bool.or_true, Bool.true_or, Bool.and_true, Bool.true_and, Bool.and_false, Bool.false_and, Bool.not_true, Bool.not_false, Bool.false_eq_true, reduceIte, reduceCtorEq, decide_eq_true_eq, Bool.not_eq_true', decide_eq_false_iff_not, sz_eq, Nat.reduceLeDiff, isOl, subFin, muFin, muD, setFin, setMany, parFin, idxD, slcD, bi_len, bi_lenT, bi_abs, bi_int, bi_list, bi_listT, bi_max2, bi_min2, Ss.sets, S.sets, Tg.is, List.mem_cons, List.not_mem_nil, or_false, or_true, false_or, true_or, List.mem_append, List.append_assoc, List.append_eq, e', ai]
theorem s_pickO {p : List D} {ds : List D} (hp : Pool p) (h0 : 0 < ds.length) (h1 : ds.length < 1073741824) : ∃ (x : D) (p' : List D), Pool p' ∧ x ∈ ds ∧ ∀ B k, 1 < k → (lev fs B k).call "_law_pick" [.ol p, .ol ds] = .ok (.fz x) [.ol p', .ol ds] := by
  obtain ⟨r, p', hp', r0, r1, e⟩ := s_draw hp (m := (ds.length : Int)) (by omega) (by omega)
  have hi : r.toNat < ds.length := by omega
  have ai : atI ds r = some ds[r.toNat] := by
    have q := atI_nat (List.getElem?_eq_getElem hi)
    rwa [Int.toNat_of_nonneg r0] at q
  refine ⟨ds[r.toNat], p', hp', List.getElem_mem hi, fun B k hk => ?_⟩
  rw [lev_call (F := f__law_pick) rfl (by omega), run_fn rfl]
  have e' := e B (k - 1) (by omega)
  simp -implicitDefEqProofs only [f__law_pick, e_nm, e_int, e_str, e_bl, e_non, e_glb, e_bin, e_neg, e_cmp, t_cmp, chn_if, e_chn, t_chn, e_and, e_or, t_and, t_or, e_not, t_not, e_ite, e_lst, e_tup, e_idx, e_slc, e_call, e_bi, e_rl1, e_rl2, e_isi, e_me, e_mu, e_lrv, e_lrr, lrv_l, e_dn, e_d1, e_dpr, e_dat, e_din, t_din, e_dge, odf_none, odf_some, t_dat, t_dge, t_slc, t_lcd, x_dst, i_rv, isOd, dstFin, Opd.dic, dOf, Option.isSome_some, Option.isSome_none, t_nm, t_bl, t_idx, t_call, t_bi, t_isi, t_lc, t_bin, ds_nil, ds_cons, os_nil, os_cons, oi_none, oi_some, c_none, c_some, i_op, as_nm, as_mv, x_nil, x_cons, sq_nx, sq_rt, sq_bk, sq_ct, x_set, x_setF, x_setT, x_par, x_sub, x_expr, x_ret, x_if, x_raise, x_pass, x_brk, x_cont, x_tryC, x_tryI, bind_ok, bind_exc, map_ok, map_exc, of_some, bind_ite, map_ite, endR_ite, dflT, asT, asD, frz, ofB, cmpB, takeSlot, moveSlot, slotT, Opd.see, sees, T.view, truthD, cmpD, eqD, scalD, binD, negD, isKd, callF, takeA, putA, startR, endR_rt, endR_nx, endR_exc, backs, evB, evT, evD, evO, List.map_cons, List.map_nil, List.length_cons, List.length_nil, List.cons_append, List.nil_append, List.append_nil, List.set_cons_zero, List.set_cons_succ, List.getElem?_cons_zero, List.getElem?_cons_succ, List.replicate_zero, List.replicate_succ, Option.join_some, Option.join_none, Option.bind_some, Option.bind_none, Option.map_some, Option.map_none, Nat.reduceAdd, Nat.reduceSub, Nat.sub_self, List.any_cons, List.any_nil, Bool.or_false, Bool.false_or, Bool.or_true, Bool.true_or, Bool.and_true, Bool.true_and, Bool.and_false, Bool.false_and, Bool.not_true, Bool.not_false, Bool.false_eq_true, reduceIte, reduceCtorEq, decide_eq_true_eq, Bool.not_eq_true', decide_eq_false_iff_not, sz_eq, Nat.reduceLeDiff, isOl, subFin, muFin, muD, setFin, setMany, parFin, idxD, slcD, bi_len, bi_lenT, bi_abs, bi_int, bi_list, bi_listT, bi_max2, bi_min2, Ss.sets, S.sets, Tg.is, List.mem_cons, List.not_mem_nil, or_false, or_true, false_or, true_or, List.mem_append, List.append_assoc, List.append_eq, e', ai]
def Bx : Fx := prog.fx 1000 hot
theorem lev_fuel (k : Nat) : 101 ≤ (lev fs Bx k).fuel := by
  cases k with
  | zero => exact (by decide : 101 ≤ 1000)
  | succ k => exact (by decide : 101 ≤ 1000)
theorem lev_sub (k : Nat) : (lev fs Bx k).sub = Bx.sub := by cases k <;> rfl
theorem lev_hot {k : Nat} (hk : 0 < k) : (lev fs Bx k).hot = hot := by
  cases k with
  | zero => omega
  | succ k => rfl


abbrev nl (ns : List Nat) : D := .list (ns.map fun (n : Nat) => PyData.int (n : Int))
/-- numbers on letters -/
def Ls (rs : List Nat) : Prop := (∀ n ∈ rs, n ≤ 1000000) ∧ rs.length ≤ 200
def fig (h p n : Nat) : Nat := n / h ^ p % h
def pass (h p : Nat) (rs : List Nat) : List Nat := (List.range h).flatMap fun v => rs.filter fun n => decide (fig h p n = v)
def psn (h : Nat) (rs : List Nat) : Nat → List Nat
  | 0 => rs
  | p + 1 => pass h p (psn h rs p)
theorem flat_perm {α : Type} (f : α → Nat) (rs : List α) : ∀ k, ((List.range k).flatMap fun v => rs.filter fun n => decide (f n = v)).Perm (rs.filter fun n => decide (f n < k))
  | 0 => by simp
  | k + 1 => by
    rw [List.range_succ, List.flatMap_append, List.flatMap_cons, List.flatMap_nil, List.append_nil]
    refine ((flat_perm f rs k).append_right _).trans ?_
    have h1 := List.filter_append_perm (fun n => decide (f n < k)) (rs.filter fun n => decide (f n < k + 1))
    rw [List.filter_filter, List.filter_filter] at h1
    have e1 : (rs.filter fun a => decide (f a < k) && decide (f a < k + 1)) = rs.filter fun n => decide (f n < k) := List.filter_congr fun x _ => by
      by_cases h : f x < k <;> simp [h]; omega
    have e2 : (rs.filter fun a => (!decide (f a < k)) && decide (f a < k + 1)) = rs.filter fun n => decide (f n = k) := List.filter_congr fun x _ => by
      by_cases h : f x < k
      · simp [h]; omega
      · by_cases h2 : f x = k
        · simp [h2]
        · simp [h2]; omega
    rw [e1, e2] at h1
    exact h1
theorem pass_perm {h : Nat} (hh : 1 ≤ h) (p : Nat) (rs : List Nat) : (pass h p rs).Perm rs := by
  refine (flat_perm (fig h p) rs h).trans ?_
  have e : (rs.filter fun n => decide (fig h p n < h)) = rs := List.filter_eq_self.mpr fun a _ => decide_eq_true (Nat.mod_lt _ (by omega))
  rw [e]
theorem psn_perm {h : Nat} (hh : 1 ≤ h) (rs : List Nat) : ∀ p, (psn h rs p).Perm rs
  | 0 => .refl _
  | p + 1 => (pass_perm hh p _).trans (psn_perm hh rs p)
theorem psn_ls {h : Nat} (hh : 1 ≤ h) {rs : List Nat} (hr : Ls rs) (p : Nat) : Ls (psn h rs p) := ⟨fun n hn => hr.1 n ((psn_perm hh rs p).mem_iff.mp hn), by rw [(psn_perm hh rs p).length_eq]; exact hr.2⟩
theorem pass_ls {h : Nat} (hh : 1 ≤ h) {rs : List Nat} (hr : Ls rs) (p : Nat) : Ls (pass h p rs) := ⟨fun n hn => hr.1 n ((pass_perm hh p rs).mem_iff.mp hn), by rw [(pass_perm hh p rs).length_eq]; exact hr.2⟩
theorem div_step (n h i : Nat) : n / h ^ i / h = n / h ^ (i + 1) := by rw [Nat.div_div_eq_div_mul, Nat.pow_succ]
theorem fdiv_nat (a b : Nat) : ((a : Int)).fdiv (b : Int) = ((a / b : Nat) : Int) := by
  rw [Int.fdiv_eq_ediv_of_nonneg _ (by omega)]
  exact (Int.natCast_ediv a b).symm
section
variable {B : Fx} {k h p : Nat} {rs : List Nat} {t : T}
theorem s_num {a lo hi : Int} (h1 : lo ≤ a) (h2 : a ≤ hi) (hk : 1 < k) : (lev fs B k).call "checked_number" [.fz (.int a), .fz (.int lo), .fz (.int hi)] = .ok (.fz (.int a)) [.fz (.int a), .fz (.int lo), .fz (.int hi)] := by
  rw [lev_call (F := f_checked_number) rfl (by omega), run_fn rfl]
  have n1 := s_is_number (B := B) (k := k - 1) a lo hi (by omega)
  rw [decide_eq_true h1, decide_eq_true h2] at n1
  simp -implicitDefEqProofs only [f_checked_number, e_nm, e_int, e_str, e_bl, e_non, e_glb, e_bin, e_neg, e_cmp, t_cmp, chn_if, e_chn, t_chn, e_and, e_or, t_and, t_or, e_not, t_not, e_ite, e_lst, e_tup, e_idx, e_slc, e_call, e_bi, e_rl1, e_rl2, e_isi, e_me, e_mu, e_lrv, e_lrr, lrv_l, e_dn, e_d1, e_dpr, e_dat, e_din, t_din, e_dge, odf_none, odf_some, t_dat, t_dge, t_slc, t_lcd, x_dst, i_rv, isOd, dstFin, Opd.dic, dOf, Option.isSome_some, Option.isSome_none, t_nm, t_bl, t_idx, t_call, t_bi, t_isi, t_lc, t_bin, ds_nil, ds_cons, os_nil, os_cons, oi_none, oi_some, c_none, c_some, i_op, as_nm, as_mv, x_nil, x_cons, sq_nx, sq_rt, sq_bk, sq_ct, x_set, x_setF, x_setT, x_par, x_sub, x_expr, x_ret, x_if, x_raise, x_pass, x_brk, x_cont, x_tryC, x_tryI, bind_ok, bind_exc, map_ok, map_exc, of_some, bind_ite, map_ite, endR_ite, dflT, asT, asD, frz, ofB, cmpB, takeSlot, moveSlot, slotT, Opd.see, sees, T.view, truthD, cmpD, eqD, scalD, binD, negD, isKd, callF, takeA, putA, startR, endR_rt, endR_nx, endR_exc, backs, evB, evT, evD, evO, List.map_cons, List.map_nil, List.length_cons, List.length_nil, List.cons_append, List.nil_append, List.append_nil, List.set_cons_zero, List.set_cons_succ, List.getElem?_cons_zero, List.getElem?_cons_succ, List.replicate_zero, List.replicate_succ, Option.join_some, Option.join_none, Option.bind_some, Option.bind_none, Option.map_some, Option.map_none, Nat.reduceAdd, Nat.reduceSub, Nat.sub_self, List.any_cons, List.any_nil, Bool.or_false, Bool.false_or, Bool.or_true, Bool.true_or, Bool.and_true, Bool.true_and, Bool.and_false, Bool.false_and, Bool.not_true, Bool.not_false, Bool.false_eq_true, reduceIte, reduceCtorEq, decide_eq_true_eq, Bool.not_eq_true', decide_eq_false_iff_not, sz_eq, Nat.reduceLeDiff, isOl, subFin, muFin, muD, setFin, setMany, parFin, bi_len, bi_lenT, bi_abs, bi_int, bi_list, bi_listT, bi_max2, bi_min2, Ss.sets, S.sets, Tg.is, List.mem_cons, List.not_mem_nil, or_false, or_true, false_or, true_or, List.mem_append, List.append_assoc, List.append_eq, ixL, ixT, scL, meTy, Option.getD_some, List.isEmpty_nil, List.isEmpty_cons, n1]
theorem s_letters (hv : t.view = some (nl rs)) (hr : Ls rs) (hk : 2 < k) : (lev fs B k).call "checked_letters" [t] = .ok (.ol (rs.map fun (n : Nat) => .int (n : Int))) [t] := by
  have h2 := hr.2
  rw [lev_call (F := f_checked_letters) rfl (by omega), run_fn rfl]
  have d1 : decide ((200 : Int) < (rs.length : Int)) = false := decide_eq_false (by omega)
  have lc : (ev2 (lev fs B (k - 1)) (.lc (.one 1) [1] (.opd (.nm 0)) .none (.call "checked_number" (.cons (.nm 1) .nil) [(.int 0), (.int 1000000)]))).1 [some t, none] = .ok (.tmp (.ol (rs.map fun (n : Nat) => .int (n : Int)))) [some t, none] := by
    refine lc_lmm (x := .sl 0) (d := nl rs) (k := false) (rs := rs) (g := fun (n : Nat) => PyData.int (n : Int)) (fun (n : Nat) => PyData.int (n : Int)) rfl hv rfl (fun z => by cases z) (Nat.le_of_ble_eq_true rfl) (by omega) (fun n hn => ?_)
    have q := s_num (B := B) (k := k - 1) (a := (n : Int)) (lo := 0) (hi := 1000000) (by omega) (by have := hr.1 n hn; omega) (by omega)
    simp -implicitDefEqProofs only [e_nm, e_int, e_str, e_bl, e_non, e_glb, e_bin, e_neg, e_cmp, t_cmp, chn_if, e_chn, t_chn, e_and, e_or, t_and, t_or, e_not, t_not, e_ite, e_lst, e_tup, e_idx, e_slc, e_call, e_bi, e_rl1, e_rl2, e_isi, e_me, e_mu, e_lrv, e_lrr, lrv_l, e_dn, e_d1, e_dpr, e_dat, e_din, t_din, e_dge, odf_none, odf_some, t_dat, t_dge, t_slc, t_lcd, x_dst, i_rv, isOd, dstFin, Opd.dic, dOf, Option.isSome_some, Option.isSome_none, t_nm, t_bl, t_idx, t_call, t_bi, t_isi, t_lc, t_bin, ds_nil, ds_cons, os_nil, os_cons, oi_none, oi_some, c_none, c_some, i_op, as_nm, as_mv, x_nil, x_cons, sq_nx, sq_rt, sq_bk, sq_ct, x_set, x_setF, x_setT, x_par, x_sub, x_expr, x_ret, x_if, x_raise, x_pass, x_brk, x_cont, x_tryC, x_tryI, bind_ok, bind_exc, map_ok, map_exc, of_some, bind_ite, map_ite, endR_ite, dflT, asT, asD, frz, ofB, cmpB, takeSlot, moveSlot, slotT, Opd.see, sees, T.view, truthD, cmpD, eqD, scalD, binD, negD, isKd, callF, takeA, putA, startR, endR_rt, endR_nx, endR_exc, backs, evB, evT, evD, evO, List.map_cons, List.map_nil, List.length_cons, List.length_nil, List.cons_append, List.nil_append, List.append_nil, List.set_cons_zero, List.set_cons_succ, List.getElem?_cons_zero, List.getElem?_cons_succ, List.replicate_zero, List.replicate_succ, Option.join_some, Option.join_none, Option.bind_some, Option.bind_none, Option.map_some, Option.map_none, Nat.reduceAdd, Nat.reduceSub, Nat.sub_self, List.any_cons, List.any_nil, Bool.or_false, Bool.false_or, Bool.or_true, Bool.true_or, Bool.and_true, Bool.true_and, Bool.and_false, Bool.false_and, Bool.not_true, Bool.not_false, Bool.false_eq_true, reduceIte, reduceCtorEq, decide_eq_true_eq, Bool.not_eq_true', decide_eq_false_iff_not, sz_eq, Nat.reduceLeDiff, isOl, subFin, muFin, muD, setFin, setMany, parFin, bi_len, bi_lenT, bi_abs, bi_int, bi_list, bi_listT, bi_max2, bi_min2, Ss.sets, S.sets, Tg.is, List.mem_cons, List.not_mem_nil, or_false, or_true, false_or, true_or, List.mem_append, List.append_assoc, List.append_eq, ixL, ixT, scL, meTy, Option.getD_some, List.isEmpty_nil, List.isEmpty_cons, q]
  rcases view_l hv with rfl | rfl <;> simp -implicitDefEqProofs only [f_checked_letters, e_nm, e_int, e_str, e_bl, e_non, e_glb, e_bin, e_neg, e_cmp, t_cmp, chn_if, e_chn, t_chn, e_and, e_or, t_and, t_or, e_not, t_not, e_ite, e_lst, e_tup, e_idx, e_slc, e_call, e_bi, e_rl1, e_rl2, e_isi, e_me, e_mu, e_lrv, e_lrr, lrv_l, e_dn, e_d1, e_dpr, e_dat, e_din, t_din, e_dge, odf_none, odf_some, t_dat, t_dge, t_slc, t_lcd, x_dst, i_rv, isOd, dstFin, Opd.dic, dOf, Option.isSome_some, Option.isSome_none, t_nm, t_bl, t_idx, t_call, t_bi, t_isi, t_lc, t_bin, ds_nil, ds_cons, os_nil, os_cons, oi_none, oi_some, c_none, c_some, i_op, as_nm, as_mv, x_nil, x_cons, sq_nx, sq_rt, sq_bk, sq_ct, x_set, x_setF, x_setT, x_par, x_sub, x_expr, x_ret, x_if, x_raise, x_pass, x_brk, x_cont, x_tryC, x_tryI, bind_ok, bind_exc, map_ok, map_exc, of_some, bind_ite, map_ite, endR_ite, dflT, asT, asD, frz, ofB, cmpB, takeSlot, moveSlot, slotT, Opd.see, sees, T.view, truthD, cmpD, eqD, scalD, binD, negD, isKd, callF, takeA, putA, startR, endR_rt, endR_nx, endR_exc, backs, evB, evT, evD, evO, List.map_cons, List.map_nil, List.length_cons, List.length_nil, List.cons_append, List.nil_append, List.append_nil, List.set_cons_zero, List.set_cons_succ, List.getElem?_cons_zero, List.getElem?_cons_succ, List.replicate_zero, List.replicate_succ, Option.join_some, Option.join_none, Option.bind_some, Option.bind_none, Option.map_some, Option.map_none, Nat.reduceAdd, Nat.reduceSub, Nat.sub_self, List.any_cons, List.any_nil, Bool.or_false, Bool.false_or, Bool.or_true, Bool.true_or, Bool.and_true, Bool.true_and, Bool.and_false, Bool.false_and, Bool.not_true, Bool.not_false, Bool.false_eq_true, reduceIte, reduceCtorEq, decide_eq_true_eq, Bool.not_eq_true', decide_eq_false_iff_not, sz_eq, Nat.reduceLeDiff, isOl, subFin, muFin, muD, setFin, setMany, parFin, bi_len, bi_lenT, bi_abs, bi_int, bi_list, bi_listT, bi_max2, bi_min2, Ss.sets, S.sets, Tg.is, List.mem_cons, List.not_mem_nil, or_false, or_true, false_or, true_or, List.mem_append, List.append_assoc, List.append_eq, ixL, ixT, scL, meTy, Option.getD_some, List.isEmpty_nil, List.isEmpty_cons, lc, List.length_map, d1]
theorem s_holes (h2 : 2 ≤ h) (h3 : h ≤ 100) (hk : 2 < k) : (lev fs B k).call "checked_holes" [.fz (.int (h : Int))] = .ok (.fz (.int (h : Int))) [.fz (.int (h : Int))] := by
  rw [lev_call (F := f_checked_holes) rfl (by omega), run_fn rfl]
  have q := s_num (B := B) (k := k - 1) (a := (h : Int)) (lo := 2) (hi := 100) (by omega) (by omega) (by omega)
  simp -implicitDefEqProofs only [f_checked_holes, e_nm, e_int, e_str, e_bl, e_non, e_glb, e_bin, e_neg, e_cmp, t_cmp, chn_if, e_chn, t_chn, e_and, e_or, t_and, t_or, e_not, t_not, e_ite, e_lst, e_tup, e_idx, e_slc, e_call, e_bi, e_rl1, e_rl2, e_isi, e_me, e_mu, e_lrv, e_lrr, lrv_l, e_dn, e_d1, e_dpr, e_dat, e_din, t_din, e_dge, odf_none, odf_some, t_dat, t_dge, t_slc, t_lcd, x_dst, i_rv, isOd, dstFin, Opd.dic, dOf, Option.isSome_some, Option.isSome_none, t_nm, t_bl, t_idx, t_call, t_bi, t_isi, t_lc, t_bin, ds_nil, ds_cons, os_nil, os_cons, oi_none, oi_some, c_none, c_some, i_op, as_nm, as_mv, x_nil, x_cons, sq_nx, sq_rt, sq_bk, sq_ct, x_set, x_setF, x_setT, x_par, x_sub, x_expr, x_ret, x_if, x_raise, x_pass, x_brk, x_cont, x_tryC, x_tryI, bind_ok, bind_exc, map_ok, map_exc, of_some, bind_ite, map_ite, endR_ite, dflT, asT, asD, frz, ofB, cmpB, takeSlot, moveSlot, slotT, Opd.see, sees, T.view, truthD, cmpD, eqD, scalD, binD, negD, isKd, callF, takeA, putA, startR, endR_rt, endR_nx, endR_exc, backs, evB, evT, evD, evO, List.map_cons, List.map_nil, List.length_cons, List.length_nil, List.cons_append, List.nil_append, List.append_nil, List.set_cons_zero, List.set_cons_succ, List.getElem?_cons_zero, List.getElem?_cons_succ, List.replicate_zero, List.replicate_succ, Option.join_some, Option.join_none, Option.bind_some, Option.bind_none, Option.map_some, Option.map_none, Nat.reduceAdd, Nat.reduceSub, Nat.sub_self, List.any_cons, List.any_nil, Bool.or_false, Bool.false_or, Bool.or_true, Bool.true_or, Bool.and_true, Bool.true_and, Bool.and_false, Bool.false_and, Bool.not_true, Bool.not_false, Bool.false_eq_true, reduceIte, reduceCtorEq, decide_eq_true_eq, Bool.not_eq_true', decide_eq_false_iff_not, sz_eq, Nat.reduceLeDiff, isOl, subFin, muFin, muD, setFin, setMany, parFin, bi_len, bi_lenT, bi_abs, bi_int, bi_list, bi_listT, bi_max2, bi_min2, Ss.sets, S.sets, Tg.is, List.mem_cons, List.not_mem_nil, or_false, or_true, false_or, true_or, List.mem_append, List.append_assoc, List.append_eq, ixL, ixT, scL, meTy, Option.getD_some, List.isEmpty_nil, List.isEmpty_cons, q]
theorem s_fig {n : Nat} (h2 : 2 ≤ h) (h3 : h ≤ 100) (hn : n ≤ 1000000) (hp : p ≤ 20) (hk : 3 < k) : (lev fs B k).call "figure" [.fz (.int (n : Int)), .fz (.int (p : Int)), .fz (.int (h : Int))] = .ok (.fz (.int (fig h p n : Nat))) [.fz (.int (n : Int)), .fz (.int (p : Int)), .fz (.int (h : Int))] := by
  rw [lev_call (F := f_figure) rfl (by omega), run_fn rfl]
  have q1 := s_num (B := B) (k := k - 1) (a := (n : Int)) (lo := 0) (hi := 1000000) (by omega) (by omega) (by omega)
  have q2 := s_holes (B := B) (k := k - 1) h2 h3 (by omega)
  have q3 := s_num (B := B) (k := k - 1) (a := (p : Int)) (lo := 0) (hi := 20) (by omega) (by omega) (by omega)
  have lp : ∃ o, exS (lev fs B (k - 1)) (.for_ (.one 3) (.rng1 (.nm 1)) (.cons (.setF 0 (.bin .FloorDiv (.nm 0) (.nm 2))) .nil)) [some (.fz (.int (n : Int))), some (.fz (.int (p : Int))), some (.fz (.int (h : Int))), none] = .ok .nx [some (.fz (.int ((n / h ^ p : Nat) : Int))), some (.fz (.int (p : Int))), some (.fz (.int (h : Int))), o] := by
    refine for_r1p (n := p) (x := .sl 1) (ρ1 := [some (.fz (.int (n : Int))), some (.fz (.int (p : Int))), some (.fz (.int (h : Int))), none]) (fun i ρ => ∃ o, ρ = [some (.fz (.int ((n / h ^ i : Nat) : Int))), some (.fz (.int (p : Int))), some (.fz (.int (h : Int))), o]) (fun f => ∃ o, f = .ok .nx [some (.fz (.int ((n / h ^ p : Nat) : Int))), some (.fz (.int (p : Int))), some (.fz (.int (h : Int))), o]) rfl rfl (by omega) ⟨none, by rw [Nat.pow_zero, Nat.div_one]⟩ ?_ ?_
    · rintro i _ hi ⟨o, rfl⟩
      have z : (h : Int) ≠ 0 := by omega
      have e := fdiv_nat (n / h ^ i) h
      rw [div_step] at e
      have nb : (h : Int).natAbs < 1073741824 := by omega
      have bd : exSs (lev fs B (k - 1)) (.cons (.setF 0 (.bin .FloorDiv (.nm 0) (.nm 2))) .nil) ([some (.fz (.int ((n / h ^ i : Nat) : Int))), some (.fz (.int (p : Int))), some (.fz (.int (h : Int))), o].set 3 (some (.fz (.int (i : Int))))) = .ok .nx [some (.fz (.int ((n / h ^ (i + 1) : Nat) : Int))), some (.fz (.int (p : Int))), some (.fz (.int (h : Int))), some (.fz (.int (i : Int)))] := by
        simp -implicitDefEqProofs only [e_nm, e_int, e_str, e_bl, e_non, e_glb, e_bin, e_neg, e_cmp, t_cmp, chn_if, e_chn, t_chn, e_and, e_or, t_and, t_or, e_not, t_not, e_ite, e_lst, e_tup, e_idx, e_slc, e_call, e_bi, e_rl1, e_rl2, e_isi, e_me, e_mu, e_lrv, e_lrr, lrv_l, e_dn, e_d1, e_dpr, e_dat, e_din, t_din, e_dge, odf_none, odf_some, t_dat, t_dge, t_slc, t_lcd, x_dst, i_rv, isOd, dstFin, Opd.dic, dOf, Option.isSome_some, Option.isSome_none, t_nm, t_bl, t_idx, t_call, t_bi, t_isi, t_lc, t_bin, ds_nil, ds_cons, os_nil, os_cons, oi_none, oi_some, c_none, c_some, i_op, as_nm, as_mv, x_nil, x_cons, sq_nx, sq_rt, sq_bk, sq_ct, x_set, x_setF, x_setT, x_par, x_sub, x_expr, x_ret, x_if, x_raise, x_pass, x_brk, x_cont, x_tryC, x_tryI, bind_ok, bind_exc, map_ok, map_exc, of_some, bind_ite, map_ite, endR_ite, dflT, asT, asD, frz, ofB, cmpB, takeSlot, moveSlot, slotT, Opd.see, sees, T.view, truthD, cmpD, eqD, scalD, binD, negD, isKd, callF, takeA, putA, startR, endR_rt, endR_nx, endR_exc, backs, evB, evT, evD, evO, List.map_cons, List.map_nil, List.length_cons, List.length_nil, List.cons_append, List.nil_append, List.append_nil, List.set_cons_zero, List.set_cons_succ, List.getElem?_cons_zero, List.getElem?_cons_succ, List.replicate_zero, List.replicate_succ, Option.join_some, Option.join_none, Option.bind_some, Option.bind_none, Option.map_some, Option.map_none, Nat.reduceAdd, Nat.reduceSub, Nat.sub_self, List.any_cons, List.any_nil, Bool.or_false, Bool.false_or, Bool.or_true, Bool.true_or, Bool.and_true, Bool.true_and, Bool.and_false, Bool.false_and, Bool.not_true, Bool.not_false, Bool.false_eq_true, reduceIte, reduceCtorEq, decide_eq_true_eq, Bool.not_eq_true', decide_eq_false_iff_not, sz_eq, Nat.reduceLeDiff, isOl, subFin, muFin, muD, setFin, setMany, parFin, bi_len, bi_lenT, bi_abs, bi_int, bi_list, bi_listT, bi_max2, bi_min2, Ss.sets, S.sets, Tg.is, List.mem_cons, List.not_mem_nil, or_false, or_true, false_or, true_or, List.mem_append, List.append_assoc, List.append_eq, ixL, ixT, scL, meTy, Option.getD_some, List.isEmpty_nil, List.isEmpty_cons, z, e, nb, ne_eq, not_false_eq_true, and_self]
      rw [bd]
      exact ⟨_, rfl⟩
    · rintro _ ⟨o, rfl⟩
      exact ⟨o, rfl⟩
  obtain ⟨o, lp⟩ := lp
  have z : (h : Int) ≠ 0 := by omega
  have e := fmod_nat (n / h ^ p) h
  simp -implicitDefEqProofs only [f_figure, e_nm, e_int, e_str, e_bl, e_non, e_glb, e_bin, e_neg, e_cmp, t_cmp, chn_if, e_chn, t_chn, e_and, e_or, t_and, t_or, e_not, t_not, e_ite, e_lst, e_tup, e_idx, e_slc, e_call, e_bi, e_rl1, e_rl2, e_isi, e_me, e_mu, e_lrv, e_lrr, lrv_l, e_dn, e_d1, e_dpr, e_dat, e_din, t_din, e_dge, odf_none, odf_some, t_dat, t_dge, t_slc, t_lcd, x_dst, i_rv, isOd, dstFin, Opd.dic, dOf, Option.isSome_some, Option.isSome_none, t_nm, t_bl, t_idx, t_call, t_bi, t_isi, t_lc, t_bin, ds_nil, ds_cons, os_nil, os_cons, oi_none, oi_some, c_none, c_some, i_op, as_nm, as_mv, x_nil, x_cons, sq_nx, sq_rt, sq_bk, sq_ct, x_set, x_setF, x_setT, x_par, x_sub, x_expr, x_ret, x_if, x_raise, x_pass, x_brk, x_cont, x_tryC, x_tryI, bind_ok, bind_exc, map_ok, map_exc, of_some, bind_ite, map_ite, endR_ite, dflT, asT, asD, frz, ofB, cmpB, takeSlot, moveSlot, slotT, Opd.see, sees, T.view, truthD, cmpD, eqD, scalD, binD, negD, isKd, callF, takeA, putA, startR, endR_rt, endR_nx, endR_exc, backs, evB, evT, evD, evO, List.map_cons, List.map_nil, List.length_cons, List.length_nil, List.cons_append, List.nil_append, List.append_nil, List.set_cons_zero, List.set_cons_succ, List.getElem?_cons_zero, List.getElem?_cons_succ, List.replicate_zero, List.replicate_succ, Option.join_some, Option.join_none, Option.bind_some, Option.bind_none, Option.map_some, Option.map_none, Nat.reduceAdd, Nat.reduceSub, Nat.sub_self, List.any_cons, List.any_nil, Bool.or_false, Bool.false_or, Bool.or_true, Bool.true_or, Bool.and_true, Bool.true_and, Bool.and_false, Bool.false_and, Bool.not_true, Bool.not_false, Bool.false_eq_true, reduceIte, reduceCtorEq, decide_eq_true_eq, Bool.not_eq_true', decide_eq_false_iff_not, sz_eq, Nat.reduceLeDiff, isOl, subFin, muFin, muD, setFin, setMany, parFin, bi_len, bi_lenT, bi_abs, bi_int, bi_list, bi_listT, bi_max2, bi_min2, Ss.sets, S.sets, Tg.is, List.mem_cons, List.not_mem_nil, or_false, or_true, false_or, true_or, List.mem_append, List.append_assoc, List.append_eq, ixL, ixT, scL, meTy, Option.getD_some, List.isEmpty_nil, List.isEmpty_cons, q1, q2, q3, lp, z, e, ne_eq, not_false_eq_true]
  rfl
end
end L2.Eng.K65

namespace L2.Eng.K65
open PySem
/-- the figures of a number, the least first -/
def figsF : Nat → Nat → Nat → List Nat
  | 0, _, _ => []
  | f + 1, h, n => if n = 0 then [] else n % h :: figsF f h (n / h)
def figs (h n : Nat) : List Nat := figsF n h n
theorem figsF_enough {h : Nat} (h2 : 2 ≤ h) : ∀ {f n : Nat}, n ≤ f → figsF f h n = figs h n
  | 0, n, hn => by
    have : n = 0 := by omega
    subst this
    rfl
  | f + 1, n, hn => by
    by_cases h0 : n = 0
    · subst h0
      rfl
    · have hd : n / h < n := Nat.div_lt_self (by omega) (by omega)
      obtain ⟨m, rfl⟩ : ∃ m, n = m + 1 := ⟨n - 1, by omega⟩
      show (if m + 1 = 0 then [] else (m + 1) % h :: figsF f h ((m + 1) / h)) = if m + 1 = 0 then [] else (m + 1) % h :: figsF m h ((m + 1) / h)
      rw [figsF_enough h2 (f := f) (by omega), figsF_enough h2 (f := m) (by omega)]
theorem figs_zero (h : Nat) : figs h 0 = [] := rfl
theorem figs_pos {h n : Nat} (h2 : 2 ≤ h) (hn : 0 < n) : figs h n = n % h :: figs h (n / h) := by
  obtain ⟨m, rfl⟩ : ∃ m, n = m + 1 := ⟨n - 1, by omega⟩
  have hd : (m + 1) / h < m + 1 := Nat.div_lt_self (by omega) (by omega)
  show (if m + 1 = 0 then [] else (m + 1) % h :: figsF m h ((m + 1) / h)) = _
  rw [if_neg (by omega), figsF_enough h2 (by omega)]
theorem figs_getD {h : Nat} (h2 : 2 ≤ h) : ∀ (p n : Nat), (figs h n).getD p 0 = fig h p n
  | p, 0 => by
    rw [figs_zero]
    unfold fig
    simp
  | 0, n + 1 => by
    rw [figs_pos h2 (by omega)]
    unfold fig
    rw [Nat.pow_zero, Nat.div_one]
    rfl
  | p + 1, n + 1 => by
    rw [figs_pos h2 (by omega)]
    show (figs h ((n + 1) / h)).getD p 0 = _
    rw [figs_getD h2 p]
    unfold fig
    rw [Nat.div_div_eq_div_mul, ← Nat.pow_succ', ]
theorem figs_lt {h : Nat} (h2 : 2 ≤ h) : ∀ n : Nat, n < h ^ (figs h n).length := fun n => by
  induction n using Nat.strongRecOn with
  | ind n ih =>
    by_cases h0 : n = 0
    · subst h0
      rw [figs_zero]
      show 0 < 1
      omega
    · rw [figs_pos h2 (by omega), List.length_cons]
      have hd : n / h < n := Nat.div_lt_self (by omega) (by omega)
      have q := ih _ hd
      rw [Nat.pow_succ]
      exact (Nat.div_lt_iff_lt_mul (by omega)).mp q
theorem figs_len {h : Nat} (h2 : 2 ≤ h) : ∀ (L n : Nat), n < h ^ L → (figs h n).length ≤ L
  | L, 0, _ => Nat.zero_le _
  | 0, n + 1, hn => by simp at hn
  | L + 1, n + 1, hn => by
    rw [figs_pos h2 (by omega), List.length_cons]
    have q := figs_len h2 L ((n + 1) / h) ((Nat.div_lt_iff_lt_mul (by omega)).mpr (by rwa [← Nat.pow_succ]))
    omega
theorem figs_mono {h : Nat} (h2 : 2 ≤ h) {a b : Nat} (hab : a ≤ b) : (figs h a).length ≤ (figs h b).length := figs_len h2 _ _ (Nat.lt_of_le_of_lt hab (figs_lt h2 b))
theorem figs_ge {h : Nat} (h2 : 2 ≤ h) : ∀ n, 0 < n → h ^ ((figs h n).length - 1) ≤ n := fun n => by
  induction n using Nat.strongRecOn with
  | ind n ih =>
    intro h0
    rw [figs_pos h2 (by omega), List.length_cons, Nat.add_sub_cancel]
    have hd : n / h < n := Nat.div_lt_self (by omega) (by omega)
    by_cases hz : n / h = 0
    · rw [hz, figs_zero]
      exact h0
    · have hz' : 0 < n / h := Nat.pos_of_ne_zero hz
      have q := ih _ hd hz'
      have hp : 0 < (figs h (n / h)).length := by
        rw [figs_pos h2 hz', List.length_cons]
        omega
      obtain ⟨L, hL⟩ : ∃ L, (figs h (n / h)).length = L + 1 := ⟨(figs h (n / h)).length - 1, by omega⟩
      rw [hL] at q ⊢
      rw [Nat.pow_succ]
      exact (Nat.le_div_iff_mul_le (by omega)).mp q
section
variable {k h p : Nat} {rs : List Nat} {t : T}
theorem s_lfigs {n : Nat} (h2 : 2 ≤ h) (h3 : h ≤ 100) (hn : n ≤ 1000000) (hk : 0 < k) : (lev fs Bx k).call "_law_figures" [.fz (.int (n : Int)), .fz (.int (h : Int))] = .ok (.ol ((figs h n).map fun (i : Nat) => .int (i : Int))) [.fz (.int (n : Int)), .fz (.int (h : Int))] := by
  rw [lev_call (F := f__law_figures) rfl (by omega), run_fn rfl]
  have hL : (figs h n).length ≤ 20 := figs_len h2 20 n (Nat.lt_of_le_of_lt hn (Nat.lt_of_lt_of_le (by decide : 1000000 < 2 ^ 20) (Nat.pow_le_pow_left h2 20)))
  have lp : exS (lev fs Bx (k - 1)) (.whl (.cmp .Gt (.nm 0) (.int 0)) (.cons (.expr (.mu .append 2 (.cons (.bin .Mod (.bi .int (.cons (.nm 0) .nil)) (.nm 1)) .nil))) (.cons (.setF 0 (.bin .FloorDiv (.nm 0) (.nm 1))) .nil))) [some (.fz (.int (n : Int))), some (.fz (.int (h : Int))), some (.ol [])] = .ok .nx [some (.fz (.int 0)), some (.fz (.int (h : Int))), some (.ol ((figs h n).map fun (i : Nat) => .int (i : Int)))] := by
    rw [x_whl]
    have hf := lev_fuel (k - 1)
    refine while_wp (fun m ρ => ∃ (u : Nat) (l : List Nat), ρ = [some (.fz (.int (u : Int))), some (.fz (.int (h : Int))), some (.ol (l.map fun (i : Nat) => .int (i : Int)))] ∧ l ++ figs h u = figs h n ∧ m = (figs h u).length) (fun r => r = .ok .nx [some (.fz (.int 0)), some (.fz (.int (h : Int))), some (.ol ((figs h n).map fun (i : Nat) => .int (i : Int)))]) _ (figs h n).length _ (by omega) ⟨n, [], rfl, rfl, rfl⟩ ?_
    rintro m _ ⟨u, l, rfl, e, em⟩
    refine ⟨decide ((0 : Int) < u), [some (.fz (.int (u : Int))), some (.fz (.int (h : Int))), some (.ol (l.map fun (i : Nat) => .int (i : Int)))], by simp -implicitDefEqProofs only [e_nm, e_int, e_str, e_bl, e_non, e_glb, e_bin, e_neg, e_cmp, t_cmp, chn_if, e_chn, t_chn, e_and, e_or, t_and, t_or, e_not, t_not, e_ite, e_lst, e_tup, e_idx, e_slc, e_call, e_bi, e_rl1, e_rl2, e_isi, e_me, e_mu, e_lrv, e_lrr, lrv_l, e_dn, e_d1, e_dpr, e_dat, e_din, t_din, e_dge, odf_none, odf_some, t_dat, t_dge, t_slc, t_lcd, x_dst, i_rv, isOd, dstFin, Opd.dic, dOf, Option.isSome_some, Option.isSome_none, t_nm, t_bl, t_idx, t_call, t_bi, t_isi, t_lc, t_bin, ds_nil, ds_cons, os_nil, os_cons, oi_none, oi_some, c_none, c_some, i_op, as_nm, as_mv, x_nil, x_cons, sq_nx, sq_rt, sq_bk, sq_ct, x_set, x_setF, x_setT, x_par, x_sub, x_expr, x_ret, x_if, x_raise, x_pass, x_brk, x_cont, x_tryC, x_tryI, bind_ok, bind_exc, map_ok, map_exc, of_some, bind_ite, map_ite, endR_ite, dflT, asT, asD, frz, ofB, cmpB, takeSlot, moveSlot, slotT, Opd.see, sees, T.view, truthD, cmpD, eqD, scalD, binD, negD, isKd, callF, takeA, putA, startR, endR_rt, endR_nx, endR_exc, backs, evB, evT, evD, evO, List.map_cons, List.map_nil, List.length_cons, List.length_nil, List.cons_append, List.nil_append, List.append_nil, List.set_cons_zero, List.set_cons_succ, List.getElem?_cons_zero, List.getElem?_cons_succ, List.replicate_zero, List.replicate_succ, Option.join_some, Option.join_none, Option.bind_some, Option.bind_none, Option.map_some, Option.map_none, Nat.reduceAdd, Nat.reduceSub, Nat.sub_self, List.any_cons, List.any_nil, Bool.or_false, Bool.false_or, Bool.or_true, Bool.true_or, Bool.and_true, Bool.true_and, Bool.and_false, Bool.false_and, Bool.not_true, Bool.not_false, Bool.false_eq_true, reduceIte, reduceCtorEq, decide_eq_true_eq, Bool.not_eq_true', decide_eq_false_iff_not, sz_eq, Nat.reduceLeDiff, isOl, subFin, muFin, muD, setFin, setMany, parFin, bi_len, bi_lenT, bi_abs, bi_int, bi_list, bi_listT, bi_max2, bi_min2, Ss.sets, S.sets, Tg.is, List.mem_cons, List.not_mem_nil, or_false, or_true, false_or, true_or, List.mem_append, List.append_assoc, List.append_eq, ixL, ixT, scL, meTy, Option.getD_some, List.isEmpty_nil, List.isEmpty_cons], fun hb => ?_, fun hb => ?_⟩
    · have hu : u = 0 := by have := of_decide_eq_false hb; omega
      subst hu
      rw [figs_zero, List.append_nil] at e
      rw [e]
      rfl
    · have hu : 0 < u := by have := of_decide_eq_true hb; omega
      have z : (h : Int) ≠ 0 := by omega
      have e1 := fmod_nat u h
      have e2 := fdiv_nat u h
      have nb : (h : Int).natAbs < 1073741824 := by omega
      have sz : (l.map fun (i : Nat) => PyData.int (i : Int)).length < 16777216 := by
        rw [List.length_map]
        have := congrArg List.length e
        rw [List.length_append] at this
        omega
      have bd : exSs (lev fs Bx (k - 1)) (.cons (.expr (.mu .append 2 (.cons (.bin .Mod (.bi .int (.cons (.nm 0) .nil)) (.nm 1)) .nil))) (.cons (.setF 0 (.bin .FloorDiv (.nm 0) (.nm 1))) .nil)) [some (.fz (.int (u : Int))), some (.fz (.int (h : Int))), some (.ol (l.map fun (i : Nat) => .int (i : Int)))] = .ok .nx [some (.fz (.int ((u / h : Nat) : Int))), some (.fz (.int (h : Int))), some (.ol ((l ++ [u % h]).map fun (i : Nat) => .int (i : Int)))] := by
        simp -implicitDefEqProofs only [e_nm, e_int, e_str, e_bl, e_non, e_glb, e_bin, e_neg, e_cmp, t_cmp, chn_if, e_chn, t_chn, e_and, e_or, t_and, t_or, e_not, t_not, e_ite, e_lst, e_tup, e_idx, e_slc, e_call, e_bi, e_rl1, e_rl2, e_isi, e_me, e_mu, e_lrv, e_lrr, lrv_l, e_dn, e_d1, e_dpr, e_dat, e_din, t_din, e_dge, odf_none, odf_some, t_dat, t_dge, t_slc, t_lcd, x_dst, i_rv, isOd, dstFin, Opd.dic, dOf, Option.isSome_some, Option.isSome_none, t_nm, t_bl, t_idx, t_call, t_bi, t_isi, t_lc, t_bin, ds_nil, ds_cons, os_nil, os_cons, oi_none, oi_some, c_none, c_some, i_op, as_nm, as_mv, x_nil, x_cons, sq_nx, sq_rt, sq_bk, sq_ct, x_set, x_setF, x_setT, x_par, x_sub, x_expr, x_ret, x_if, x_raise, x_pass, x_brk, x_cont, x_tryC, x_tryI, bind_ok, bind_exc, map_ok, map_exc, of_some, bind_ite, map_ite, endR_ite, dflT, asT, asD, frz, ofB, cmpB, takeSlot, moveSlot, slotT, Opd.see, sees, T.view, truthD, cmpD, eqD, scalD, binD, negD, isKd, callF, takeA, putA, startR, endR_rt, endR_nx, endR_exc, backs, evB, evT, evD, evO, List.map_cons, List.map_nil, List.length_cons, List.length_nil, List.cons_append, List.nil_append, List.append_nil, List.set_cons_zero, List.set_cons_succ, List.getElem?_cons_zero, List.getElem?_cons_succ, List.replicate_zero, List.replicate_succ, Option.join_some, Option.join_none, Option.bind_some, Option.bind_none, Option.map_some, Option.map_none, Nat.reduceAdd, Nat.reduceSub, Nat.sub_self, List.any_cons, List.any_nil, Bool.or_false, Bool.false_or, Bool.or_true, Bool.true_or, Bool.and_true, Bool.true_and, Bool.and_false, Bool.false_and, Bool.not_true, Bool.not_false, Bool.false_eq_true, reduceIte, reduceCtorEq, decide_eq_true_eq, Bool.not_eq_true', decide_eq_false_iff_not, sz_eq, Nat.reduceLeDiff, isOl, subFin, muFin, muD, setFin, setMany, parFin, bi_len, bi_lenT, bi_abs, bi_int, bi_list, bi_listT, bi_max2, bi_min2, Ss.sets, S.sets, Tg.is, List.mem_cons, List.not_mem_nil, or_false, or_true, false_or, true_or, List.mem_append, List.append_assoc, List.append_eq, ixL, ixT, scL, meTy, Option.getD_some, List.isEmpty_nil, List.isEmpty_cons, z, e1, e2, nb, sz, ne_eq, not_false_eq_true, and_self, List.map_append]
      rw [bd]
      refine ⟨(figs h (u / h)).length, ?_, u / h, l ++ [u % h], rfl, ?_, rfl⟩
      · rw [em, figs_pos h2 hu, List.length_cons]
        omega
      · rw [← e, figs_pos h2 hu, List.append_assoc]
        rfl
  simp -implicitDefEqProofs only [f__law_figures, e_nm, e_int, e_str, e_bl, e_non, e_glb, e_bin, e_neg, e_cmp, t_cmp, chn_if, e_chn, t_chn, e_and, e_or, t_and, t_or, e_not, t_not, e_ite, e_lst, e_tup, e_idx, e_slc, e_call, e_bi, e_rl1, e_rl2, e_isi, e_me, e_mu, e_lrv, e_lrr, lrv_l, e_dn, e_d1, e_dpr, e_dat, e_din, t_din, e_dge, odf_none, odf_some, t_dat, t_dge, t_slc, t_lcd, x_dst, i_rv, isOd, dstFin, Opd.dic, dOf, Option.isSome_some, Option.isSome_none, t_nm, t_bl, t_idx, t_call, t_bi, t_isi, t_lc, t_bin, ds_nil, ds_cons, os_nil, os_cons, oi_none, oi_some, c_none, c_some, i_op, as_nm, as_mv, x_nil, x_cons, sq_nx, sq_rt, sq_bk, sq_ct, x_set, x_setF, x_setT, x_par, x_sub, x_expr, x_ret, x_if, x_raise, x_pass, x_brk, x_cont, x_tryC, x_tryI, bind_ok, bind_exc, map_ok, map_exc, of_some, bind_ite, map_ite, endR_ite, dflT, asT, asD, frz, ofB, cmpB, takeSlot, moveSlot, slotT, Opd.see, sees, T.view, truthD, cmpD, eqD, scalD, binD, negD, isKd, callF, takeA, putA, startR, endR_rt, endR_nx, endR_exc, backs, evB, evT, evD, evO, List.map_cons, List.map_nil, List.length_cons, List.length_nil, List.cons_append, List.nil_append, List.append_nil, List.set_cons_zero, List.set_cons_succ, List.getElem?_cons_zero, List.getElem?_cons_succ, List.replicate_zero, List.replicate_succ, Option.join_some, Option.join_none, Option.bind_some, Option.bind_none, Option.map_some, Option.map_none, Nat.reduceAdd, Nat.reduceSub, Nat.sub_self, List.any_cons, List.any_nil, Bool.or_false, Bool.false_or, Bool.or_true, Bool.true_or, Bool.and_true, Bool.true_and, Bool.and_false, Bool.false_and, Bool.not_true, Bool.not_false, Bool.false_eq_true, reduceIte, reduceCtorEq, decide_eq_true_eq, Bool.not_eq_true', decide_eq_false_iff_not, sz_eq, Nat.reduceLeDiff, isOl, subFin, muFin, muD, setFin, setMany, parFin, bi_len, bi_lenT, bi_abs, bi_int, bi_list, bi_listT, bi_max2, bi_min2, Ss.sets, S.sets, Tg.is, List.mem_cons, List.not_mem_nil, or_false, or_true, false_or, true_or, List.mem_append, List.append_assoc, List.append_eq, ixL, ixT, scL, meTy, Option.getD_some, List.isEmpty_nil, List.isEmpty_cons, lp]
theorem s_lfig {n : Nat} (h2 : 2 ≤ h) (h3 : h ≤ 100) (hn : n ≤ 1000000) (hk : 1 < k) : (lev fs Bx k).call "_law_figure" [.fz (.int (n : Int)), .fz (.int (p : Int)), .fz (.int (h : Int))] = .ok (.fz (.int (fig h p n : Nat))) [.fz (.int (n : Int)), .fz (.int (p : Int)), .fz (.int (h : Int))] := by
  rw [lev_call (F := f__law_figure) rfl (by omega), run_fn rfl]
  have c1 := s_lfigs (k := k - 1) h2 h3 hn (by omega)
  have g := figs_getD h2 p n
  by_cases hp : p < (figs h n).length
  · have d : decide ((p : Int) < ((figs h n).length : Int)) = true := decide_eq_true (by omega)
    have ai := atI_getD (l := figs h n) (i := p) 0 (fun (i : Nat) => PyData.int (i : Int)) hp
    rw [g] at ai
    simp -implicitDefEqProofs only [f__law_figure, e_nm, e_int, e_str, e_bl, e_non, e_glb, e_bin, e_neg, e_cmp, t_cmp, chn_if, e_chn, t_chn, e_and, e_or, t_and, t_or, e_not, t_not, e_ite, e_lst, e_tup, e_idx, e_slc, e_call, e_bi, e_rl1, e_rl2, e_isi, e_me, e_mu, e_lrv, e_lrr, lrv_l, e_dn, e_d1, e_dpr, e_dat, e_din, t_din, e_dge, odf_none, odf_some, t_dat, t_dge, t_slc, t_lcd, x_dst, i_rv, isOd, dstFin, Opd.dic, dOf, Option.isSome_some, Option.isSome_none, t_nm, t_bl, t_idx, t_call, t_bi, t_isi, t_lc, t_bin, ds_nil, ds_cons, os_nil, os_cons, oi_none, oi_some, c_none, c_some, i_op, as_nm, as_mv, x_nil, x_cons, sq_nx, sq_rt, sq_bk, sq_ct, x_set, x_setF, x_setT, x_par, x_sub, x_expr, x_ret, x_if, x_raise, x_pass, x_brk, x_cont, x_tryC, x_tryI, bind_ok, bind_exc, map_ok, map_exc, of_some, bind_ite, map_ite, endR_ite, dflT, asT, asD, frz, ofB, cmpB, takeSlot, moveSlot, slotT, Opd.see, sees, T.view, truthD, cmpD, eqD, scalD, binD, negD, isKd, callF, takeA, putA, startR, endR_rt, endR_nx, endR_exc, backs, evB, evT, evD, evO, List.map_cons, List.map_nil, List.length_cons, List.length_nil, List.cons_append, List.nil_append, List.append_nil, List.set_cons_zero, List.set_cons_succ, List.getElem?_cons_zero, List.getElem?_cons_succ, List.replicate_zero, List.replicate_succ, Option.join_some, Option.join_none, Option.bind_some, Option.bind_none, Option.map_some, Option.map_none, Nat.reduceAdd, Nat.reduceSub, Nat.sub_self, List.any_cons, List.any_nil, Bool.or_false, Bool.false_or, Bool.or_true, Bool.true_or, Bool.and_true, Bool.true_and, Bool.and_false, Bool.false_and, Bool.not_true, Bool.not_false, Bool.false_eq_true, reduceIte, reduceCtorEq, decide_eq_true_eq, Bool.not_eq_true', decide_eq_false_iff_not, sz_eq, Nat.reduceLeDiff, isOl, subFin, muFin, muD, setFin, setMany, parFin, bi_len, bi_lenT, bi_abs, bi_int, bi_list, bi_listT, bi_max2, bi_min2, Ss.sets, S.sets, Tg.is, List.mem_cons, List.not_mem_nil, or_false, or_true, false_or, true_or, List.mem_append, List.append_assoc, List.append_eq, ixL, ixT, scL, meTy, Option.getD_some, List.isEmpty_nil, List.isEmpty_cons, c1, List.length_map, d, ai]
  · have d : decide ((p : Int) < ((figs h n).length : Int)) = false := decide_eq_false (by omega)
    have z : fig h p n = 0 := by
      rw [← g, List.getD_eq_getElem?_getD, List.getElem?_eq_none (by omega)]
      rfl
    simp -implicitDefEqProofs only [f__law_figure, e_nm, e_int, e_str, e_bl, e_non, e_glb, e_bin, e_neg, e_cmp, t_cmp, chn_if, e_chn, t_chn, e_and, e_or, t_and, t_or, e_not, t_not, e_ite, e_lst, e_tup, e_idx, e_slc, e_call, e_bi, e_rl1, e_rl2, e_isi, e_me, e_mu, e_lrv, e_lrr, lrv_l, e_dn, e_d1, e_dpr, e_dat, e_din, t_din, e_dge, odf_none, odf_some, t_dat, t_dge, t_slc, t_lcd, x_dst, i_rv, isOd, dstFin, Opd.dic, dOf, Option.isSome_some, Option.isSome_none, t_nm, t_bl, t_idx, t_call, t_bi, t_isi, t_lc, t_bin, ds_nil, ds_cons, os_nil, os_cons, oi_none, oi_some, c_none, c_some, i_op, as_nm, as_mv, x_nil, x_cons, sq_nx, sq_rt, sq_bk, sq_ct, x_set, x_setF, x_setT, x_par, x_sub, x_expr, x_ret, x_if, x_raise, x_pass, x_brk, x_cont, x_tryC, x_tryI, bind_ok, bind_exc, map_ok, map_exc, of_some, bind_ite, map_ite, endR_ite, dflT, asT, asD, frz, ofB, cmpB, takeSlot, moveSlot, slotT, Opd.see, sees, T.view, truthD, cmpD, eqD, scalD, binD, negD, isKd, callF, takeA, putA, startR, endR_rt, endR_nx, endR_exc, backs, evB, evT, evD, evO, List.map_cons, List.map_nil, List.length_cons, List.length_nil, List.cons_append, List.nil_append, List.append_nil, List.set_cons_zero, List.set_cons_succ, List.getElem?_cons_zero, List.getElem?_cons_succ, List.replicate_zero, List.replicate_succ, Option.join_some, Option.join_none, Option.bind_some, Option.bind_none, Option.map_some, Option.map_none, Nat.reduceAdd, Nat.reduceSub, Nat.sub_self, List.any_cons, List.any_nil, Bool.or_false, Bool.false_or, Bool.or_true, Bool.true_or, Bool.and_true, Bool.true_and, Bool.and_false, Bool.false_and, Bool.not_true, Bool.not_false, Bool.false_eq_true, reduceIte, reduceCtorEq, decide_eq_true_eq, Bool.not_eq_true', decide_eq_false_iff_not, sz_eq, Nat.reduceLeDiff, isOl, subFin, muFin, muD, setFin, setMany, parFin, bi_len, bi_lenT, bi_abs, bi_int, bi_list, bi_listT, bi_max2, bi_min2, Ss.sets, S.sets, Tg.is, List.mem_cons, List.not_mem_nil, or_false, or_true, false_or, true_or, List.mem_append, List.append_assoc, List.append_eq, ixL, ixT, scL, meTy, Option.getD_some, List.isEmpty_nil, List.isEmpty_cons, c1, List.length_map, d, z]
    rfl
theorem s_pass (hv : t.view = some (nl rs)) (hr : Ls rs) (h2 : 2 ≤ h) (h3 : h ≤ 100) (hp : p ≤ 20) (hk : 4 < k) : (lev fs Bx k).call "passed" [t, .fz (.int (p : Int)), .fz (.int (h : Int))] = .ok (.ol ((pass h p rs).map fun (i : Nat) => .int (i : Int))) [t, .fz (.int (p : Int)), .fz (.int (h : Int))] := by
  have hr2 := hr.2
  rw [lev_call (F := f_passed) rfl (by omega), run_fn rfl]
  have e0 := x_setF1 (Φ := lev fs Bx (k - 1)) (f := "checked_letters") (i := 0) (j := 3) (t := t) (d := nl rs) (ρ := [some t, some (.fz (.int (p : Int))), some (.fz (.int (h : Int))), none, none, none, none]) rfl (s_letters hv hr (by omega)) rfl
  have q2 := s_holes (B := Bx) (k := k - 1) h2 h3 (by omega)
  have lp : ∃ o, exS (lev fs Bx (k - 1)) (.for_ (.one 5) (.rng1 (.call "checked_holes" (.cons (.nm 2) .nil) [])) (.cons (.expr (.mu .extend 4 (.cons (.lc (.one 6) [6] (.opd (.nm 3)) (.some (.cmp .Eq (.call "figure" (.cons (.nm 6) (.cons (.nm 1) (.cons (.nm 2) .nil))) []) (.nm 5))) (.nm 6)) .nil))) .nil)) [some t, some (.fz (.int (p : Int))), some (.fz (.int (h : Int))), some (.fz (nl rs)), some (.ol []), none, none] = .ok .nx [some t, some (.fz (.int (p : Int))), some (.fz (.int (h : Int))), some (.fz (nl rs)), some (.ol ((pass h p rs).map fun (i : Nat) => .int (i : Int))), o, none] := by
    refine for_r1p (n := h) (x := .tmp (.fz (.int (h : Int)))) (ρ1 := [some t, some (.fz (.int (p : Int))), some (.fz (.int (h : Int))), some (.fz (nl rs)), some (.ol []), none, none]) (fun i ρ => ∃ o, ρ = [some t, some (.fz (.int (p : Int))), some (.fz (.int (h : Int))), some (.fz (nl rs)), some (.ol (((List.range i).flatMap fun v => rs.filter fun n => decide (fig h p n = v)).map fun (i : Nat) => .int (i : Int))), o, none]) (fun f => ∃ o, f = .ok .nx [some t, some (.fz (.int (p : Int))), some (.fz (.int (h : Int))), some (.fz (nl rs)), some (.ol ((pass h p rs).map fun (i : Nat) => .int (i : Int))), o, none]) (by simp -implicitDefEqProofs only [e_nm, e_int, e_str, e_bl, e_non, e_glb, e_bin, e_neg, e_cmp, t_cmp, chn_if, e_chn, t_chn, e_and, e_or, t_and, t_or, e_not, t_not, e_ite, e_lst, e_tup, e_idx, e_slc, e_call, e_bi, e_rl1, e_rl2, e_isi, e_me, e_mu, e_lrv, e_lrr, lrv_l, e_dn, e_d1, e_dpr, e_dat, e_din, t_din, e_dge, odf_none, odf_some, t_dat, t_dge, t_slc, t_lcd, x_dst, i_rv, isOd, dstFin, Opd.dic, dOf, Option.isSome_some, Option.isSome_none, t_nm, t_bl, t_idx, t_call, t_bi, t_isi, t_lc, t_bin, ds_nil, ds_cons, os_nil, os_cons, oi_none, oi_some, c_none, c_some, i_op, as_nm, as_mv, x_nil, x_cons, sq_nx, sq_rt, sq_bk, sq_ct, x_set, x_setF, x_setT, x_par, x_sub, x_expr, x_ret, x_if, x_raise, x_pass, x_brk, x_cont, x_tryC, x_tryI, bind_ok, bind_exc, map_ok, map_exc, of_some, bind_ite, map_ite, endR_ite, dflT, asT, asD, frz, ofB, cmpB, takeSlot, moveSlot, slotT, Opd.see, sees, T.view, truthD, cmpD, eqD, scalD, binD, negD, isKd, callF, takeA, putA, startR, endR_rt, endR_nx, endR_exc, backs, evB, evT, evD, evO, List.map_cons, List.map_nil, List.length_cons, List.length_nil, List.cons_append, List.nil_append, List.append_nil, List.set_cons_zero, List.set_cons_succ, List.getElem?_cons_zero, List.getElem?_cons_succ, List.replicate_zero, List.replicate_succ, Option.join_some, Option.join_none, Option.bind_some, Option.bind_none, Option.map_some, Option.map_none, Nat.reduceAdd, Nat.reduceSub, Nat.sub_self, List.any_cons, List.any_nil, Bool.or_false, Bool.false_or, Bool.or_true, Bool.true_or, Bool.and_true, Bool.true_and, Bool.and_false, Bool.false_and, Bool.not_true, Bool.not_false, Bool.false_eq_true, reduceIte, reduceCtorEq, decide_eq_true_eq, Bool.not_eq_true', decide_eq_false_iff_not, sz_eq, Nat.reduceLeDiff, isOl, subFin, muFin, muD, setFin, setMany, parFin, bi_len, bi_lenT, bi_abs, bi_int, bi_list, bi_listT, bi_max2, bi_min2, Ss.sets, S.sets, Tg.is, List.mem_cons, List.not_mem_nil, or_false, or_true, false_or, true_or, List.mem_append, List.append_assoc, List.append_eq, ixL, ixT, scL, meTy, Option.getD_some, List.isEmpty_nil, List.isEmpty_cons, q2]) rfl (by omega) ⟨none, rfl⟩ ?_ ?_
    · rintro i _ hi ⟨o, rfl⟩
      have fl := (flat_perm (fig h p) rs i).length_eq
      have f1 := List.length_filter_le (fun n => decide (fig h p n < i)) rs
      have f2 := List.length_filter_le (fun n => decide (fig h p n = i)) rs
      have sz : (((List.range i).flatMap fun v => rs.filter fun n => decide (fig h p n = v)).map fun (i : Nat) => PyData.int (i : Int)).length + ((rs.filter fun n => decide (fig h p n = i)).map fun (i : Nat) => PyData.int (i : Int)).length ≤ 16777216 := by
        rw [List.length_map, List.length_map]
        omega
      have er : (((List.range i).flatMap fun v => rs.filter fun n => decide (fig h p n = v)).map fun (i : Nat) => PyData.int (i : Int)) ++ ((rs.filter fun n => decide (fig h p n = i)).map fun (i : Nat) => PyData.int (i : Int)) = ((List.range (i + 1)).flatMap fun v => rs.filter fun n => decide (fig h p n = v)).map fun (i : Nat) => PyData.int (i : Int) := by
        rw [List.range_succ, List.flatMap_append, List.flatMap_cons, List.flatMap_nil, List.append_nil, List.map_append]
      have bd : exSs (lev fs Bx (k - 1)) (.cons (.expr (.mu .extend 4 (.cons (.lc (.one 6) [6] (.opd (.nm 3)) (.some (.cmp .Eq (.call "figure" (.cons (.nm 6) (.cons (.nm 1) (.cons (.nm 2) .nil))) []) (.nm 5))) (.nm 6)) .nil))) .nil) ([some t, some (.fz (.int (p : Int))), some (.fz (.int (h : Int))), some (.fz (nl rs)), some (.ol (((List.range i).flatMap fun v => rs.filter fun n => decide (fig h p n = v)).map fun (i : Nat) => .int (i : Int))), o, none].set 5 (some (.fz (.int (i : Int))))) = .ok .nx [some t, some (.fz (.int (p : Int))), some (.fz (.int (h : Int))), some (.fz (nl rs)), some (.ol (((List.range (i + 1)).flatMap fun v => rs.filter fun n => decide (fig h p n = v)).map fun (i : Nat) => .int (i : Int))), some (.fz (.int (i : Int))), none] := by
        simp -implicitDefEqProofs only [e_nm, e_int, e_str, e_bl, e_non, e_glb, e_bin, e_neg, e_cmp, t_cmp, chn_if, e_chn, t_chn, e_and, e_or, t_and, t_or, e_not, t_not, e_ite, e_lst, e_tup, e_idx, e_slc, e_call, e_bi, e_rl1, e_rl2, e_isi, e_me, e_mu, e_lrv, e_lrr, lrv_l, e_dn, e_d1, e_dpr, e_dat, e_din, t_din, e_dge, odf_none, odf_some, t_dat, t_dge, t_slc, t_lcd, x_dst, i_rv, isOd, dstFin, Opd.dic, dOf, Option.isSome_some, Option.isSome_none, t_nm, t_bl, t_idx, t_call, t_bi, t_isi, t_lc, t_bin, ds_nil, ds_cons, os_nil, os_cons, oi_none, oi_some, c_none, c_some, i_op, as_nm, as_mv, x_nil, x_cons, sq_nx, sq_rt, sq_bk, sq_ct, x_set, x_setF, x_setT, x_par, x_sub, x_expr, x_ret, x_if, x_raise, x_pass, x_brk, x_cont, x_tryC, x_tryI, bind_ok, bind_exc, map_ok, map_exc, of_some, bind_ite, map_ite, endR_ite, dflT, asT, asD, frz, ofB, cmpB, takeSlot, moveSlot, slotT, Opd.see, sees, T.view, truthD, cmpD, eqD, scalD, binD, negD, isKd, callF, takeA, putA, startR, endR_rt, endR_nx, endR_exc, backs, evB, evT, evD, evO, List.map_cons, List.map_nil, List.length_cons, List.length_nil, List.cons_append, List.nil_append, List.append_nil, List.set_cons_zero, List.set_cons_succ, List.getElem?_cons_zero, List.getElem?_cons_succ, List.replicate_zero, List.replicate_succ, Option.join_some, Option.join_none, Option.bind_some, Option.bind_none, Option.map_some, Option.map_none, Nat.reduceAdd, Nat.reduceSub, Nat.sub_self, List.any_cons, List.any_nil, Bool.or_false, Bool.false_or, Bool.or_true, Bool.true_or, Bool.and_true, Bool.true_and, Bool.and_false, Bool.false_and, Bool.not_true, Bool.not_false, Bool.false_eq_true, reduceIte, reduceCtorEq, decide_eq_true_eq, Bool.not_eq_true', decide_eq_false_iff_not, sz_eq, Nat.reduceLeDiff, isOl, subFin, muFin, muD, setFin, setMany, parFin, bi_len, bi_lenT, bi_abs, bi_int, bi_list, bi_listT, bi_max2, bi_min2, Ss.sets, S.sets, Tg.is, List.mem_cons, List.not_mem_nil, or_false, or_true, false_or, true_or, List.mem_append, List.append_assoc, List.append_eq, ixL, ixT, scL, meTy, Option.getD_some, List.isEmpty_nil, List.isEmpty_cons]
        rw [lc_lm (k := false) (rs := rs) (g := fun (n : Nat) => PyData.int (n : Int)) (fun n => decide (fig h p n = i)) (fun (n : Nat) => PyData.int (n : Int)) ?xa1 ?xb1 ?xh1 ?xn1 ?xc1 ?xd1 ?xp1 ?xe1]
        case xa1 => rfl
        case xb1 => rfl
        case xh1 => rfl
        case xn1 => exact fun z => by cases z
        case xc1 => exact Nat.le_of_ble_eq_true rfl
        case xd1 => first | omega | exact Nat.le_of_ble_eq_true rfl
        case xp1 =>
          intro n hn
          have q := s_fig (B := Bx) (k := k - 1) (n := n) h2 h3 (hr.1 n hn) hp (by omega)
          have dd : decide (((fig h p n : Nat) : Int) = (i : Int)) = decide (fig h p n = i) := decide_eq_decide.mpr (by omega)
          simp -implicitDefEqProofs only [e_nm, e_int, e_str, e_bl, e_non, e_glb, e_bin, e_neg, e_cmp, t_cmp, chn_if, e_chn, t_chn, e_and, e_or, t_and, t_or, e_not, t_not, e_ite, e_lst, e_tup, e_idx, e_slc, e_call, e_bi, e_rl1, e_rl2, e_isi, e_me, e_mu, e_lrv, e_lrr, lrv_l, e_dn, e_d1, e_dpr, e_dat, e_din, t_din, e_dge, odf_none, odf_some, t_dat, t_dge, t_slc, t_lcd, x_dst, i_rv, isOd, dstFin, Opd.dic, dOf, Option.isSome_some, Option.isSome_none, t_nm, t_bl, t_idx, t_call, t_bi, t_isi, t_lc, t_bin, ds_nil, ds_cons, os_nil, os_cons, oi_none, oi_some, c_none, c_some, i_op, as_nm, as_mv, x_nil, x_cons, sq_nx, sq_rt, sq_bk, sq_ct, x_set, x_setF, x_setT, x_par, x_sub, x_expr, x_ret, x_if, x_raise, x_pass, x_brk, x_cont, x_tryC, x_tryI, bind_ok, bind_exc, map_ok, map_exc, of_some, bind_ite, map_ite, endR_ite, dflT, asT, asD, frz, ofB, cmpB, takeSlot, moveSlot, slotT, Opd.see, sees, T.view, truthD, cmpD, eqD, scalD, binD, negD, isKd, callF, takeA, putA, startR, endR_rt, endR_nx, endR_exc, backs, evB, evT, evD, evO, List.map_cons, List.map_nil, List.length_cons, List.length_nil, List.cons_append, List.nil_append, List.append_nil, List.set_cons_zero, List.set_cons_succ, List.getElem?_cons_zero, List.getElem?_cons_succ, List.replicate_zero, List.replicate_succ, Option.join_some, Option.join_none, Option.bind_some, Option.bind_none, Option.map_some, Option.map_none, Nat.reduceAdd, Nat.reduceSub, Nat.sub_self, List.any_cons, List.any_nil, Bool.or_false, Bool.false_or, Bool.or_true, Bool.true_or, Bool.and_true, Bool.true_and, Bool.and_false, Bool.false_and, Bool.not_true, Bool.not_false, Bool.false_eq_true, reduceIte, reduceCtorEq, decide_eq_true_eq, Bool.not_eq_true', decide_eq_false_iff_not, sz_eq, Nat.reduceLeDiff, isOl, subFin, muFin, muD, setFin, setMany, parFin, bi_len, bi_lenT, bi_abs, bi_int, bi_list, bi_listT, bi_max2, bi_min2, Ss.sets, S.sets, Tg.is, List.mem_cons, List.not_mem_nil, or_false, or_true, false_or, true_or, List.mem_append, List.append_assoc, List.append_eq, ixL, ixT, scL, meTy, Option.getD_some, List.isEmpty_nil, List.isEmpty_cons, q, eqv_int, dd]
        case xe1 =>
          intro n hn _
          simp -implicitDefEqProofs only [e_nm, e_int, e_str, e_bl, e_non, e_glb, e_bin, e_neg, e_cmp, t_cmp, chn_if, e_chn, t_chn, e_and, e_or, t_and, t_or, e_not, t_not, e_ite, e_lst, e_tup, e_idx, e_slc, e_call, e_bi, e_rl1, e_rl2, e_isi, e_me, e_mu, e_lrv, e_lrr, lrv_l, e_dn, e_d1, e_dpr, e_dat, e_din, t_din, e_dge, odf_none, odf_some, t_dat, t_dge, t_slc, t_lcd, x_dst, i_rv, isOd, dstFin, Opd.dic, dOf, Option.isSome_some, Option.isSome_none, t_nm, t_bl, t_idx, t_call, t_bi, t_isi, t_lc, t_bin, ds_nil, ds_cons, os_nil, os_cons, oi_none, oi_some, c_none, c_some, i_op, as_nm, as_mv, x_nil, x_cons, sq_nx, sq_rt, sq_bk, sq_ct, x_set, x_setF, x_setT, x_par, x_sub, x_expr, x_ret, x_if, x_raise, x_pass, x_brk, x_cont, x_tryC, x_tryI, bind_ok, bind_exc, map_ok, map_exc, of_some, bind_ite, map_ite, endR_ite, dflT, asT, asD, frz, ofB, cmpB, takeSlot, moveSlot, slotT, Opd.see, sees, T.view, truthD, cmpD, eqD, scalD, binD, negD, isKd, callF, takeA, putA, startR, endR_rt, endR_nx, endR_exc, backs, evB, evT, evD, evO, List.map_cons, List.map_nil, List.length_cons, List.length_nil, List.cons_append, List.nil_append, List.append_nil, List.set_cons_zero, List.set_cons_succ, List.getElem?_cons_zero, List.getElem?_cons_succ, List.replicate_zero, List.replicate_succ, Option.join_some, Option.join_none, Option.bind_some, Option.bind_none, Option.map_some, Option.map_none, Nat.reduceAdd, Nat.reduceSub, Nat.sub_self, List.any_cons, List.any_nil, Bool.or_false, Bool.false_or, Bool.or_true, Bool.true_or, Bool.and_true, Bool.true_and, Bool.and_false, Bool.false_and, Bool.not_true, Bool.not_false, Bool.false_eq_true, reduceIte, reduceCtorEq, decide_eq_true_eq, Bool.not_eq_true', decide_eq_false_iff_not, sz_eq, Nat.reduceLeDiff, isOl, subFin, muFin, muD, setFin, setMany, parFin, bi_len, bi_lenT, bi_abs, bi_int, bi_list, bi_listT, bi_max2, bi_min2, Ss.sets, S.sets, Tg.is, List.mem_cons, List.not_mem_nil, or_false, or_true, false_or, true_or, List.mem_append, List.append_assoc, List.append_eq, ixL, ixT, scL, meTy, Option.getD_some, List.isEmpty_nil, List.isEmpty_cons]
        simp -implicitDefEqProofs only [e_nm, e_int, e_str, e_bl, e_non, e_glb, e_bin, e_neg, e_cmp, t_cmp, chn_if, e_chn, t_chn, e_and, e_or, t_and, t_or, e_not, t_not, e_ite, e_lst, e_tup, e_idx, e_slc, e_call, e_bi, e_rl1, e_rl2, e_isi, e_me, e_mu, e_lrv, e_lrr, lrv_l, e_dn, e_d1, e_dpr, e_dat, e_din, t_din, e_dge, odf_none, odf_some, t_dat, t_dge, t_slc, t_lcd, x_dst, i_rv, isOd, dstFin, Opd.dic, dOf, Option.isSome_some, Option.isSome_none, t_nm, t_bl, t_idx, t_call, t_bi, t_isi, t_lc, t_bin, ds_nil, ds_cons, os_nil, os_cons, oi_none, oi_some, c_none, c_some, i_op, as_nm, as_mv, x_nil, x_cons, sq_nx, sq_rt, sq_bk, sq_ct, x_set, x_setF, x_setT, x_par, x_sub, x_expr, x_ret, x_if, x_raise, x_pass, x_brk, x_cont, x_tryC, x_tryI, bind_ok, bind_exc, map_ok, map_exc, of_some, bind_ite, map_ite, endR_ite, dflT, asT, asD, frz, ofB, cmpB, takeSlot, moveSlot, slotT, Opd.see, sees, T.view, truthD, cmpD, eqD, scalD, binD, negD, isKd, callF, takeA, putA, startR, endR_rt, endR_nx, endR_exc, backs, evB, evT, evD, evO, List.map_cons, List.map_nil, List.length_cons, List.length_nil, List.cons_append, List.nil_append, List.append_nil, List.set_cons_zero, List.set_cons_succ, List.getElem?_cons_zero, List.getElem?_cons_succ, List.replicate_zero, List.replicate_succ, Option.join_some, Option.join_none, Option.bind_some, Option.bind_none, Option.map_some, Option.map_none, Nat.reduceAdd, Nat.reduceSub, Nat.sub_self, List.any_cons, List.any_nil, Bool.or_false, Bool.false_or, Bool.or_true, Bool.true_or, Bool.and_true, Bool.true_and, Bool.and_false, Bool.false_and, Bool.not_true, Bool.not_false, Bool.false_eq_true, reduceIte, reduceCtorEq, decide_eq_true_eq, Bool.not_eq_true', decide_eq_false_iff_not, sz_eq, Nat.reduceLeDiff, isOl, subFin, muFin, muD, setFin, setMany, parFin, bi_len, bi_lenT, bi_abs, bi_int, bi_list, bi_listT, bi_max2, bi_min2, Ss.sets, S.sets, Tg.is, List.mem_cons, List.not_mem_nil, or_false, or_true, false_or, true_or, List.mem_append, List.append_assoc, List.append_eq, ixL, ixT, scL, meTy, Option.getD_some, List.isEmpty_nil, List.isEmpty_cons, sz, er]
      rw [bd]
      exact ⟨_, rfl⟩
    · rintro _ ⟨o, rfl⟩
      exact ⟨o, rfl⟩
  obtain ⟨o, lp⟩ := lp
  have run : exSs (lev fs Bx (k - 1)) f_passed.body (startR f_passed.N.length [t, .fz (.int (p : Int)), .fz (.int (h : Int))]) = .ok (.rt (.ol ((pass h p rs).map fun (i : Nat) => .int (i : Int)))) [some t, some (.fz (.int (p : Int))), some (.fz (.int (h : Int))), some (.fz (nl rs)), none, o, none] := by
    refine (seq_nx e0).trans ?_
    have e1 : exS (lev fs Bx (k - 1)) (.set 4 (.lst .nil)) [some t, some (.fz (.int (p : Int))), some (.fz (.int (h : Int))), some (.fz (nl rs)), none, none, none] = .ok .nx [some t, some (.fz (.int (p : Int))), some (.fz (.int (h : Int))), some (.fz (nl rs)), some (.ol []), none, none] := by
      simp -implicitDefEqProofs only [e_nm, e_int, e_str, e_bl, e_non, e_glb, e_bin, e_neg, e_cmp, t_cmp, chn_if, e_chn, t_chn, e_and, e_or, t_and, t_or, e_not, t_not, e_ite, e_lst, e_tup, e_idx, e_slc, e_call, e_bi, e_rl1, e_rl2, e_isi, e_me, e_mu, e_lrv, e_lrr, lrv_l, e_dn, e_d1, e_dpr, e_dat, e_din, t_din, e_dge, odf_none, odf_some, t_dat, t_dge, t_slc, t_lcd, x_dst, i_rv, isOd, dstFin, Opd.dic, dOf, Option.isSome_some, Option.isSome_none, t_nm, t_bl, t_idx, t_call, t_bi, t_isi, t_lc, t_bin, ds_nil, ds_cons, os_nil, os_cons, oi_none, oi_some, c_none, c_some, i_op, as_nm, as_mv, x_nil, x_cons, sq_nx, sq_rt, sq_bk, sq_ct, x_set, x_setF, x_setT, x_par, x_sub, x_expr, x_ret, x_if, x_raise, x_pass, x_brk, x_cont, x_tryC, x_tryI, bind_ok, bind_exc, map_ok, map_exc, of_some, bind_ite, map_ite, endR_ite, dflT, asT, asD, frz, ofB, cmpB, takeSlot, moveSlot, slotT, Opd.see, sees, T.view, truthD, cmpD, eqD, scalD, binD, negD, isKd, callF, takeA, putA, startR, endR_rt, endR_nx, endR_exc, backs, evB, evT, evD, evO, List.map_cons, List.map_nil, List.length_cons, List.length_nil, List.cons_append, List.nil_append, List.append_nil, List.set_cons_zero, List.set_cons_succ, List.getElem?_cons_zero, List.getElem?_cons_succ, List.replicate_zero, List.replicate_succ, Option.join_some, Option.join_none, Option.bind_some, Option.bind_none, Option.map_some, Option.map_none, Nat.reduceAdd, Nat.reduceSub, Nat.sub_self, List.any_cons, List.any_nil, Bool.or_false, Bool.false_or, Bool.or_true, Bool.true_or, Bool.and_true, Bool.true_and, Bool.and_false, Bool.false_and, Bool.not_true, Bool.not_false, Bool.false_eq_true, reduceIte, reduceCtorEq, decide_eq_true_eq, Bool.not_eq_true', decide_eq_false_iff_not, sz_eq, Nat.reduceLeDiff, isOl, subFin, muFin, muD, setFin, setMany, parFin, bi_len, bi_lenT, bi_abs, bi_int, bi_list, bi_listT, bi_max2, bi_min2, Ss.sets, S.sets, Tg.is, List.mem_cons, List.not_mem_nil, or_false, or_true, false_or, true_or, List.mem_append, List.append_assoc, List.append_eq, ixL, ixT, scL, meTy, Option.getD_some, List.isEmpty_nil, List.isEmpty_cons]
    refine (seq_nx e1).trans ((seq_nx lp).trans ?_)
    simp -implicitDefEqProofs only [e_nm, e_int, e_str, e_bl, e_non, e_glb, e_bin, e_neg, e_cmp, t_cmp, chn_if, e_chn, t_chn, e_and, e_or, t_and, t_or, e_not, t_not, e_ite, e_lst, e_tup, e_idx, e_slc, e_call, e_bi, e_rl1, e_rl2, e_isi, e_me, e_mu, e_lrv, e_lrr, lrv_l, e_dn, e_d1, e_dpr, e_dat, e_din, t_din, e_dge, odf_none, odf_some, t_dat, t_dge, t_slc, t_lcd, x_dst, i_rv, isOd, dstFin, Opd.dic, dOf, Option.isSome_some, Option.isSome_none, t_nm, t_bl, t_idx, t_call, t_bi, t_isi, t_lc, t_bin, ds_nil, ds_cons, os_nil, os_cons, oi_none, oi_some, c_none, c_some, i_op, as_nm, as_mv, x_nil, x_cons, sq_nx, sq_rt, sq_bk, sq_ct, x_set, x_setF, x_setT, x_par, x_sub, x_expr, x_ret, x_if, x_raise, x_pass, x_brk, x_cont, x_tryC, x_tryI, bind_ok, bind_exc, map_ok, map_exc, of_some, bind_ite, map_ite, endR_ite, dflT, asT, asD, frz, ofB, cmpB, takeSlot, moveSlot, slotT, Opd.see, sees, T.view, truthD, cmpD, eqD, scalD, binD, negD, isKd, callF, takeA, putA, startR, endR_rt, endR_nx, endR_exc, backs, evB, evT, evD, evO, List.map_cons, List.map_nil, List.length_cons, List.length_nil, List.cons_append, List.nil_append, List.append_nil, List.set_cons_zero, List.set_cons_succ, List.getElem?_cons_zero, List.getElem?_cons_succ, List.replicate_zero, List.replicate_succ, Option.join_some, Option.join_none, Option.bind_some, Option.bind_none, Option.map_some, Option.map_none, Nat.reduceAdd, Nat.reduceSub, Nat.sub_self, List.any_cons, List.any_nil, Bool.or_false, Bool.false_or, Bool.or_true, Bool.true_or, Bool.and_true, Bool.true_and, Bool.and_false, Bool.false_and, Bool.not_true, Bool.not_false, Bool.false_eq_true, reduceIte, reduceCtorEq, decide_eq_true_eq, Bool.not_eq_true', decide_eq_false_iff_not, sz_eq, Nat.reduceLeDiff, isOl, subFin, muFin, muD, setFin, setMany, parFin, bi_len, bi_lenT, bi_abs, bi_int, bi_list, bi_listT, bi_max2, bi_min2, Ss.sets, S.sets, Tg.is, List.mem_cons, List.not_mem_nil, or_false, or_true, false_or, true_or, List.mem_append, List.append_assoc, List.append_eq, ixL, ixT, scL, meTy, Option.getD_some, List.isEmpty_nil, List.isEmpty_cons]
  exact (congrArg _ run).trans (endR_g3 rfl (by decide))
end
end L2.Eng.K65

namespace L2.Eng.K65
open PySem
/-! ### the plain law -/
theorem psn_sorted {h : Nat} (h1 : 1 ≤ h) (rs : List Nat) : ∀ p, (psn h rs p).Pairwise fun a b => a % h ^ p ≤ b % h ^ p
  | 0 => List.pairwise_iff_getElem.mpr fun i j _ _ _ => by rw [Nat.pow_zero, Nat.mod_one, Nat.mod_one]; exact Nat.le_refl _
  | p + 1 => by
    have ih := psn_sorted h1 rs p
    have hp : 0 < h ^ p := Nat.pow_pos h1
    show (pass h p (psn h rs p)).Pairwise _
    unfold pass
    rw [List.pairwise_flatMap]
    refine ⟨fun v _ => ?_, List.Pairwise.imp ?_ List.pairwise_lt_range⟩
    · refine (List.Pairwise.filter _ ih).imp_of_mem ?_
      intro a b ha hb hab
      have ea : a / h ^ p % h = v := of_decide_eq_true (List.mem_filter.mp ha).2
      have eb : b / h ^ p % h = v := of_decide_eq_true (List.mem_filter.mp hb).2
      rw [Nat.mod_pow_succ, Nat.mod_pow_succ, ea, eb]
      omega
    · intro v w hvw a ha b hb
      have ea : a / h ^ p % h = v := of_decide_eq_true (List.mem_filter.mp ha).2
      have eb : b / h ^ p % h = w := of_decide_eq_true (List.mem_filter.mp hb).2
      rw [Nat.mod_pow_succ, Nat.mod_pow_succ, ea, eb]
      have l1 := Nat.mod_lt a hp
      have l2 : h ^ p * (v + 1) ≤ h ^ p * w := Nat.mul_le_mul_left _ hvw
      rw [Nat.mul_add, Nat.mul_one] at l2
      generalize b % h ^ p = bb
      generalize a % h ^ p = aa at l1 ⊢
      omega
theorem psn_top {h L : Nat} (h1 : 1 ≤ h) {rs : List Nat} (hr : ∀ n ∈ rs, n < h ^ L) : (psn h rs L).Pairwise (· ≤ ·) := by
  refine (psn_sorted h1 rs L).imp_of_mem ?_
  intro a b ha hb hab
  rwa [Nat.mod_eq_of_lt (hr a ((psn_perm h1 rs L).mem_iff.mp ha)), Nat.mod_eq_of_lt (hr b ((psn_perm h1 rs L).mem_iff.mp hb))] at hab
theorem pass_flat {h p : Nat} (h1 : 1 ≤ h) {l : List Nat} (hz : ∀ n ∈ l, fig h p n = 0) : pass h p l = l := by
  unfold pass
  obtain ⟨g, rfl⟩ : ∃ g, h = g + 1 := ⟨h - 1, by omega⟩
  rw [List.range_succ_eq_map, List.flatMap_cons]
  have e1 : (l.filter fun n => decide (fig (g + 1) p n = 0)) = l := List.filter_eq_self.mpr fun n hn => decide_eq_true (hz n hn)
  have e2 : ((List.range g).map Nat.succ).flatMap (fun v => l.filter fun n => decide (fig (g + 1) p n = v)) = [] := by
    rw [List.flatMap_eq_nil_iff]
    intro v hv
    obtain ⟨w, _, rfl⟩ := List.mem_map.mp hv
    rw [List.filter_eq_nil_iff]
    intro n hn z
    have := hz n hn
    have := of_decide_eq_true z
    omega
  rw [e1, e2, List.append_nil]
theorem psn_flat {h m : Nat} (h2 : 2 ≤ h) : ∀ {p : Nat}, p ≤ m → psn h [h ^ m, 0] p = [h ^ m, 0]
  | 0, _ => rfl
  | p + 1, hp => by
    show pass h p (psn h [h ^ m, 0] p) = _
    rw [psn_flat h2 (by omega)]
    refine pass_flat (by omega) fun n hn => ?_
    simp only [List.mem_cons, List.not_mem_nil, or_false] at hn
    rcases hn with rfl | rfl
    · unfold fig
      rw [Nat.pow_div (by omega) (by omega)]
      obtain ⟨d, hd⟩ : ∃ d, m - p = d + 1 := ⟨m - p - 1, by omega⟩
      rw [hd, Nat.pow_succ]
      simp
    · unfold fig
      simp
/-- the greatest number -/
def tpn (rs : List Nat) : Nat := (lmax (0 :: rs.map fun (n : Nat) => (n : Int))).toNat
theorem top_int (rs : List Nat) : lmax (0 :: rs.map fun (n : Nat) => (n : Int)) = (tpn rs : Int) := by
  have := lmax_le (l := 0 :: rs.map fun (n : Nat) => (n : Int)) (x := 0) (List.mem_cons_self ..)
  unfold tpn
  omega
theorem top_le {rs : List Nat} {n : Nat} (hn : n ∈ rs) : n ≤ tpn rs := by
  have := lmax_le (l := 0 :: rs.map fun (n : Nat) => (n : Int)) (x := (n : Int)) (List.mem_cons_of_mem _ (List.mem_map.mpr ⟨n, hn, rfl⟩))
  rw [top_int] at this
  omega
theorem top_mem (rs : List Nat) : tpn rs = 0 ∨ tpn rs ∈ rs := by
  have := lmax_mem (l := 0 :: rs.map fun (n : Nat) => (n : Int)) (by simp)
  rw [top_int] at this
  rcases List.mem_cons.mp this with h | h
  · exact .inl (by omega)
  · obtain ⟨n, hn, e⟩ := List.mem_map.mp h
    have : tpn rs = n := by omega
    exact .inr (by rw [this]; exact hn)
theorem lmax_is {l : List Int} {x : Int} (h1 : x ∈ l) (h2 : ∀ y ∈ l, y ≤ x) : lmax l = x := by
  have a := h2 _ (lmax_mem (l := l) (fun z => by rw [z] at h1; cases h1))
  have b := lmax_le h1
  omega
theorem len_top {h : Nat} (h2 : 2 ≤ h) (rs : List Nat) : lmax (0 :: rs.map fun (n : Nat) => (((figs h n).length : Nat) : Int)) = ((figs h (tpn rs)).length : Int) := by
  refine lmax_is ?_ fun y hy => ?_
  · rcases top_mem rs with e | e
    · rw [e, figs_zero]
      exact List.mem_cons_self ..
    · exact List.mem_cons_of_mem _ (List.mem_map.mpr ⟨_, e, rfl⟩)
  · rcases List.mem_cons.mp hy with rfl | hy
    · omega
    · obtain ⟨n, hn, rfl⟩ := List.mem_map.mp hy
      have := figs_mono h2 (top_le hn)
      omega
theorem sort_nat {rs l : List Nat} (hp : rs.Perm l) (hs : l.Pairwise (· ≤ ·)) (hn : rs.length ≤ 1000) : biD .sorted [nl rs] = some (.ol (l.map fun (n : Nat) => PyData.int (n : Int))) := by
  have tl := PySem.W.sortLe_total (PyProof.Rows.listOrd PyProof.Rows.itemOrd) false fun b : PyData => PySem.W.keyToks (id b)
  have e : (rs.map fun (n : Nat) => PyData.int (n : Int)).mergeSort (PySem.W.dataLe false id) = l.map fun (n : Nat) => PyData.int (n : Int) := by
    refine List.Perm.eq_of_pairwise (le := fun a b => PySem.W.dataLe false id a b = true) ?_ (List.pairwise_mergeSort (fun a b c => tl.trans a b c) (fun a b => (Bool.or_eq_true _ _).mpr (tl.total a b)) _) ?_ ((List.mergeSort_perm _ _).trans (hp.map _))
    · intro a b ha hb x1 x2
      have ha := (List.mergeSort_perm _ _).mem_iff.mp ha
      obtain ⟨x, _, rfl⟩ := List.mem_map.mp ha
      obtain ⟨y, _, rfl⟩ := List.mem_map.mp hb
      rw [le_int, decide_eq_true_eq] at x1 x2
      rw [show x = y by omega]
    · refine List.Pairwise.map _ (fun a b (q : a ≤ b) => ?_) hs
      rw [le_int]
      exact decide_eq_true (by omega)
  have c1 : ((rs.map fun (n : Nat) => PyData.int (n : Int)).all fun d => decide (d.depth ≤ 64)) = true := by
    rw [List.all_eq_true]
    intro d hd
    obtain ⟨x, _, rfl⟩ := List.mem_map.mp hd
    rfl
  have c2 : ((rs.map fun (n : Nat) => PyData.int (n : Int)).all fun d => match d with | .none => false | .tuple _ => false | _ => true) = true := by
    rw [List.all_eq_true]
    intro d hd
    obtain ⟨x, _, rfl⟩ := List.mem_map.mp hd
    rfl
  have c3 : ((rs.map fun (n : Nat) => PyData.int (n : Int)).all fun d => (rs.map fun (n : Nat) => PyData.int (n : Int)).all fun e => PySem.W.alike d e) = true := by
    rw [List.all_eq_true]
    intro d hd
    rw [List.all_eq_true]
    intro e he
    obtain ⟨x, _, rfl⟩ := List.mem_map.mp hd
    obtain ⟨y, _, rfl⟩ := List.mem_map.mp he
    rfl
  show (sortD (rs.map fun (n : Nat) => PyData.int (n : Int))).map T.ol = _
  unfold sortD
  rw [if_pos ⟨by rw [List.length_map, sz_eq]; omega, c3, c1, .inr c2⟩, e]
  rfl
end L2.Eng.K65

namespace L2.Eng.K65
open PySem
def psl (h : Nat) (rs : List Nat) (m : Nat) : List D := (List.range m).map fun p => nl (psn h rs (p + 1))
/-- where letters fall -/
def fls (rs : List Nat) : List D := ((List.range ((rs.length : Int) - 1).toNat).filter fun i => decide (rs.getD (i + 1) 0 < rs.getD i 0)).map fun (i : Nat) => .int (1 + (i : Int))
section
variable {k h p m : Nat} {rs : List Nat} {t : T}
theorem s_passes (hv : t.view = some (nl rs)) (hr : Ls rs) (h2 : 2 ≤ h) (h3 : h ≤ 100) (hm : m ≤ 20) (hk : 5 < k) : (lev fs Bx k).call "passes" [t, .fz (.int (m : Int)), .fz (.int (h : Int))] = .ok (.ol (psl h rs m)) [t, .fz (.int (m : Int)), .fz (.int (h : Int))] := by
  have hr2 := hr.2
  rw [lev_call (F := f_passes) rfl (by omega), run_fn rfl]
  have e0 := x_setF1 (Φ := lev fs Bx (k - 1)) (f := "checked_letters") (i := 0) (j := 3) (t := t) (d := nl rs) (ρ := [some t, some (.fz (.int (m : Int))), some (.fz (.int (h : Int))), none, none, none]) rfl (s_letters hv hr (by omega)) rfl
  have q2 := s_holes (B := Bx) (k := k - 1) h2 h3 (by omega)
  have q3 := s_num (B := Bx) (k := k - 1) (a := (m : Int)) (lo := 0) (hi := 20) (by omega) (by omega) (by omega)
  have lp : ∃ o, exS (lev fs Bx (k - 1)) (.for_ (.one 5) (.rng1 (.nm 1)) (.cons (.setF 3 (.call "passed" (.cons (.nm 3) (.cons (.nm 5) (.cons (.nm 2) .nil))) [])) (.cons (.expr (.mu .append 4 (.cons (.nm 3) .nil))) .nil))) [some t, some (.fz (.int (m : Int))), some (.fz (.int (h : Int))), some (.fz (nl rs)), some (.ol []), none] = .ok .nx [some t, some (.fz (.int (m : Int))), some (.fz (.int (h : Int))), some (.fz (nl (psn h rs m))), some (.ol (psl h rs m)), o] := by
    refine for_r1p (n := m) (x := .sl 1) (ρ1 := [some t, some (.fz (.int (m : Int))), some (.fz (.int (h : Int))), some (.fz (nl rs)), some (.ol []), none]) (fun i ρ => ∃ o, ρ = [some t, some (.fz (.int (m : Int))), some (.fz (.int (h : Int))), some (.fz (nl (psn h rs i))), some (.ol (psl h rs i)), o]) (fun f => ∃ o, f = .ok .nx [some t, some (.fz (.int (m : Int))), some (.fz (.int (h : Int))), some (.fz (nl (psn h rs m))), some (.ol (psl h rs m)), o]) rfl rfl (by omega) ⟨none, rfl⟩ ?_ ?_
    · rintro i _ hi ⟨o, rfl⟩
      have q := s_pass (k := k - 1) (t := .fz (nl (psn h rs i))) (rs := psn h rs i) (p := i) rfl (psn_ls (by omega) hr i) h2 h3 (by omega) (by omega)
      have ep : pass h i (psn h rs i) = psn h rs (i + 1) := rfl
      rw [ep] at q
      have sz : (psl h rs i).length < 16777216 := by
        unfold psl
        rw [List.length_map, List.length_range]
        omega
      have es : psl h rs i ++ [nl (psn h rs (i + 1))] = psl h rs (i + 1) := by
        unfold psl
        rw [List.range_succ, List.map_append]
        rfl
      have bd : exSs (lev fs Bx (k - 1)) (.cons (.setF 3 (.call "passed" (.cons (.nm 3) (.cons (.nm 5) (.cons (.nm 2) .nil))) [])) (.cons (.expr (.mu .append 4 (.cons (.nm 3) .nil))) .nil)) ([some t, some (.fz (.int (m : Int))), some (.fz (.int (h : Int))), some (.fz (nl (psn h rs i))), some (.ol (psl h rs i)), o].set 5 (some (.fz (.int (i : Int))))) = .ok .nx [some t, some (.fz (.int (m : Int))), some (.fz (.int (h : Int))), some (.fz (nl (psn h rs (i + 1)))), some (.ol (psl h rs (i + 1))), some (.fz (.int (i : Int)))] := by
        simp -implicitDefEqProofs only [e_nm, e_int, e_str, e_bl, e_non, e_glb, e_bin, e_neg, e_cmp, t_cmp, chn_if, e_chn, t_chn, e_and, e_or, t_and, t_or, e_not, t_not, e_ite, e_lst, e_tup, e_idx, e_slc, e_call, e_bi, e_rl1, e_rl2, e_isi, e_me, e_mu, e_lrv, e_lrr, lrv_l, e_dn, e_d1, e_dpr, e_dat, e_din, t_din, e_dge, odf_none, odf_some, t_dat, t_dge, t_slc, t_lcd, x_dst, i_rv, isOd, dstFin, Opd.dic, dOf, Option.isSome_some, Option.isSome_none, t_nm, t_bl, t_idx, t_call, t_bi, t_isi, t_lc, t_bin, ds_nil, ds_cons, os_nil, os_cons, oi_none, oi_some, c_none, c_some, i_op, as_nm, as_mv, x_nil, x_cons, sq_nx, sq_rt, sq_bk, sq_ct, x_set, x_setF, x_setT, x_par, x_sub, x_expr, x_ret, x_if, x_raise, x_pass, x_brk, x_cont, x_tryC, x_tryI, bind_ok, bind_exc, map_ok, map_exc, of_some, bind_ite, map_ite, endR_ite, dflT, asT, asD, frz, ofB, cmpB, takeSlot, moveSlot, slotT, Opd.see, sees, T.view, truthD, cmpD, eqD, scalD, binD, negD, isKd, callF, takeA, putA, startR, endR_rt, endR_nx, endR_exc, backs, evB, evT, evD, evO, List.map_cons, List.map_nil, List.length_cons, List.length_nil, List.cons_append, List.nil_append, List.append_nil, List.set_cons_zero, List.set_cons_succ, List.getElem?_cons_zero, List.getElem?_cons_succ, List.replicate_zero, List.replicate_succ, Option.join_some, Option.join_none, Option.bind_some, Option.bind_none, Option.map_some, Option.map_none, Nat.reduceAdd, Nat.reduceSub, Nat.sub_self, List.any_cons, List.any_nil, Bool.or_false, Bool.false_or, Bool.or_true, Bool.true_or, Bool.and_true, Bool.true_and, Bool.and_false, Bool.false_and, Bool.not_true, Bool.not_false, Bool.false_eq_true, reduceIte, reduceCtorEq, decide_eq_true_eq, Bool.not_eq_true', decide_eq_false_iff_not, sz_eq, Nat.reduceLeDiff, isOl, subFin, muFin, muD, setFin, setMany, parFin, bi_len, bi_lenT, bi_abs, bi_int, bi_list, bi_listT, bi_max2, bi_min2, Ss.sets, S.sets, Tg.is, List.mem_cons, List.not_mem_nil, or_false, or_true, false_or, true_or, List.mem_append, List.append_assoc, List.append_eq, ixL, ixT, scL, meTy, Option.getD_some, List.isEmpty_nil, List.isEmpty_cons, q, sz, es]
      rw [bd]
      exact ⟨_, rfl⟩
    · rintro _ ⟨o, rfl⟩
      exact ⟨o, rfl⟩
  obtain ⟨o, lp⟩ := lp
  have run : exSs (lev fs Bx (k - 1)) f_passes.body (startR f_passes.N.length [t, .fz (.int (m : Int)), .fz (.int (h : Int))]) = .ok (.rt (.ol (psl h rs m))) [some t, some (.fz (.int (m : Int))), some (.fz (.int (h : Int))), some (.fz (nl (psn h rs m))), none, o] := by
    refine (seq_nx e0).trans ?_
    have e1 : exS (lev fs Bx (k - 1)) (.expr (.call "checked_holes" (.cons (.nm 2) .nil) [])) [some t, some (.fz (.int (m : Int))), some (.fz (.int (h : Int))), some (.fz (nl rs)), none, none] = .ok .nx [some t, some (.fz (.int (m : Int))), some (.fz (.int (h : Int))), some (.fz (nl rs)), none, none] := by
      simp -implicitDefEqProofs only [e_nm, e_int, e_str, e_bl, e_non, e_glb, e_bin, e_neg, e_cmp, t_cmp, chn_if, e_chn, t_chn, e_and, e_or, t_and, t_or, e_not, t_not, e_ite, e_lst, e_tup, e_idx, e_slc, e_call, e_bi, e_rl1, e_rl2, e_isi, e_me, e_mu, e_lrv, e_lrr, lrv_l, e_dn, e_d1, e_dpr, e_dat, e_din, t_din, e_dge, odf_none, odf_some, t_dat, t_dge, t_slc, t_lcd, x_dst, i_rv, isOd, dstFin, Opd.dic, dOf, Option.isSome_some, Option.isSome_none, t_nm, t_bl, t_idx, t_call, t_bi, t_isi, t_lc, t_bin, ds_nil, ds_cons, os_nil, os_cons, oi_none, oi_some, c_none, c_some, i_op, as_nm, as_mv, x_nil, x_cons, sq_nx, sq_rt, sq_bk, sq_ct, x_set, x_setF, x_setT, x_par, x_sub, x_expr, x_ret, x_if, x_raise, x_pass, x_brk, x_cont, x_tryC, x_tryI, bind_ok, bind_exc, map_ok, map_exc, of_some, bind_ite, map_ite, endR_ite, dflT, asT, asD, frz, ofB, cmpB, takeSlot, moveSlot, slotT, Opd.see, sees, T.view, truthD, cmpD, eqD, scalD, binD, negD, isKd, callF, takeA, putA, startR, endR_rt, endR_nx, endR_exc, backs, evB, evT, evD, evO, List.map_cons, List.map_nil, List.length_cons, List.length_nil, List.cons_append, List.nil_append, List.append_nil, List.set_cons_zero, List.set_cons_succ, List.getElem?_cons_zero, List.getElem?_cons_succ, List.replicate_zero, List.replicate_succ, Option.join_some, Option.join_none, Option.bind_some, Option.bind_none, Option.map_some, Option.map_none, Nat.reduceAdd, Nat.reduceSub, Nat.sub_self, List.any_cons, List.any_nil, Bool.or_false, Bool.false_or, Bool.or_true, Bool.true_or, Bool.and_true, Bool.true_and, Bool.and_false, Bool.false_and, Bool.not_true, Bool.not_false, Bool.false_eq_true, reduceIte, reduceCtorEq, decide_eq_true_eq, Bool.not_eq_true', decide_eq_false_iff_not, sz_eq, Nat.reduceLeDiff, isOl, subFin, muFin, muD, setFin, setMany, parFin, bi_len, bi_lenT, bi_abs, bi_int, bi_list, bi_listT, bi_max2, bi_min2, Ss.sets, S.sets, Tg.is, List.mem_cons, List.not_mem_nil, or_false, or_true, false_or, true_or, List.mem_append, List.append_assoc, List.append_eq, ixL, ixT, scL, meTy, Option.getD_some, List.isEmpty_nil, List.isEmpty_cons, q2]
    have e2 : exS (lev fs Bx (k - 1)) (.expr (.call "checked_number" (.cons (.nm 1) (.cons (.int 0) (.cons (.int 20) .nil))) [])) [some t, some (.fz (.int (m : Int))), some (.fz (.int (h : Int))), some (.fz (nl rs)), none, none] = .ok .nx [some t, some (.fz (.int (m : Int))), some (.fz (.int (h : Int))), some (.fz (nl rs)), none, none] := by
      simp -implicitDefEqProofs only [e_nm, e_int, e_str, e_bl, e_non, e_glb, e_bin, e_neg, e_cmp, t_cmp, chn_if, e_chn, t_chn, e_and, e_or, t_and, t_or, e_not, t_not, e_ite, e_lst, e_tup, e_idx, e_slc, e_call, e_bi, e_rl1, e_rl2, e_isi, e_me, e_mu, e_lrv, e_lrr, lrv_l, e_dn, e_d1, e_dpr, e_dat, e_din, t_din, e_dge, odf_none, odf_some, t_dat, t_dge, t_slc, t_lcd, x_dst, i_rv, isOd, dstFin, Opd.dic, dOf, Option.isSome_some, Option.isSome_none, t_nm, t_bl, t_idx, t_call, t_bi, t_isi, t_lc, t_bin, ds_nil, ds_cons, os_nil, os_cons, oi_none, oi_some, c_none, c_some, i_op, as_nm, as_mv, x_nil, x_cons, sq_nx, sq_rt, sq_bk, sq_ct, x_set, x_setF, x_setT, x_par, x_sub, x_expr, x_ret, x_if, x_raise, x_pass, x_brk, x_cont, x_tryC, x_tryI, bind_ok, bind_exc, map_ok, map_exc, of_some, bind_ite, map_ite, endR_ite, dflT, asT, asD, frz, ofB, cmpB, takeSlot, moveSlot, slotT, Opd.see, sees, T.view, truthD, cmpD, eqD, scalD, binD, negD, isKd, callF, takeA, putA, startR, endR_rt, endR_nx, endR_exc, backs, evB, evT, evD, evO, List.map_cons, List.map_nil, List.length_cons, List.length_nil, List.cons_append, List.nil_append, List.append_nil, List.set_cons_zero, List.set_cons_succ, List.getElem?_cons_zero, List.getElem?_cons_succ, List.replicate_zero, List.replicate_succ, Option.join_some, Option.join_none, Option.bind_some, Option.bind_none, Option.map_some, Option.map_none, Nat.reduceAdd, Nat.reduceSub, Nat.sub_self, List.any_cons, List.any_nil, Bool.or_false, Bool.false_or, Bool.or_true, Bool.true_or, Bool.and_true, Bool.true_and, Bool.and_false, Bool.false_and, Bool.not_true, Bool.not_false, Bool.false_eq_true, reduceIte, reduceCtorEq, decide_eq_true_eq, Bool.not_eq_true', decide_eq_false_iff_not, sz_eq, Nat.reduceLeDiff, isOl, subFin, muFin, muD, setFin, setMany, parFin, bi_len, bi_lenT, bi_abs, bi_int, bi_list, bi_listT, bi_max2, bi_min2, Ss.sets, S.sets, Tg.is, List.mem_cons, List.not_mem_nil, or_false, or_true, false_or, true_or, List.mem_append, List.append_assoc, List.append_eq, ixL, ixT, scL, meTy, Option.getD_some, List.isEmpty_nil, List.isEmpty_cons, q3]
    have e3 : exS (lev fs Bx (k - 1)) (.set 4 (.lst .nil)) [some t, some (.fz (.int (m : Int))), some (.fz (.int (h : Int))), some (.fz (nl rs)), none, none] = .ok .nx [some t, some (.fz (.int (m : Int))), some (.fz (.int (h : Int))), some (.fz (nl rs)), some (.ol []), none] := by
      simp -implicitDefEqProofs only [e_nm, e_int, e_str, e_bl, e_non, e_glb, e_bin, e_neg, e_cmp, t_cmp, chn_if, e_chn, t_chn, e_and, e_or, t_and, t_or, e_not, t_not, e_ite, e_lst, e_tup, e_idx, e_slc, e_call, e_bi, e_rl1, e_rl2, e_isi, e_me, e_mu, e_lrv, e_lrr, lrv_l, e_dn, e_d1, e_dpr, e_dat, e_din, t_din, e_dge, odf_none, odf_some, t_dat, t_dge, t_slc, t_lcd, x_dst, i_rv, isOd, dstFin, Opd.dic, dOf, Option.isSome_some, Option.isSome_none, t_nm, t_bl, t_idx, t_call, t_bi, t_isi, t_lc, t_bin, ds_nil, ds_cons, os_nil, os_cons, oi_none, oi_some, c_none, c_some, i_op, as_nm, as_mv, x_nil, x_cons, sq_nx, sq_rt, sq_bk, sq_ct, x_set, x_setF, x_setT, x_par, x_sub, x_expr, x_ret, x_if, x_raise, x_pass, x_brk, x_cont, x_tryC, x_tryI, bind_ok, bind_exc, map_ok, map_exc, of_some, bind_ite, map_ite, endR_ite, dflT, asT, asD, frz, ofB, cmpB, takeSlot, moveSlot, slotT, Opd.see, sees, T.view, truthD, cmpD, eqD, scalD, binD, negD, isKd, callF, takeA, putA, startR, endR_rt, endR_nx, endR_exc, backs, evB, evT, evD, evO, List.map_cons, List.map_nil, List.length_cons, List.length_nil, List.cons_append, List.nil_append, List.append_nil, List.set_cons_zero, List.set_cons_succ, List.getElem?_cons_zero, List.getElem?_cons_succ, List.replicate_zero, List.replicate_succ, Option.join_some, Option.join_none, Option.bind_some, Option.bind_none, Option.map_some, Option.map_none, Nat.reduceAdd, Nat.reduceSub, Nat.sub_self, List.any_cons, List.any_nil, Bool.or_false, Bool.false_or, Bool.or_true, Bool.true_or, Bool.and_true, Bool.true_and, Bool.and_false, Bool.false_and, Bool.not_true, Bool.not_false, Bool.false_eq_true, reduceIte, reduceCtorEq, decide_eq_true_eq, Bool.not_eq_true', decide_eq_false_iff_not, sz_eq, Nat.reduceLeDiff, isOl, subFin, muFin, muD, setFin, setMany, parFin, bi_len, bi_lenT, bi_abs, bi_int, bi_list, bi_listT, bi_max2, bi_min2, Ss.sets, S.sets, Tg.is, List.mem_cons, List.not_mem_nil, or_false, or_true, false_or, true_or, List.mem_append, List.append_assoc, List.append_eq, ixL, ixT, scL, meTy, Option.getD_some, List.isEmpty_nil, List.isEmpty_cons]
    refine (seq_nx e1).trans ((seq_nx e2).trans ((seq_nx e3).trans ((seq_nx lp).trans ?_)))
    simp -implicitDefEqProofs only [e_nm, e_int, e_str, e_bl, e_non, e_glb, e_bin, e_neg, e_cmp, t_cmp, chn_if, e_chn, t_chn, e_and, e_or, t_and, t_or, e_not, t_not, e_ite, e_lst, e_tup, e_idx, e_slc, e_call, e_bi, e_rl1, e_rl2, e_isi, e_me, e_mu, e_lrv, e_lrr, lrv_l, e_dn, e_d1, e_dpr, e_dat, e_din, t_din, e_dge, odf_none, odf_some, t_dat, t_dge, t_slc, t_lcd, x_dst, i_rv, isOd, dstFin, Opd.dic, dOf, Option.isSome_some, Option.isSome_none, t_nm, t_bl, t_idx, t_call, t_bi, t_isi, t_lc, t_bin, ds_nil, ds_cons, os_nil, os_cons, oi_none, oi_some, c_none, c_some, i_op, as_nm, as_mv, x_nil, x_cons, sq_nx, sq_rt, sq_bk, sq_ct, x_set, x_setF, x_setT, x_par, x_sub, x_expr, x_ret, x_if, x_raise, x_pass, x_brk, x_cont, x_tryC, x_tryI, bind_ok, bind_exc, map_ok, map_exc, of_some, bind_ite, map_ite, endR_ite, dflT, asT, asD, frz, ofB, cmpB, takeSlot, moveSlot, slotT, Opd.see, sees, T.view, truthD, cmpD, eqD, scalD, binD, negD, isKd, callF, takeA, putA, startR, endR_rt, endR_nx, endR_exc, backs, evB, evT, evD, evO, List.map_cons, List.map_nil, List.length_cons, List.length_nil, List.cons_append, List.nil_append, List.append_nil, List.set_cons_zero, List.set_cons_succ, List.getElem?_cons_zero, List.getElem?_cons_succ, List.replicate_zero, List.replicate_succ, Option.join_some, Option.join_none, Option.bind_some, Option.bind_none, Option.map_some, Option.map_none, Nat.reduceAdd, Nat.reduceSub, Nat.sub_self, List.any_cons, List.any_nil, Bool.or_false, Bool.false_or, Bool.or_true, Bool.true_or, Bool.and_true, Bool.true_and, Bool.and_false, Bool.false_and, Bool.not_true, Bool.not_false, Bool.false_eq_true, reduceIte, reduceCtorEq, decide_eq_true_eq, Bool.not_eq_true', decide_eq_false_iff_not, sz_eq, Nat.reduceLeDiff, isOl, subFin, muFin, muD, setFin, setMany, parFin, bi_len, bi_lenT, bi_abs, bi_int, bi_list, bi_listT, bi_max2, bi_min2, Ss.sets, S.sets, Tg.is, List.mem_cons, List.not_mem_nil, or_false, or_true, false_or, true_or, List.mem_append, List.append_assoc, List.append_eq, ixL, ixT, scL, meTy, Option.getD_some, List.isEmpty_nil, List.isEmpty_cons]
  exact (congrArg _ run).trans (endR_g3 rfl (by decide))
theorem s_needed (hv : t.view = some (nl rs)) (hr : Ls rs) (h2 : 2 ≤ h) (h3 : h ≤ 100) (hk : 3 < k) : (lev fs Bx k).call "needed" [t, .fz (.int (h : Int))] = .ok (.fz (.int ((figs h (tpn rs)).length : Nat))) [t, .fz (.int (h : Int))] := by
  have hr2 := hr.2
  rw [lev_call (F := f_needed) rfl (by omega), run_fn rfl]
  have ht : tpn rs ≤ 1000000 := by
    rcases top_mem rs with e | e
    · omega
    · exact hr.1 _ e
  have hL : (figs h (tpn rs)).length ≤ 20 := figs_len h2 20 _ (Nat.lt_of_le_of_lt ht (Nat.lt_of_lt_of_le (by decide : 1000000 < 2 ^ 20) (Nat.pow_le_pow_left h2 20)))
  have q := s_letters (B := Bx) (k := k - 1) hv hr (by omega)
  have q2 := s_holes (B := Bx) (k := k - 1) h2 h3 (by omega)
  have bm := bi_max (l := 0 :: rs.map fun (n : Nat) => (n : Int)) (by simp)
  rw [top_int, List.map_cons, List.map_map] at bm
  have bm : biD .maxL [.list (.int 0 :: rs.map fun (n : Nat) => PyData.int (n : Int))] = some (.fz (.int (tpn rs : Int))) := bm
  have sz : 1 + (rs.map fun (n : Nat) => PyData.int (n : Int)).length ≤ 16777216 := by rw [List.length_map]; omega
  have e0 : exS (lev fs Bx (k - 1)) (.setF 2 (.bi .maxL (.cons (.bin .Add (.lst (.cons (.int 0) .nil)) (.call "checked_letters" (.cons (.nm 0) .nil) [])) .nil))) [some t, some (.fz (.int (h : Int))), none, none] = .ok .nx [some t, some (.fz (.int (h : Int))), some (.fz (.int (tpn rs : Int))), none] := by
    rcases view_l hv with rfl | rfl <;> simp -implicitDefEqProofs only [e_nm, e_int, e_str, e_bl, e_non, e_glb, e_bin, e_neg, e_cmp, t_cmp, chn_if, e_chn, t_chn, e_and, e_or, t_and, t_or, e_not, t_not, e_ite, e_lst, e_tup, e_idx, e_slc, e_call, e_bi, e_rl1, e_rl2, e_isi, e_me, e_mu, e_lrv, e_lrr, lrv_l, e_dn, e_d1, e_dpr, e_dat, e_din, t_din, e_dge, odf_none, odf_some, t_dat, t_dge, t_slc, t_lcd, x_dst, i_rv, isOd, dstFin, Opd.dic, dOf, Option.isSome_some, Option.isSome_none, t_nm, t_bl, t_idx, t_call, t_bi, t_isi, t_lc, t_bin, ds_nil, ds_cons, os_nil, os_cons, oi_none, oi_some, c_none, c_some, i_op, as_nm, as_mv, x_nil, x_cons, sq_nx, sq_rt, sq_bk, sq_ct, x_set, x_setF, x_setT, x_par, x_sub, x_expr, x_ret, x_if, x_raise, x_pass, x_brk, x_cont, x_tryC, x_tryI, bind_ok, bind_exc, map_ok, map_exc, of_some, bind_ite, map_ite, endR_ite, dflT, asT, asD, frz, ofB, cmpB, takeSlot, moveSlot, slotT, Opd.see, sees, T.view, truthD, cmpD, eqD, scalD, binD, negD, isKd, callF, takeA, putA, startR, endR_rt, endR_nx, endR_exc, backs, evB, evT, evD, evO, List.map_cons, List.map_nil, List.length_cons, List.length_nil, List.cons_append, List.nil_append, List.append_nil, List.set_cons_zero, List.set_cons_succ, List.getElem?_cons_zero, List.getElem?_cons_succ, List.replicate_zero, List.replicate_succ, Option.join_some, Option.join_none, Option.bind_some, Option.bind_none, Option.map_some, Option.map_none, Nat.reduceAdd, Nat.reduceSub, Nat.sub_self, List.any_cons, List.any_nil, Bool.or_false, Bool.false_or, Bool.or_true, Bool.true_or, Bool.and_true, Bool.true_and, Bool.and_false, Bool.false_and, Bool.not_true, Bool.not_false, Bool.false_eq_true, reduceIte, reduceCtorEq, decide_eq_true_eq, Bool.not_eq_true', decide_eq_false_iff_not, sz_eq, Nat.reduceLeDiff, isOl, subFin, muFin, muD, setFin, setMany, parFin, bi_len, bi_lenT, bi_abs, bi_int, bi_list, bi_listT, bi_max2, bi_min2, Ss.sets, S.sets, Tg.is, List.mem_cons, List.not_mem_nil, or_false, or_true, false_or, true_or, List.mem_append, List.append_assoc, List.append_eq, ixL, ixT, scL, meTy, Option.getD_some, List.isEmpty_nil, List.isEmpty_cons, q, sz, bm]
  have e1 : exS (lev fs Bx (k - 1)) (.expr (.call "checked_holes" (.cons (.nm 1) .nil) [])) [some t, some (.fz (.int (h : Int))), some (.fz (.int (tpn rs : Int))), none] = .ok .nx [some t, some (.fz (.int (h : Int))), some (.fz (.int (tpn rs : Int))), none] := by
    simp -implicitDefEqProofs only [e_nm, e_int, e_str, e_bl, e_non, e_glb, e_bin, e_neg, e_cmp, t_cmp, chn_if, e_chn, t_chn, e_and, e_or, t_and, t_or, e_not, t_not, e_ite, e_lst, e_tup, e_idx, e_slc, e_call, e_bi, e_rl1, e_rl2, e_isi, e_me, e_mu, e_lrv, e_lrr, lrv_l, e_dn, e_d1, e_dpr, e_dat, e_din, t_din, e_dge, odf_none, odf_some, t_dat, t_dge, t_slc, t_lcd, x_dst, i_rv, isOd, dstFin, Opd.dic, dOf, Option.isSome_some, Option.isSome_none, t_nm, t_bl, t_idx, t_call, t_bi, t_isi, t_lc, t_bin, ds_nil, ds_cons, os_nil, os_cons, oi_none, oi_some, c_none, c_some, i_op, as_nm, as_mv, x_nil, x_cons, sq_nx, sq_rt, sq_bk, sq_ct, x_set, x_setF, x_setT, x_par, x_sub, x_expr, x_ret, x_if, x_raise, x_pass, x_brk, x_cont, x_tryC, x_tryI, bind_ok, bind_exc, map_ok, map_exc, of_some, bind_ite, map_ite, endR_ite, dflT, asT, asD, frz, ofB, cmpB, takeSlot, moveSlot, slotT, Opd.see, sees, T.view, truthD, cmpD, eqD, scalD, binD, negD, isKd, callF, takeA, putA, startR, endR_rt, endR_nx, endR_exc, backs, evB, evT, evD, evO, List.map_cons, List.map_nil, List.length_cons, List.length_nil, List.cons_append, List.nil_append, List.append_nil, List.set_cons_zero, List.set_cons_succ, List.getElem?_cons_zero, List.getElem?_cons_succ, List.replicate_zero, List.replicate_succ, Option.join_some, Option.join_none, Option.bind_some, Option.bind_none, Option.map_some, Option.map_none, Nat.reduceAdd, Nat.reduceSub, Nat.sub_self, List.any_cons, List.any_nil, Bool.or_false, Bool.false_or, Bool.or_true, Bool.true_or, Bool.and_true, Bool.true_and, Bool.and_false, Bool.false_and, Bool.not_true, Bool.not_false, Bool.false_eq_true, reduceIte, reduceCtorEq, decide_eq_true_eq, Bool.not_eq_true', decide_eq_false_iff_not, sz_eq, Nat.reduceLeDiff, isOl, subFin, muFin, muD, setFin, setMany, parFin, bi_len, bi_lenT, bi_abs, bi_int, bi_list, bi_listT, bi_max2, bi_min2, Ss.sets, S.sets, Tg.is, List.mem_cons, List.not_mem_nil, or_false, or_true, false_or, true_or, List.mem_append, List.append_assoc, List.append_eq, ixL, ixT, scL, meTy, Option.getD_some, List.isEmpty_nil, List.isEmpty_cons, q2]
  have e2 : exS (lev fs Bx (k - 1)) (.setF 3 (.int 0)) [some t, some (.fz (.int (h : Int))), some (.fz (.int (tpn rs : Int))), none] = .ok .nx [some t, some (.fz (.int (h : Int))), some (.fz (.int (tpn rs : Int))), some (.fz (.int 0))] := by
    simp -implicitDefEqProofs only [e_nm, e_int, e_str, e_bl, e_non, e_glb, e_bin, e_neg, e_cmp, t_cmp, chn_if, e_chn, t_chn, e_and, e_or, t_and, t_or, e_not, t_not, e_ite, e_lst, e_tup, e_idx, e_slc, e_call, e_bi, e_rl1, e_rl2, e_isi, e_me, e_mu, e_lrv, e_lrr, lrv_l, e_dn, e_d1, e_dpr, e_dat, e_din, t_din, e_dge, odf_none, odf_some, t_dat, t_dge, t_slc, t_lcd, x_dst, i_rv, isOd, dstFin, Opd.dic, dOf, Option.isSome_some, Option.isSome_none, t_nm, t_bl, t_idx, t_call, t_bi, t_isi, t_lc, t_bin, ds_nil, ds_cons, os_nil, os_cons, oi_none, oi_some, c_none, c_some, i_op, as_nm, as_mv, x_nil, x_cons, sq_nx, sq_rt, sq_bk, sq_ct, x_set, x_setF, x_setT, x_par, x_sub, x_expr, x_ret, x_if, x_raise, x_pass, x_brk, x_cont, x_tryC, x_tryI, bind_ok, bind_exc, map_ok, map_exc, of_some, bind_ite, map_ite, endR_ite, dflT, asT, asD, frz, ofB, cmpB, takeSlot, moveSlot, slotT, Opd.see, sees, T.view, truthD, cmpD, eqD, scalD, binD, negD, isKd, callF, takeA, putA, startR, endR_rt, endR_nx, endR_exc, backs, evB, evT, evD, evO, List.map_cons, List.map_nil, List.length_cons, List.length_nil, List.cons_append, List.nil_append, List.append_nil, List.set_cons_zero, List.set_cons_succ, List.getElem?_cons_zero, List.getElem?_cons_succ, List.replicate_zero, List.replicate_succ, Option.join_some, Option.join_none, Option.bind_some, Option.bind_none, Option.map_some, Option.map_none, Nat.reduceAdd, Nat.reduceSub, Nat.sub_self, List.any_cons, List.any_nil, Bool.or_false, Bool.false_or, Bool.or_true, Bool.true_or, Bool.and_true, Bool.true_and, Bool.and_false, Bool.false_and, Bool.not_true, Bool.not_false, Bool.false_eq_true, reduceIte, reduceCtorEq, decide_eq_true_eq, Bool.not_eq_true', decide_eq_false_iff_not, sz_eq, Nat.reduceLeDiff, isOl, subFin, muFin, muD, setFin, setMany, parFin, bi_len, bi_lenT, bi_abs, bi_int, bi_list, bi_listT, bi_max2, bi_min2, Ss.sets, S.sets, Tg.is, List.mem_cons, List.not_mem_nil, or_false, or_true, false_or, true_or, List.mem_append, List.append_assoc, List.append_eq, ixL, ixT, scL, meTy, Option.getD_some, List.isEmpty_nil, List.isEmpty_cons]
  have lp : exS (lev fs Bx (k - 1)) (.whl (.cmp .Gt (.nm 2) (.int 0)) (.cons (.setF 2 (.bin .FloorDiv (.nm 2) (.nm 1))) (.cons (.setF 3 (.bin .Add (.nm 3) (.int 1))) .nil))) [some t, some (.fz (.int (h : Int))), some (.fz (.int (tpn rs : Int))), some (.fz (.int 0))] = .ok .nx [some t, some (.fz (.int (h : Int))), some (.fz (.int 0)), some (.fz (.int ((figs h (tpn rs)).length : Nat)))] := by
    rw [x_whl]
    have hf := lev_fuel (k - 1)
    refine while_wp (fun m ρ => ∃ (u c : Nat), ρ = [some t, some (.fz (.int (h : Int))), some (.fz (.int (u : Int))), some (.fz (.int (c : Int)))] ∧ c + (figs h u).length = (figs h (tpn rs)).length ∧ m = (figs h u).length) (fun r => r = .ok .nx [some t, some (.fz (.int (h : Int))), some (.fz (.int 0)), some (.fz (.int ((figs h (tpn rs)).length : Nat)))]) _ (figs h (tpn rs)).length _ (by omega) ⟨tpn rs, 0, rfl, by omega, rfl⟩ ?_
    rintro m _ ⟨u, c, rfl, e, em⟩
    refine ⟨decide ((0 : Int) < u), [some t, some (.fz (.int (h : Int))), some (.fz (.int (u : Int))), some (.fz (.int (c : Int)))], by simp -implicitDefEqProofs only [e_nm, e_int, e_str, e_bl, e_non, e_glb, e_bin, e_neg, e_cmp, t_cmp, chn_if, e_chn, t_chn, e_and, e_or, t_and, t_or, e_not, t_not, e_ite, e_lst, e_tup, e_idx, e_slc, e_call, e_bi, e_rl1, e_rl2, e_isi, e_me, e_mu, e_lrv, e_lrr, lrv_l, e_dn, e_d1, e_dpr, e_dat, e_din, t_din, e_dge, odf_none, odf_some, t_dat, t_dge, t_slc, t_lcd, x_dst, i_rv, isOd, dstFin, Opd.dic, dOf, Option.isSome_some, Option.isSome_none, t_nm, t_bl, t_idx, t_call, t_bi, t_isi, t_lc, t_bin, ds_nil, ds_cons, os_nil, os_cons, oi_none, oi_some, c_none, c_some, i_op, as_nm, as_mv, x_nil, x_cons, sq_nx, sq_rt, sq_bk, sq_ct, x_set, x_setF, x_setT, x_par, x_sub, x_expr, x_ret, x_if, x_raise, x_pass, x_brk, x_cont, x_tryC, x_tryI, bind_ok, bind_exc, map_ok, map_exc, of_some, bind_ite, map_ite, endR_ite, dflT, asT, asD, frz, ofB, cmpB, takeSlot, moveSlot, slotT, Opd.see, sees, T.view, truthD, cmpD, eqD, scalD, binD, negD, isKd, callF, takeA, putA, startR, endR_rt, endR_nx, endR_exc, backs, evB, evT, evD, evO, List.map_cons, List.map_nil, List.length_cons, List.length_nil, List.cons_append, List.nil_append, List.append_nil, List.set_cons_zero, List.set_cons_succ, List.getElem?_cons_zero, List.getElem?_cons_succ, List.replicate_zero, List.replicate_succ, Option.join_some, Option.join_none, Option.bind_some, Option.bind_none, Option.map_some, Option.map_none, Nat.reduceAdd, Nat.reduceSub, Nat.sub_self, List.any_cons, List.any_nil, Bool.or_false, Bool.false_or, Bool.or_true, Bool.true_or, Bool.and_true, Bool.true_and, Bool.and_false, Bool.false_and, Bool.not_true, Bool.not_false, Bool.false_eq_true, reduceIte, reduceCtorEq, decide_eq_true_eq, Bool.not_eq_true', decide_eq_false_iff_not, sz_eq, Nat.reduceLeDiff, isOl, subFin, muFin, muD, setFin, setMany, parFin, bi_len, bi_lenT, bi_abs, bi_int, bi_list, bi_listT, bi_max2, bi_min2, Ss.sets, S.sets, Tg.is, List.mem_cons, List.not_mem_nil, or_false, or_true, false_or, true_or, List.mem_append, List.append_assoc, List.append_eq, ixL, ixT, scL, meTy, Option.getD_some, List.isEmpty_nil, List.isEmpty_cons], fun hb => ?_, fun hb => ?_⟩
    · have hu : u = 0 := by have := of_decide_eq_false hb; omega
      subst hu
      rw [figs_zero] at e
      have e : c = (figs h (tpn rs)).length := e
      rw [e]
      rfl
    · have hu : 0 < u := by have := of_decide_eq_true hb; omega
      have z : (h : Int) ≠ 0 := by omega
      have x2 := fdiv_nat u h
      have nb : (h : Int).natAbs < 1073741824 := by omega
      have ec : (c : Int) + 1 = ((c + 1 : Nat) : Int) := rfl
      have bd : exSs (lev fs Bx (k - 1)) (.cons (.setF 2 (.bin .FloorDiv (.nm 2) (.nm 1))) (.cons (.setF 3 (.bin .Add (.nm 3) (.int 1))) .nil)) [some t, some (.fz (.int (h : Int))), some (.fz (.int (u : Int))), some (.fz (.int (c : Int)))] = .ok .nx [some t, some (.fz (.int (h : Int))), some (.fz (.int ((u / h : Nat) : Int))), some (.fz (.int ((c + 1 : Nat) : Int)))] := by
        simp -implicitDefEqProofs only [e_nm, e_int, e_str, e_bl, e_non, e_glb, e_bin, e_neg, e_cmp, t_cmp, chn_if, e_chn, t_chn, e_and, e_or, t_and, t_or, e_not, t_not, e_ite, e_lst, e_tup, e_idx, e_slc, e_call, e_bi, e_rl1, e_rl2, e_isi, e_me, e_mu, e_lrv, e_lrr, lrv_l, e_dn, e_d1, e_dpr, e_dat, e_din, t_din, e_dge, odf_none, odf_some, t_dat, t_dge, t_slc, t_lcd, x_dst, i_rv, isOd, dstFin, Opd.dic, dOf, Option.isSome_some, Option.isSome_none, t_nm, t_bl, t_idx, t_call, t_bi, t_isi, t_lc, t_bin, ds_nil, ds_cons, os_nil, os_cons, oi_none, oi_some, c_none, c_some, i_op, as_nm, as_mv, x_nil, x_cons, sq_nx, sq_rt, sq_bk, sq_ct, x_set, x_setF, x_setT, x_par, x_sub, x_expr, x_ret, x_if, x_raise, x_pass, x_brk, x_cont, x_tryC, x_tryI, bind_ok, bind_exc, map_ok, map_exc, of_some, bind_ite, map_ite, endR_ite, dflT, asT, asD, frz, ofB, cmpB, takeSlot, moveSlot, slotT, Opd.see, sees, T.view, truthD, cmpD, eqD, scalD, binD, negD, isKd, callF, takeA, putA, startR, endR_rt, endR_nx, endR_exc, backs, evB, evT, evD, evO, List.map_cons, List.map_nil, List.length_cons, List.length_nil, List.cons_append, List.nil_append, List.append_nil, List.set_cons_zero, List.set_cons_succ, List.getElem?_cons_zero, List.getElem?_cons_succ, List.replicate_zero, List.replicate_succ, Option.join_some, Option.join_none, Option.bind_some, Option.bind_none, Option.map_some, Option.map_none, Nat.reduceAdd, Nat.reduceSub, Nat.sub_self, List.any_cons, List.any_nil, Bool.or_false, Bool.false_or, Bool.or_true, Bool.true_or, Bool.and_true, Bool.true_and, Bool.and_false, Bool.false_and, Bool.not_true, Bool.not_false, Bool.false_eq_true, reduceIte, reduceCtorEq, decide_eq_true_eq, Bool.not_eq_true', decide_eq_false_iff_not, sz_eq, Nat.reduceLeDiff, isOl, subFin, muFin, muD, setFin, setMany, parFin, bi_len, bi_lenT, bi_abs, bi_int, bi_list, bi_listT, bi_max2, bi_min2, Ss.sets, S.sets, Tg.is, List.mem_cons, List.not_mem_nil, or_false, or_true, false_or, true_or, List.mem_append, List.append_assoc, List.append_eq, ixL, ixT, scL, meTy, Option.getD_some, List.isEmpty_nil, List.isEmpty_cons, z, x2, nb, ec, ne_eq, not_false_eq_true, and_self]
      rw [bd]
      rw [figs_pos h2 hu, List.length_cons] at e em
      exact ⟨(figs h (u / h)).length, by omega, u / h, c + 1, rfl, by omega, rfl⟩
  have run : exSs (lev fs Bx (k - 1)) f_needed.body (startR f_needed.N.length [t, .fz (.int (h : Int))]) = .ok (.rt (.fz (.int ((figs h (tpn rs)).length : Nat)))) [some t, some (.fz (.int (h : Int))), some (.fz (.int 0)), none] := by
    refine (seq_nx e0).trans ((seq_nx e1).trans ((seq_nx e2).trans ((seq_nx lp).trans ?_)))
    simp -implicitDefEqProofs only [e_nm, e_int, e_str, e_bl, e_non, e_glb, e_bin, e_neg, e_cmp, t_cmp, chn_if, e_chn, t_chn, e_and, e_or, t_and, t_or, e_not, t_not, e_ite, e_lst, e_tup, e_idx, e_slc, e_call, e_bi, e_rl1, e_rl2, e_isi, e_me, e_mu, e_lrv, e_lrr, lrv_l, e_dn, e_d1, e_dpr, e_dat, e_din, t_din, e_dge, odf_none, odf_some, t_dat, t_dge, t_slc, t_lcd, x_dst, i_rv, isOd, dstFin, Opd.dic, dOf, Option.isSome_some, Option.isSome_none, t_nm, t_bl, t_idx, t_call, t_bi, t_isi, t_lc, t_bin, ds_nil, ds_cons, os_nil, os_cons, oi_none, oi_some, c_none, c_some, i_op, as_nm, as_mv, x_nil, x_cons, sq_nx, sq_rt, sq_bk, sq_ct, x_set, x_setF, x_setT, x_par, x_sub, x_expr, x_ret, x_if, x_raise, x_pass, x_brk, x_cont, x_tryC, x_tryI, bind_ok, bind_exc, map_ok, map_exc, of_some, bind_ite, map_ite, endR_ite, dflT, asT, asD, frz, ofB, cmpB, takeSlot, moveSlot, slotT, Opd.see, sees, T.view, truthD, cmpD, eqD, scalD, binD, negD, isKd, callF, takeA, putA, startR, endR_rt, endR_nx, endR_exc, backs, evB, evT, evD, evO, List.map_cons, List.map_nil, List.length_cons, List.length_nil, List.cons_append, List.nil_append, List.append_nil, List.set_cons_zero, List.set_cons_succ, List.getElem?_cons_zero, List.getElem?_cons_succ, List.replicate_zero, List.replicate_succ, Option.join_some, Option.join_none, Option.bind_some, Option.bind_none, Option.map_some, Option.map_none, Nat.reduceAdd, Nat.reduceSub, Nat.sub_self, List.any_cons, List.any_nil, Bool.or_false, Bool.false_or, Bool.or_true, Bool.true_or, Bool.and_true, Bool.true_and, Bool.and_false, Bool.false_and, Bool.not_true, Bool.not_false, Bool.false_eq_true, reduceIte, reduceCtorEq, decide_eq_true_eq, Bool.not_eq_true', decide_eq_false_iff_not, sz_eq, Nat.reduceLeDiff, isOl, subFin, muFin, muD, setFin, setMany, parFin, bi_len, bi_lenT, bi_abs, bi_int, bi_list, bi_listT, bi_max2, bi_min2, Ss.sets, S.sets, Tg.is, List.mem_cons, List.not_mem_nil, or_false, or_true, false_or, true_or, List.mem_append, List.append_assoc, List.append_eq, ixL, ixT, scL, meTy, Option.getD_some, List.isEmpty_nil, List.isEmpty_cons]
  exact (congrArg _ run).trans (endR_g2 rfl (by decide))
theorem s_falls (hv : t.view = some (nl rs)) (hr : Ls rs) (hk : 3 < k) : (lev fs Bx k).call "falls" [t] = .ok (.ol (fls rs)) [t] := by
  have hr2 := hr.2
  rw [lev_call (F := f_falls) rfl (by omega), run_fn rfl]
  have e0 := x_setF1 (Φ := lev fs Bx (k - 1)) (f := "checked_letters") (i := 0) (j := 1) (t := t) (d := nl rs) (ρ := [some t, none, none]) rfl (s_letters hv hr (by omega)) rfl
  have run : exSs (lev fs Bx (k - 1)) f_falls.body (startR f_falls.N.length [t]) = .ok (.rt (.ol (fls rs))) [some t, some (.fz (nl rs)), none] := by
    refine (seq_nx e0).trans ?_
    simp -implicitDefEqProofs only [e_nm, e_int, e_str, e_bl, e_non, e_glb, e_bin, e_neg, e_cmp, t_cmp, chn_if, e_chn, t_chn, e_and, e_or, t_and, t_or, e_not, t_not, e_ite, e_lst, e_tup, e_idx, e_slc, e_call, e_bi, e_rl1, e_rl2, e_isi, e_me, e_mu, e_lrv, e_lrr, lrv_l, e_dn, e_d1, e_dpr, e_dat, e_din, t_din, e_dge, odf_none, odf_some, t_dat, t_dge, t_slc, t_lcd, x_dst, i_rv, isOd, dstFin, Opd.dic, dOf, Option.isSome_some, Option.isSome_none, t_nm, t_bl, t_idx, t_call, t_bi, t_isi, t_lc, t_bin, ds_nil, ds_cons, os_nil, os_cons, oi_none, oi_some, c_none, c_some, i_op, as_nm, as_mv, x_nil, x_cons, sq_nx, sq_rt, sq_bk, sq_ct, x_set, x_setF, x_setT, x_par, x_sub, x_expr, x_ret, x_if, x_raise, x_pass, x_brk, x_cont, x_tryC, x_tryI, bind_ok, bind_exc, map_ok, map_exc, of_some, bind_ite, map_ite, endR_ite, dflT, asT, asD, frz, ofB, cmpB, takeSlot, moveSlot, slotT, Opd.see, sees, T.view, truthD, cmpD, eqD, scalD, binD, negD, isKd, callF, takeA, putA, startR, endR_rt, endR_nx, endR_exc, backs, evB, evT, evD, evO, List.map_cons, List.map_nil, List.length_cons, List.length_nil, List.cons_append, List.nil_append, List.append_nil, List.set_cons_zero, List.set_cons_succ, List.getElem?_cons_zero, List.getElem?_cons_succ, List.replicate_zero, List.replicate_succ, Option.join_some, Option.join_none, Option.bind_some, Option.bind_none, Option.map_some, Option.map_none, Nat.reduceAdd, Nat.reduceSub, Nat.sub_self, List.any_cons, List.any_nil, Bool.or_false, Bool.false_or, Bool.or_true, Bool.true_or, Bool.and_true, Bool.true_and, Bool.and_false, Bool.false_and, Bool.not_true, Bool.not_false, Bool.false_eq_true, reduceIte, reduceCtorEq, decide_eq_true_eq, Bool.not_eq_true', decide_eq_false_iff_not, sz_eq, Nat.reduceLeDiff, isOl, subFin, muFin, muD, setFin, setMany, parFin, bi_len, bi_lenT, bi_abs, bi_int, bi_list, bi_listT, bi_max2, bi_min2, Ss.sets, S.sets, Tg.is, List.mem_cons, List.not_mem_nil, or_false, or_true, false_or, true_or, List.mem_append, List.append_assoc, List.append_eq, ixL, ixT, scL, meTy, Option.getD_some, List.isEmpty_nil, List.isEmpty_cons]
    rw [lc_r2 (lo := 1) (hi := (rs.length : Int)) (fun i => decide (rs.getD (i + 1) 0 < rs.getD i 0)) (fun (i : Nat) => .int (1 + (i : Int))) ?xa1 ?xy1 ?xb1 ?xB1 ?xc1 ?xu1 ?xv1 ?xp1 ?xe1]
    case xa1 => rfl
    case xy1 => simp -implicitDefEqProofs only [e_nm, e_int, e_str, e_bl, e_non, e_glb, e_bin, e_neg, e_cmp, t_cmp, chn_if, e_chn, t_chn, e_and, e_or, t_and, t_or, e_not, t_not, e_ite, e_lst, e_tup, e_idx, e_slc, e_call, e_bi, e_rl1, e_rl2, e_isi, e_me, e_mu, e_lrv, e_lrr, lrv_l, e_dn, e_d1, e_dpr, e_dat, e_din, t_din, e_dge, odf_none, odf_some, t_dat, t_dge, t_slc, t_lcd, x_dst, i_rv, isOd, dstFin, Opd.dic, dOf, Option.isSome_some, Option.isSome_none, t_nm, t_bl, t_idx, t_call, t_bi, t_isi, t_lc, t_bin, ds_nil, ds_cons, os_nil, os_cons, oi_none, oi_some, c_none, c_some, i_op, as_nm, as_mv, x_nil, x_cons, sq_nx, sq_rt, sq_bk, sq_ct, x_set, x_setF, x_setT, x_par, x_sub, x_expr, x_ret, x_if, x_raise, x_pass, x_brk, x_cont, x_tryC, x_tryI, bind_ok, bind_exc, map_ok, map_exc, of_some, bind_ite, map_ite, endR_ite, dflT, asT, asD, frz, ofB, cmpB, takeSlot, moveSlot, slotT, Opd.see, sees, T.view, truthD, cmpD, eqD, scalD, binD, negD, isKd, callF, takeA, putA, startR, endR_rt, endR_nx, endR_exc, backs, evB, evT, evD, evO, List.map_cons, List.map_nil, List.length_cons, List.length_nil, List.cons_append, List.nil_append, List.append_nil, List.set_cons_zero, List.set_cons_succ, List.getElem?_cons_zero, List.getElem?_cons_succ, List.replicate_zero, List.replicate_succ, Option.join_some, Option.join_none, Option.bind_some, Option.bind_none, Option.map_some, Option.map_none, Nat.reduceAdd, Nat.reduceSub, Nat.sub_self, List.any_cons, List.any_nil, Bool.or_false, Bool.false_or, Bool.or_true, Bool.true_or, Bool.and_true, Bool.true_and, Bool.and_false, Bool.false_and, Bool.not_true, Bool.not_false, Bool.false_eq_true, reduceIte, reduceCtorEq, decide_eq_true_eq, Bool.not_eq_true', decide_eq_false_iff_not, sz_eq, Nat.reduceLeDiff, isOl, subFin, muFin, muD, setFin, setMany, parFin, bi_len, bi_lenT, bi_abs, bi_int, bi_list, bi_listT, bi_max2, bi_min2, Ss.sets, S.sets, Tg.is, List.mem_cons, List.not_mem_nil, or_false, or_true, false_or, true_or, List.mem_append, List.append_assoc, List.append_eq, ixL, ixT, scL, meTy, Option.getD_some, List.isEmpty_nil, List.isEmpty_cons, List.length_map]; rfl
    case xb1 => rfl
    case xB1 => rfl
    case xc1 => exact Nat.le_of_ble_eq_true rfl
    case xu1 => omega
    case xv1 => omega
    case xp1 =>
      intro i hi
      have x1 : (1 : Int) + (i : Int) = ((i + 1 : Nat) : Int) := by omega
      have x2 : ((i + 1 : Nat) : Int) - 1 = (i : Int) := by omega
      have a1 := atI_getD (l := rs) (i := i + 1) 0 (fun (n : Nat) => PyData.int (n : Int)) (by omega)
      have a2 := atI_getD (l := rs) (i := i) 0 (fun (n : Nat) => PyData.int (n : Int)) (by omega)
      have dd : decide (((rs.getD (i + 1) 0 : Nat) : Int) < ((rs.getD i 0 : Nat) : Int)) = decide (rs.getD (i + 1) 0 < rs.getD i 0) := decide_eq_decide.mpr (by omega)
      simp -implicitDefEqProofs only [e_nm, e_int, e_str, e_bl, e_non, e_glb, e_bin, e_neg, e_cmp, t_cmp, chn_if, e_chn, t_chn, e_and, e_or, t_and, t_or, e_not, t_not, e_ite, e_lst, e_tup, e_idx, e_slc, e_call, e_bi, e_rl1, e_rl2, e_isi, e_me, e_mu, e_lrv, e_lrr, lrv_l, e_dn, e_d1, e_dpr, e_dat, e_din, t_din, e_dge, odf_none, odf_some, t_dat, t_dge, t_slc, t_lcd, x_dst, i_rv, isOd, dstFin, Opd.dic, dOf, Option.isSome_some, Option.isSome_none, t_nm, t_bl, t_idx, t_call, t_bi, t_isi, t_lc, t_bin, ds_nil, ds_cons, os_nil, os_cons, oi_none, oi_some, c_none, c_some, i_op, as_nm, as_mv, x_nil, x_cons, sq_nx, sq_rt, sq_bk, sq_ct, x_set, x_setF, x_setT, x_par, x_sub, x_expr, x_ret, x_if, x_raise, x_pass, x_brk, x_cont, x_tryC, x_tryI, bind_ok, bind_exc, map_ok, map_exc, of_some, bind_ite, map_ite, endR_ite, dflT, asT, asD, frz, ofB, cmpB, takeSlot, moveSlot, slotT, Opd.see, sees, T.view, truthD, cmpD, eqD, scalD, binD, negD, isKd, callF, takeA, putA, startR, endR_rt, endR_nx, endR_exc, backs, evB, evT, evD, evO, List.map_cons, List.map_nil, List.length_cons, List.length_nil, List.cons_append, List.nil_append, List.append_nil, List.set_cons_zero, List.set_cons_succ, List.getElem?_cons_zero, List.getElem?_cons_succ, List.replicate_zero, List.replicate_succ, Option.join_some, Option.join_none, Option.bind_some, Option.bind_none, Option.map_some, Option.map_none, Nat.reduceAdd, Nat.reduceSub, Nat.sub_self, List.any_cons, List.any_nil, Bool.or_false, Bool.false_or, Bool.or_true, Bool.true_or, Bool.and_true, Bool.true_and, Bool.and_false, Bool.false_and, Bool.not_true, Bool.not_false, Bool.false_eq_true, reduceIte, reduceCtorEq, decide_eq_true_eq, Bool.not_eq_true', decide_eq_false_iff_not, sz_eq, Nat.reduceLeDiff, isOl, subFin, muFin, muD, setFin, setMany, parFin, bi_len, bi_lenT, bi_abs, bi_int, bi_list, bi_listT, bi_max2, bi_min2, Ss.sets, S.sets, Tg.is, List.mem_cons, List.not_mem_nil, or_false, or_true, false_or, true_or, List.mem_append, List.append_assoc, List.append_eq, ixL, ixT, scL, meTy, Option.getD_some, List.isEmpty_nil, List.isEmpty_cons, x1, x2, a1, a2, dd]
    case xe1 =>
      intro i hi _
      simp -implicitDefEqProofs only [e_nm, e_int, e_str, e_bl, e_non, e_glb, e_bin, e_neg, e_cmp, t_cmp, chn_if, e_chn, t_chn, e_and, e_or, t_and, t_or, e_not, t_not, e_ite, e_lst, e_tup, e_idx, e_slc, e_call, e_bi, e_rl1, e_rl2, e_isi, e_me, e_mu, e_lrv, e_lrr, lrv_l, e_dn, e_d1, e_dpr, e_dat, e_din, t_din, e_dge, odf_none, odf_some, t_dat, t_dge, t_slc, t_lcd, x_dst, i_rv, isOd, dstFin, Opd.dic, dOf, Option.isSome_some, Option.isSome_none, t_nm, t_bl, t_idx, t_call, t_bi, t_isi, t_lc, t_bin, ds_nil, ds_cons, os_nil, os_cons, oi_none, oi_some, c_none, c_some, i_op, as_nm, as_mv, x_nil, x_cons, sq_nx, sq_rt, sq_bk, sq_ct, x_set, x_setF, x_setT, x_par, x_sub, x_expr, x_ret, x_if, x_raise, x_pass, x_brk, x_cont, x_tryC, x_tryI, bind_ok, bind_exc, map_ok, map_exc, of_some, bind_ite, map_ite, endR_ite, dflT, asT, asD, frz, ofB, cmpB, takeSlot, moveSlot, slotT, Opd.see, sees, T.view, truthD, cmpD, eqD, scalD, binD, negD, isKd, callF, takeA, putA, startR, endR_rt, endR_nx, endR_exc, backs, evB, evT, evD, evO, List.map_cons, List.map_nil, List.length_cons, List.length_nil, List.cons_append, List.nil_append, List.append_nil, List.set_cons_zero, List.set_cons_succ, List.getElem?_cons_zero, List.getElem?_cons_succ, List.replicate_zero, List.replicate_succ, Option.join_some, Option.join_none, Option.bind_some, Option.bind_none, Option.map_some, Option.map_none, Nat.reduceAdd, Nat.reduceSub, Nat.sub_self, List.any_cons, List.any_nil, Bool.or_false, Bool.false_or, Bool.or_true, Bool.true_or, Bool.and_true, Bool.true_and, Bool.and_false, Bool.false_and, Bool.not_true, Bool.not_false, Bool.false_eq_true, reduceIte, reduceCtorEq, decide_eq_true_eq, Bool.not_eq_true', decide_eq_false_iff_not, sz_eq, Nat.reduceLeDiff, isOl, subFin, muFin, muD, setFin, setMany, parFin, bi_len, bi_lenT, bi_abs, bi_int, bi_list, bi_listT, bi_max2, bi_min2, Ss.sets, S.sets, Tg.is, List.mem_cons, List.not_mem_nil, or_false, or_true, false_or, true_or, List.mem_append, List.append_assoc, List.append_eq, ixL, ixT, scL, meTy, Option.getD_some, List.isEmpty_nil, List.isEmpty_cons]
    simp -implicitDefEqProofs only [e_nm, e_int, e_str, e_bl, e_non, e_glb, e_bin, e_neg, e_cmp, t_cmp, chn_if, e_chn, t_chn, e_and, e_or, t_and, t_or, e_not, t_not, e_ite, e_lst, e_tup, e_idx, e_slc, e_call, e_bi, e_rl1, e_rl2, e_isi, e_me, e_mu, e_lrv, e_lrr, lrv_l, e_dn, e_d1, e_dpr, e_dat, e_din, t_din, e_dge, odf_none, odf_some, t_dat, t_dge, t_slc, t_lcd, x_dst, i_rv, isOd, dstFin, Opd.dic, dOf, Option.isSome_some, Option.isSome_none, t_nm, t_bl, t_idx, t_call, t_bi, t_isi, t_lc, t_bin, ds_nil, ds_cons, os_nil, os_cons, oi_none, oi_some, c_none, c_some, i_op, as_nm, as_mv, x_nil, x_cons, sq_nx, sq_rt, sq_bk, sq_ct, x_set, x_setF, x_setT, x_par, x_sub, x_expr, x_ret, x_if, x_raise, x_pass, x_brk, x_cont, x_tryC, x_tryI, bind_ok, bind_exc, map_ok, map_exc, of_some, bind_ite, map_ite, endR_ite, dflT, asT, asD, frz, ofB, cmpB, takeSlot, moveSlot, slotT, Opd.see, sees, T.view, truthD, cmpD, eqD, scalD, binD, negD, isKd, callF, takeA, putA, startR, endR_rt, endR_nx, endR_exc, backs, evB, evT, evD, evO, List.map_cons, List.map_nil, List.length_cons, List.length_nil, List.cons_append, List.nil_append, List.append_nil, List.set_cons_zero, List.set_cons_succ, List.getElem?_cons_zero, List.getElem?_cons_succ, List.replicate_zero, List.replicate_succ, Option.join_some, Option.join_none, Option.bind_some, Option.bind_none, Option.map_some, Option.map_none, Nat.reduceAdd, Nat.reduceSub, Nat.sub_self, List.any_cons, List.any_nil, Bool.or_false, Bool.false_or, Bool.or_true, Bool.true_or, Bool.and_true, Bool.true_and, Bool.and_false, Bool.false_and, Bool.not_true, Bool.not_false, Bool.false_eq_true, reduceIte, reduceCtorEq, decide_eq_true_eq, Bool.not_eq_true', decide_eq_false_iff_not, sz_eq, Nat.reduceLeDiff, isOl, subFin, muFin, muD, setFin, setMany, parFin, bi_len, bi_lenT, bi_abs, bi_int, bi_list, bi_listT, bi_max2, bi_min2, Ss.sets, S.sets, Tg.is, List.mem_cons, List.not_mem_nil, or_false, or_true, false_or, true_or, List.mem_append, List.append_assoc, List.append_eq, ixL, ixT, scL, meTy, Option.getD_some, List.isEmpty_nil, List.isEmpty_cons, fls]
  exact (congrArg _ run).trans (endR_g1 rfl (by decide))
end
end L2.Eng.K65

namespace L2.Eng.K65
open PySem
def Rf (k : Nat) (c : Int) (a b d : T) (w : Str) : Prop := (lev fs Bx k).call "_law_refused" [.fz (.int c), a, b, d] = .ok (.fz (.str w)) [.fz (.int c), a, b, d]
def BAD : List D := [.int (-1), .int 1000001, .bool true]
def BAD2 : List D := [.int (-1), .int 21, .bool true]
def WRG : List D := [.int 1, .int 101, .int 0, .bool true]
theorem rbad {w : D} (hw : w ∈ BAD) {k : Nat} (hk : 8 < k) : Rf k 0 (.ol [.int 5, w]) (.fz (.int 0)) (.fz (.int 0)) "number" ∧ Rf k 1 (.fz w) (.fz (.int 0)) (.fz (.int 2)) "number" := by
  obtain ⟨j, rfl⟩ : ∃ j, k = j + 9 := ⟨k - 9, by omega⟩
  simp only [BAD, List.mem_cons, List.not_mem_nil, or_false] at hw
  rcases hw with rfl | rfl | rfl <;> exact ⟨by unfold Rf; kernel_rfl, by unfold Rf; kernel_rfl⟩
theorem rbad2 {w : D} (hw : w ∈ BAD2) {k : Nat} (hk : 8 < k) : Rf k 1 (.fz (.int 5)) (.fz w) (.fz (.int 2)) "number" ∧ Rf k 3 (.ol []) (.fz w) (.fz (.int 2)) "number" := by
  obtain ⟨j, rfl⟩ : ∃ j, k = j + 9 := ⟨k - 9, by omega⟩
  simp only [BAD2, List.mem_cons, List.not_mem_nil, or_false] at hw
  rcases hw with rfl | rfl | rfl <;> exact ⟨by unfold Rf; kernel_rfl, by unfold Rf; kernel_rfl⟩
theorem rwrg {w : D} (hw : w ∈ WRG) {k : Nat} (hk : 8 < k) : Rf k 1 (.fz (.int 5)) (.fz (.int 0)) (.fz w) "number" ∧ Rf k 2 (.ol [.int 5]) (.fz (.int 0)) (.fz w) "number" ∧ Rf k 3 (.ol []) (.fz (.int 1)) (.fz w) "number" ∧
    Rf k 4 (.ol [.int 5]) (.fz w) (.fz (.int 0)) "number" ∧ Rf k 5 (.fz w) (.fz (.int 0)) (.fz (.int 0)) "number" := by
  obtain ⟨j, rfl⟩ : ∃ j, k = j + 9 := ⟨k - 9, by omega⟩
  simp only [WRG, List.mem_cons, List.not_mem_nil, or_false] at hw
  rcases hw with rfl | rfl | rfl | rfl <;> exact ⟨by unfold Rf; kernel_rfl, by unfold Rf; kernel_rfl, by unfold Rf; kernel_rfl, by unfold Rf; kernel_rfl, by unfold Rf; kernel_rfl⟩
theorem rmany {k : Nat} (hk : 8 < k) : Rf k 0 (.ol (List.replicate 201 (.int 1))) (.fz (.int 0)) (.fz (.int 0)) "many" := by
  obtain ⟨j, rfl⟩ : ∃ j, k = j + 9 := ⟨k - 9, by omega⟩
  unfold Rf
  kernel_rfl
end L2.Eng.K65

namespace L2.Eng.K65
open PySem
abbrev st (ns : List Int) : D := .list (ns.map PyData.int)
theorem good_nl {l : List Nat} (h : l.length ≤ 16777216) : good 2 (nl l) := ⟨by rw [List.length_map]; exact h, fun e he => by
  obtain ⟨q, _, rfl⟩ := List.mem_map.mp he
  exact trivial⟩
theorem eqv_nl (a b : List Nat) : PyData.eqv (nl a) (nl b) = decide (a = b) := by
  have e : ∀ l : List Nat, nl l = .list ((l.map fun (n : Nat) => (n : Int)).map PyData.int) := fun l => by rw [List.map_map]; rfl
  rw [e, e, eqv_il]
  refine decide_eq_decide.mpr ⟨fun h => ?_, fun h => by rw [h]⟩
  refine List.map_inj_right (f := fun (n : Nat) => (n : Int)) (fun x y z => by omega) |>.mp h
/-- numbers drawn one by one -/
theorem c_nums {m : Nat} (hm : 1 < m) {wd : Int} (hw : 1 ≤ wd ∧ wd ≤ 1000) {p : List D} (hp : Pool p) {o0 o2 o4 o5 o6 o7 o8 o9 o10 o11 o12 o13 o14 o15 : Option T} : ∃ (l : List Nat) (p' : List D), Pool p' ∧ (∀ n ∈ l, n < 1000) ∧ l.length ≤ 8 ∧
    (ev2 (lev fs Bx m) (.lc (.one 9) [9] (.rng1 (.call "_law_draw" (.cons (.nm 1) (.cons (.int 9) .nil)) [])) .none (.call "_law_draw" (.cons (.nm 1) (.cons (.nm 3) .nil)) []))).1 [o0, some (.ol p), o2, some (.fz (.int wd)), o4, o5, o6, o7, o8, o9, o10, o11, o12, o13, o14, o15] = .ok (.tmp (.ol (l.map fun (n : Nat) => .int (n : Int)))) [o0, some (.ol p'), o2, some (.fz (.int wd)), o4, o5, o6, o7, o8, o9, o10, o11, o12, o13, o14, o15] := by
  obtain ⟨r, p1, hp1, r0, r1, er⟩ := s_draw (m := 9) hp (by decide) (by decide)
  have er := er Bx m (by omega)
  obtain ⟨n, rfl⟩ : ∃ n : Nat, r = (n : Int) := ⟨r.toNat, by omega⟩
  obtain ⟨ys, ρ', e, l, hy, p3, hp3, rfl⟩ := lc_r1x (Φ := lev fs Bx m) (elt := .call "_law_draw" (.cons (.nm 1) (.cons (.nm 3) .nil)) []) (s := 9) (a := .call "_law_draw" (.cons (.nm 1) (.cons (.int 9) .nil)) []) (x := .tmp (.fz (.int (n : Int)))) (ρ := [o0, some (.ol p), o2, some (.fz (.int wd)), o4, o5, o6, o7, o8, o9, o10, o11, o12, o13, o14, o15]) (ρ1 := [o0, some (.ol p1), o2, some (.fz (.int wd)), o4, o5, o6, o7, o8, o9, o10, o11, o12, o13, o14, o15]) (fun ρ => ∃ p, Pool p ∧ ρ = [o0, some (.ol p), o2, some (.fz (.int wd)), o4, o5, o6, o7, o8, none, o10, o11, o12, o13, o14, o15]) (fun d => ∃ x : Nat, d = .int (x : Int) ∧ x < 1000) (n := n) (by simp -implicitDefEqProofs only [e_nm, e_int, e_str, e_bl, e_non, e_glb, e_bin, e_neg, e_cmp, t_cmp, chn_if, e_chn, t_chn, e_and, e_or, t_and, t_or, e_not, t_not, e_ite, e_lst, e_tup, e_idx, e_slc, e_call, e_bi, e_rl1, e_rl2, e_isi, e_me, e_mu, e_lrv, e_lrr, lrv_l, e_dn, e_d1, e_dpr, e_dat, e_din, t_din, e_dge, odf_none, odf_some, t_dat, t_dge, t_slc, t_lcd, x_dst, i_rv, isOd, dstFin, Opd.dic, dOf, Option.isSome_some, Option.isSome_none, t_nm, t_bl, t_idx, t_call, t_bi, t_isi, t_lc, t_bin, ds_nil, ds_cons, os_nil, os_cons, oi_none, oi_some, c_none, c_some, i_op, as_nm, as_mv, x_nil, x_cons, sq_nx, sq_rt, sq_bk, sq_ct, x_set, x_setF, x_setT, x_par, x_sub, x_expr, x_ret, x_if, x_raise, x_pass, x_brk, x_cont, x_tryC, x_tryI, bind_ok, bind_exc, map_ok, map_exc, of_some, bind_ite, map_ite, endR_ite, dflT, asT, asD, frz, ofB, cmpB, takeSlot, moveSlot, slotT, Opd.see, sees, T.view, truthD, cmpD, eqD, scalD, binD, negD, isKd, callF, takeA, putA, startR, endR_rt, endR_nx, endR_exc, backs, evB, evT, evD, evO, List.map_cons, List.map_nil, List.length_cons, List.length_nil, List.cons_append, List.nil_append, List.append_nil, List.set_cons_zero, List.set_cons_succ, List.getElem?_cons_zero, List.getElem?_cons_succ, List.replicate_zero, List.replicate_succ, Option.join_some, Option.join_none, Option.bind_some, Option.bind_none, Option.map_some, Option.map_none, Nat.reduceAdd, Nat.reduceSub, Nat.sub_self, List.any_cons, List.any_nil, Bool.or_false, Bool.false_or, Bool.or_true, Bool.true_or, Bool.and_true, Bool.true_and, Bool.and_false, Bool.false_and, Bool.not_true, Bool.not_false, Bool.false_eq_true, reduceIte, reduceCtorEq, decide_eq_true_eq, Bool.not_eq_true', decide_eq_false_iff_not, sz_eq, Nat.reduceLeDiff, isOl, subFin, muFin, muD, setFin, setMany, parFin, bi_len, bi_lenT, bi_abs, bi_int, bi_list, bi_listT, bi_max2, bi_min2, Ss.sets, S.sets, Tg.is, List.mem_cons, List.not_mem_nil, or_false, or_true, false_or, true_or, List.mem_append, List.append_assoc, List.append_eq, ixL, ixT, scL, meTy, Option.getD_some, List.isEmpty_nil, List.isEmpty_cons, er]) rfl (by omega) ⟨p1, hp1, rfl⟩ (by
    rintro i _ hi ⟨p, hp, rfl⟩
    obtain ⟨x, p', hp', h0, h1, e⟩ := s_draw (m := wd) hp (by omega) (by omega)
    have e := e Bx m (by omega)
    obtain ⟨x, rfl⟩ : ∃ n : Nat, x = (n : Int) := ⟨x.toNat, by omega⟩
    refine ⟨.int (x : Int), [o0, some (.ol p'), o2, some (.fz (.int wd)), o4, o5, o6, o7, o8, some (.fz (.int (i : Int))), o10, o11, o12, o13, o14, o15], by simp -implicitDefEqProofs only [e_nm, e_int, e_str, e_bl, e_non, e_glb, e_bin, e_neg, e_cmp, t_cmp, chn_if, e_chn, t_chn, e_and, e_or, t_and, t_or, e_not, t_not, e_ite, e_lst, e_tup, e_idx, e_slc, e_call, e_bi, e_rl1, e_rl2, e_isi, e_me, e_mu, e_lrv, e_lrr, lrv_l, e_dn, e_d1, e_dpr, e_dat, e_din, t_din, e_dge, odf_none, odf_some, t_dat, t_dge, t_slc, t_lcd, x_dst, i_rv, isOd, dstFin, Opd.dic, dOf, Option.isSome_some, Option.isSome_none, t_nm, t_bl, t_idx, t_call, t_bi, t_isi, t_lc, t_bin, ds_nil, ds_cons, os_nil, os_cons, oi_none, oi_some, c_none, c_some, i_op, as_nm, as_mv, x_nil, x_cons, sq_nx, sq_rt, sq_bk, sq_ct, x_set, x_setF, x_setT, x_par, x_sub, x_expr, x_ret, x_if, x_raise, x_pass, x_brk, x_cont, x_tryC, x_tryI, bind_ok, bind_exc, map_ok, map_exc, of_some, bind_ite, map_ite, endR_ite, dflT, asT, asD, frz, ofB, cmpB, takeSlot, moveSlot, slotT, Opd.see, sees, T.view, truthD, cmpD, eqD, scalD, binD, negD, isKd, callF, takeA, putA, startR, endR_rt, endR_nx, endR_exc, backs, evB, evT, evD, evO, List.map_cons, List.map_nil, List.length_cons, List.length_nil, List.cons_append, List.nil_append, List.append_nil, List.set_cons_zero, List.set_cons_succ, List.getElem?_cons_zero, List.getElem?_cons_succ, List.replicate_zero, List.replicate_succ, Option.join_some, Option.join_none, Option.bind_some, Option.bind_none, Option.map_some, Option.map_none, Nat.reduceAdd, Nat.reduceSub, Nat.sub_self, List.any_cons, List.any_nil, Bool.or_false, Bool.false_or, Bool.or_true, Bool.true_or, Bool.and_true, Bool.true_and, Bool.and_false, Bool.false_and, Bool.not_true, Bool.not_false, Bool.false_eq_true, reduceIte, reduceCtorEq, decide_eq_true_eq, Bool.not_eq_true', decide_eq_false_iff_not, sz_eq, Nat.reduceLeDiff, isOl, subFin, muFin, muD, setFin, setMany, parFin, bi_len, bi_lenT, bi_abs, bi_int, bi_list, bi_listT, bi_max2, bi_min2, Ss.sets, S.sets, Tg.is, List.mem_cons, List.not_mem_nil, or_false, or_true, false_or, true_or, List.mem_append, List.append_assoc, List.append_eq, ixL, ixT, scL, meTy, Option.getD_some, List.isEmpty_nil, List.isEmpty_cons, e], ⟨x, rfl, by omega⟩, p', hp', rfl⟩)
  obtain ⟨zs, rfl⟩ : ∃ zs : List Nat, ys = zs.map fun (n : Nat) => PyData.int (n : Int) := by
    clear e l
    induction ys with
    | nil => exact ⟨[], rfl⟩
    | cons y ys ih =>
      obtain ⟨zs, rfl⟩ := ih fun y h => hy y (List.mem_cons_of_mem _ h)
      obtain ⟨x, rfl, _⟩ := hy y (List.mem_cons_self ..)
      exact ⟨x :: zs, rfl⟩
  refine ⟨zs, p3, hp3, fun b hb => ?_, by rw [List.length_map] at l; omega, e⟩
  obtain ⟨x, hx, h⟩ := hy _ (List.mem_map.mpr ⟨b, hb, rfl⟩)
  have : b = x := by
    injection hx with hx
    omega
  omega
theorem s_round {m : Nat} (hm : 20 < m) {h p : Nat} (h2 : 2 ≤ h) (h3 : h ≤ 100) {rs : List Nat} (hr : Ls rs) (hp : p ≤ 20) {ds : List D} (hds : ds.length ≤ 100) {o0 o1 o3 o4 o5 o9 o10 o11 o12 o13 o14 o15 : Option T} : ∃ o, exSs (lev fs Bx m) (.cons (.set 12 (.lst .nil)) (.cons (.for_ (.one 13) (.rng1 (.nm 2)) (.cons (.expr (.mu .extend 12 (.cons (.lc (.one 15) [15] (.opd (.nm 6)) (.some (.cmp .Eq (.call "_law_figure" (.cons (.nm 15) (.cons (.nm 8) (.cons (.nm 2) .nil))) []) (.nm 13))) (.nm 15)) .nil))) .nil)) (.cons (.ifS (.not_ (.call "_law_same" (.cons (.call "passed" (.cons (.bi .list (.cons (.nm 6) .nil)) (.cons (.nm 8) (.cons (.nm 2) .nil))) []) (.cons (.nm 12) .nil)) [])) (.cons (.ret (.bl false)) .nil) .nil) (.cons (.setF 6 (.nm 12)) (.cons (.expr (.mu .append 7 (.cons (.nm 6) .nil))) .nil))))) [o0, o1, some (.fz (.int (h : Int))), o3, o4, o5, some (.fz (nl rs)), some (.ol ds), some (.fz (.int (p : Int))), o9, o10, o11, o12, o13, o14, o15] = .ok .nx [o0, o1, some (.fz (.int (h : Int))), o3, o4, o5, some (.fz (nl (pass h p rs))), some (.ol (ds ++ [nl (pass h p rs)])), some (.fz (.int (p : Int))), o9, o10, o11, some (.fz (nl (pass h p rs))), o, o14, o15] := by
  have hr2 := hr.2
  have t0 : exS (lev fs Bx m) (.set 12 (.lst .nil)) [o0, o1, some (.fz (.int (h : Int))), o3, o4, o5, some (.fz (nl rs)), some (.ol ds), some (.fz (.int (p : Int))), o9, o10, o11, o12, o13, o14, o15] = .ok .nx [o0, o1, some (.fz (.int (h : Int))), o3, o4, o5, some (.fz (nl rs)), some (.ol ds), some (.fz (.int (p : Int))), o9, o10, o11, some (.ol []), o13, o14, o15] := by
    simp -implicitDefEqProofs only [e_nm, e_int, e_str, e_bl, e_non, e_glb, e_bin, e_neg, e_cmp, t_cmp, chn_if, e_chn, t_chn, e_and, e_or, t_and, t_or, e_not, t_not, e_ite, e_lst, e_tup, e_idx, e_slc, e_call, e_bi, e_rl1, e_rl2, e_isi, e_me, e_mu, e_lrv, e_lrr, lrv_l, e_dn, e_d1, e_dpr, e_dat, e_din, t_din, e_dge, odf_none, odf_some, t_dat, t_dge, t_slc, t_lcd, x_dst, i_rv, isOd, dstFin, Opd.dic, dOf, Option.isSome_some, Option.isSome_none, t_nm, t_bl, t_idx, t_call, t_bi, t_isi, t_lc, t_bin, ds_nil, ds_cons, os_nil, os_cons, oi_none, oi_some, c_none, c_some, i_op, as_nm, as_mv, x_nil, x_cons, sq_nx, sq_rt, sq_bk, sq_ct, x_set, x_setF, x_setT, x_par, x_sub, x_expr, x_ret, x_if, x_raise, x_pass, x_brk, x_cont, x_tryC, x_tryI, bind_ok, bind_exc, map_ok, map_exc, of_some, bind_ite, map_ite, endR_ite, dflT, asT, asD, frz, ofB, cmpB, takeSlot, moveSlot, slotT, Opd.see, sees, T.view, truthD, cmpD, eqD, scalD, binD, negD, isKd, callF, takeA, putA, startR, endR_rt, endR_nx, endR_exc, backs, evB, evT, evD, evO, List.map_cons, List.map_nil, List.length_cons, List.length_nil, List.cons_append, List.nil_append, List.append_nil, List.set_cons_zero, List.set_cons_succ, List.getElem?_cons_zero, List.getElem?_cons_succ, List.replicate_zero, List.replicate_succ, Option.join_some, Option.join_none, Option.bind_some, Option.bind_none, Option.map_some, Option.map_none, Nat.reduceAdd, Nat.reduceSub, Nat.sub_self, List.any_cons, List.any_nil, Bool.or_false, Bool.false_or, Bool.or_true, Bool.true_or, Bool.and_true, Bool.true_and, Bool.and_false, Bool.false_and, Bool.not_true, Bool.not_false, Bool.false_eq_true, reduceIte, reduceCtorEq, decide_eq_true_eq, Bool.not_eq_true', decide_eq_false_iff_not, sz_eq, Nat.reduceLeDiff, isOl, subFin, muFin, muD, setFin, setMany, parFin, bi_len, bi_lenT, bi_abs, bi_int, bi_list, bi_listT, bi_max2, bi_min2, Ss.sets, S.sets, Tg.is, List.mem_cons, List.not_mem_nil, or_false, or_true, false_or, true_or, List.mem_append, List.append_assoc, List.append_eq, ixL, ixT, scL, meTy, Option.getD_some, List.isEmpty_nil, List.isEmpty_cons]
  have lp : ∃ o, exS (lev fs Bx m) (.for_ (.one 13) (.rng1 (.nm 2)) (.cons (.expr (.mu .extend 12 (.cons (.lc (.one 15) [15] (.opd (.nm 6)) (.some (.cmp .Eq (.call "_law_figure" (.cons (.nm 15) (.cons (.nm 8) (.cons (.nm 2) .nil))) []) (.nm 13))) (.nm 15)) .nil))) .nil)) [o0, o1, some (.fz (.int (h : Int))), o3, o4, o5, some (.fz (nl rs)), some (.ol ds), some (.fz (.int (p : Int))), o9, o10, o11, some (.ol []), o13, o14, o15] = .ok .nx [o0, o1, some (.fz (.int (h : Int))), o3, o4, o5, some (.fz (nl rs)), some (.ol ds), some (.fz (.int (p : Int))), o9, o10, o11, some (.ol ((pass h p rs).map fun (i : Nat) => .int (i : Int))), o, o14, o15] := by
    refine for_r1p (n := h) (x := .sl 2) (ρ1 := [o0, o1, some (.fz (.int (h : Int))), o3, o4, o5, some (.fz (nl rs)), some (.ol ds), some (.fz (.int (p : Int))), o9, o10, o11, some (.ol []), o13, o14, o15]) (fun i ρ => ∃ o, ρ = [o0, o1, some (.fz (.int (h : Int))), o3, o4, o5, some (.fz (nl rs)), some (.ol ds), some (.fz (.int (p : Int))), o9, o10, o11, some (.ol (((List.range i).flatMap fun v => rs.filter fun n => decide (fig h p n = v)).map fun (i : Nat) => .int (i : Int))), o, o14, o15]) (fun f => ∃ o, f = .ok .nx [o0, o1, some (.fz (.int (h : Int))), o3, o4, o5, some (.fz (nl rs)), some (.ol ds), some (.fz (.int (p : Int))), o9, o10, o11, some (.ol ((pass h p rs).map fun (i : Nat) => .int (i : Int))), o, o14, o15]) rfl rfl (by omega) ⟨_, rfl⟩ ?_ ?_
    · rintro i _ hi ⟨o, rfl⟩
      have fl := (flat_perm (fig h p) rs i).length_eq
      have f1 := List.length_filter_le (fun n => decide (fig h p n < i)) rs
      have f2 := List.length_filter_le (fun n => decide (fig h p n = i)) rs
      have sz : (((List.range i).flatMap fun v => rs.filter fun n => decide (fig h p n = v)).map fun (i : Nat) => PyData.int (i : Int)).length + ((rs.filter fun n => decide (fig h p n = i)).map fun (i : Nat) => PyData.int (i : Int)).length ≤ 16777216 := by
        rw [List.length_map, List.length_map]
        omega
      have er : (((List.range i).flatMap fun v => rs.filter fun n => decide (fig h p n = v)).map fun (i : Nat) => PyData.int (i : Int)) ++ ((rs.filter fun n => decide (fig h p n = i)).map fun (i : Nat) => PyData.int (i : Int)) = ((List.range (i + 1)).flatMap fun v => rs.filter fun n => decide (fig h p n = v)).map fun (i : Nat) => PyData.int (i : Int) := by
        rw [List.range_succ, List.flatMap_append, List.flatMap_cons, List.flatMap_nil, List.append_nil, List.map_append]
      have bd : exSs (lev fs Bx m) (.cons (.expr (.mu .extend 12 (.cons (.lc (.one 15) [15] (.opd (.nm 6)) (.some (.cmp .Eq (.call "_law_figure" (.cons (.nm 15) (.cons (.nm 8) (.cons (.nm 2) .nil))) []) (.nm 13))) (.nm 15)) .nil))) .nil) ([o0, o1, some (.fz (.int (h : Int))), o3, o4, o5, some (.fz (nl rs)), some (.ol ds), some (.fz (.int (p : Int))), o9, o10, o11, some (.ol (((List.range i).flatMap fun v => rs.filter fun n => decide (fig h p n = v)).map fun (i : Nat) => .int (i : Int))), o, o14, o15].set 13 (some (.fz (.int (i : Int))))) = .ok .nx [o0, o1, some (.fz (.int (h : Int))), o3, o4, o5, some (.fz (nl rs)), some (.ol ds), some (.fz (.int (p : Int))), o9, o10, o11, some (.ol (((List.range (i + 1)).flatMap fun v => rs.filter fun n => decide (fig h p n = v)).map fun (i : Nat) => .int (i : Int))), some (.fz (.int (i : Int))), o14, o15] := by
        simp -implicitDefEqProofs only [e_nm, e_int, e_str, e_bl, e_non, e_glb, e_bin, e_neg, e_cmp, t_cmp, chn_if, e_chn, t_chn, e_and, e_or, t_and, t_or, e_not, t_not, e_ite, e_lst, e_tup, e_idx, e_slc, e_call, e_bi, e_rl1, e_rl2, e_isi, e_me, e_mu, e_lrv, e_lrr, lrv_l, e_dn, e_d1, e_dpr, e_dat, e_din, t_din, e_dge, odf_none, odf_some, t_dat, t_dge, t_slc, t_lcd, x_dst, i_rv, isOd, dstFin, Opd.dic, dOf, Option.isSome_some, Option.isSome_none, t_nm, t_bl, t_idx, t_call, t_bi, t_isi, t_lc, t_bin, ds_nil, ds_cons, os_nil, os_cons, oi_none, oi_some, c_none, c_some, i_op, as_nm, as_mv, x_nil, x_cons, sq_nx, sq_rt, sq_bk, sq_ct, x_set, x_setF, x_setT, x_par, x_sub, x_expr, x_ret, x_if, x_raise, x_pass, x_brk, x_cont, x_tryC, x_tryI, bind_ok, bind_exc, map_ok, map_exc, of_some, bind_ite, map_ite, endR_ite, dflT, asT, asD, frz, ofB, cmpB, takeSlot, moveSlot, slotT, Opd.see, sees, T.view, truthD, cmpD, eqD, scalD, binD, negD, isKd, callF, takeA, putA, startR, endR_rt, endR_nx, endR_exc, backs, evB, evT, evD, evO, List.map_cons, List.map_nil, List.length_cons, List.length_nil, List.cons_append, List.nil_append, List.append_nil, List.set_cons_zero, List.set_cons_succ, List.getElem?_cons_zero, List.getElem?_cons_succ, List.replicate_zero, List.replicate_succ, Option.join_some, Option.join_none, Option.bind_some, Option.bind_none, Option.map_some, Option.map_none, Nat.reduceAdd, Nat.reduceSub, Nat.sub_self, List.any_cons, List.any_nil, Bool.or_false, Bool.false_or, Bool.or_true, Bool.true_or, Bool.and_true, Bool.true_and, Bool.and_false, Bool.false_and, Bool.not_true, Bool.not_false, Bool.false_eq_true, reduceIte, reduceCtorEq, decide_eq_true_eq, Bool.not_eq_true', decide_eq_false_iff_not, sz_eq, Nat.reduceLeDiff, isOl, subFin, muFin, muD, setFin, setMany, parFin, bi_len, bi_lenT, bi_abs, bi_int, bi_list, bi_listT, bi_max2, bi_min2, Ss.sets, S.sets, Tg.is, List.mem_cons, List.not_mem_nil, or_false, or_true, false_or, true_or, List.mem_append, List.append_assoc, List.append_eq, ixL, ixT, scL, meTy, Option.getD_some, List.isEmpty_nil, List.isEmpty_cons]
        rw [lc_lm (k := false) (rs := rs) (g := fun (n : Nat) => PyData.int (n : Int)) (fun n => decide (fig h p n = i)) (fun (n : Nat) => PyData.int (n : Int)) ?xa1 ?xb1 ?xh1 ?xn1 ?xc1 ?xd1 ?xp1 ?xe1]
        case xa1 => rfl
        case xb1 => rfl
        case xh1 => rfl
        case xn1 => exact fun z => by cases z
        case xc1 => exact Nat.le_of_ble_eq_true rfl
        case xd1 => first | omega | exact Nat.le_of_ble_eq_true rfl
        case xp1 =>
          intro n hn
          have q := s_lfig (k := m) (n := n) (p := p) h2 h3 (hr.1 n hn) (by omega)
          have dd : decide (((fig h p n : Nat) : Int) = (i : Int)) = decide (fig h p n = i) := decide_eq_decide.mpr (by omega)
          simp -implicitDefEqProofs only [e_nm, e_int, e_str, e_bl, e_non, e_glb, e_bin, e_neg, e_cmp, t_cmp, chn_if, e_chn, t_chn, e_and, e_or, t_and, t_or, e_not, t_not, e_ite, e_lst, e_tup, e_idx, e_slc, e_call, e_bi, e_rl1, e_rl2, e_isi, e_me, e_mu, e_lrv, e_lrr, lrv_l, e_dn, e_d1, e_dpr, e_dat, e_din, t_din, e_dge, odf_none, odf_some, t_dat, t_dge, t_slc, t_lcd, x_dst, i_rv, isOd, dstFin, Opd.dic, dOf, Option.isSome_some, Option.isSome_none, t_nm, t_bl, t_idx, t_call, t_bi, t_isi, t_lc, t_bin, ds_nil, ds_cons, os_nil, os_cons, oi_none, oi_some, c_none, c_some, i_op, as_nm, as_mv, x_nil, x_cons, sq_nx, sq_rt, sq_bk, sq_ct, x_set, x_setF, x_setT, x_par, x_sub, x_expr, x_ret, x_if, x_raise, x_pass, x_brk, x_cont, x_tryC, x_tryI, bind_ok, bind_exc, map_ok, map_exc, of_some, bind_ite, map_ite, endR_ite, dflT, asT, asD, frz, ofB, cmpB, takeSlot, moveSlot, slotT, Opd.see, sees, T.view, truthD, cmpD, eqD, scalD, binD, negD, isKd, callF, takeA, putA, startR, endR_rt, endR_nx, endR_exc, backs, evB, evT, evD, evO, List.map_cons, List.map_nil, List.length_cons, List.length_nil, List.cons_append, List.nil_append, List.append_nil, List.set_cons_zero, List.set_cons_succ, List.getElem?_cons_zero, List.getElem?_cons_succ, List.replicate_zero, List.replicate_succ, Option.join_some, Option.join_none, Option.bind_some, Option.bind_none, Option.map_some, Option.map_none, Nat.reduceAdd, Nat.reduceSub, Nat.sub_self, List.any_cons, List.any_nil, Bool.or_false, Bool.false_or, Bool.or_true, Bool.true_or, Bool.and_true, Bool.true_and, Bool.and_false, Bool.false_and, Bool.not_true, Bool.not_false, Bool.false_eq_true, reduceIte, reduceCtorEq, decide_eq_true_eq, Bool.not_eq_true', decide_eq_false_iff_not, sz_eq, Nat.reduceLeDiff, isOl, subFin, muFin, muD, setFin, setMany, parFin, bi_len, bi_lenT, bi_abs, bi_int, bi_list, bi_listT, bi_max2, bi_min2, Ss.sets, S.sets, Tg.is, List.mem_cons, List.not_mem_nil, or_false, or_true, false_or, true_or, List.mem_append, List.append_assoc, List.append_eq, ixL, ixT, scL, meTy, Option.getD_some, List.isEmpty_nil, List.isEmpty_cons, q, eqv_int, dd]
        case xe1 =>
          intro n hn _
          simp -implicitDefEqProofs only [e_nm, e_int, e_str, e_bl, e_non, e_glb, e_bin, e_neg, e_cmp, t_cmp, chn_if, e_chn, t_chn, e_and, e_or, t_and, t_or, e_not, t_not, e_ite, e_lst, e_tup, e_idx, e_slc, e_call, e_bi, e_rl1, e_rl2, e_isi, e_me, e_mu, e_lrv, e_lrr, lrv_l, e_dn, e_d1, e_dpr, e_dat, e_din, t_din, e_dge, odf_none, odf_some, t_dat, t_dge, t_slc, t_lcd, x_dst, i_rv, isOd, dstFin, Opd.dic, dOf, Option.isSome_some, Option.isSome_none, t_nm, t_bl, t_idx, t_call, t_bi, t_isi, t_lc, t_bin, ds_nil, ds_cons, os_nil, os_cons, oi_none, oi_some, c_none, c_some, i_op, as_nm, as_mv, x_nil, x_cons, sq_nx, sq_rt, sq_bk, sq_ct, x_set, x_setF, x_setT, x_par, x_sub, x_expr, x_ret, x_if, x_raise, x_pass, x_brk, x_cont, x_tryC, x_tryI, bind_ok, bind_exc, map_ok, map_exc, of_some, bind_ite, map_ite, endR_ite, dflT, asT, asD, frz, ofB, cmpB, takeSlot, moveSlot, slotT, Opd.see, sees, T.view, truthD, cmpD, eqD, scalD, binD, negD, isKd, callF, takeA, putA, startR, endR_rt, endR_nx, endR_exc, backs, evB, evT, evD, evO, List.map_cons, List.map_nil, List.length_cons, List.length_nil, List.cons_append, List.nil_append, List.append_nil, List.set_cons_zero, List.set_cons_succ, List.getElem?_cons_zero, List.getElem?_cons_succ, List.replicate_zero, List.replicate_succ, Option.join_some, Option.join_none, Option.bind_some, Option.bind_none, Option.map_some, Option.map_none, Nat.reduceAdd, Nat.reduceSub, Nat.sub_self, List.any_cons, List.any_nil, Bool.or_false, Bool.false_or, Bool.or_true, Bool.true_or, Bool.and_true, Bool.true_and, Bool.and_false, Bool.false_and, Bool.not_true, Bool.not_false, Bool.false_eq_true, reduceIte, reduceCtorEq, decide_eq_true_eq, Bool.not_eq_true', decide_eq_false_iff_not, sz_eq, Nat.reduceLeDiff, isOl, subFin, muFin, muD, setFin, setMany, parFin, bi_len, bi_lenT, bi_abs, bi_int, bi_list, bi_listT, bi_max2, bi_min2, Ss.sets, S.sets, Tg.is, List.mem_cons, List.not_mem_nil, or_false, or_true, false_or, true_or, List.mem_append, List.append_assoc, List.append_eq, ixL, ixT, scL, meTy, Option.getD_some, List.isEmpty_nil, List.isEmpty_cons]
        simp -implicitDefEqProofs only [e_nm, e_int, e_str, e_bl, e_non, e_glb, e_bin, e_neg, e_cmp, t_cmp, chn_if, e_chn, t_chn, e_and, e_or, t_and, t_or, e_not, t_not, e_ite, e_lst, e_tup, e_idx, e_slc, e_call, e_bi, e_rl1, e_rl2, e_isi, e_me, e_mu, e_lrv, e_lrr, lrv_l, e_dn, e_d1, e_dpr, e_dat, e_din, t_din, e_dge, odf_none, odf_some, t_dat, t_dge, t_slc, t_lcd, x_dst, i_rv, isOd, dstFin, Opd.dic, dOf, Option.isSome_some, Option.isSome_none, t_nm, t_bl, t_idx, t_call, t_bi, t_isi, t_lc, t_bin, ds_nil, ds_cons, os_nil, os_cons, oi_none, oi_some, c_none, c_some, i_op, as_nm, as_mv, x_nil, x_cons, sq_nx, sq_rt, sq_bk, sq_ct, x_set, x_setF, x_setT, x_par, x_sub, x_expr, x_ret, x_if, x_raise, x_pass, x_brk, x_cont, x_tryC, x_tryI, bind_ok, bind_exc, map_ok, map_exc, of_some, bind_ite, map_ite, endR_ite, dflT, asT, asD, frz, ofB, cmpB, takeSlot, moveSlot, slotT, Opd.see, sees, T.view, truthD, cmpD, eqD, scalD, binD, negD, isKd, callF, takeA, putA, startR, endR_rt, endR_nx, endR_exc, backs, evB, evT, evD, evO, List.map_cons, List.map_nil, List.length_cons, List.length_nil, List.cons_append, List.nil_append, List.append_nil, List.set_cons_zero, List.set_cons_succ, List.getElem?_cons_zero, List.getElem?_cons_succ, List.replicate_zero, List.replicate_succ, Option.join_some, Option.join_none, Option.bind_some, Option.bind_none, Option.map_some, Option.map_none, Nat.reduceAdd, Nat.reduceSub, Nat.sub_self, List.any_cons, List.any_nil, Bool.or_false, Bool.false_or, Bool.or_true, Bool.true_or, Bool.and_true, Bool.true_and, Bool.and_false, Bool.false_and, Bool.not_true, Bool.not_false, Bool.false_eq_true, reduceIte, reduceCtorEq, decide_eq_true_eq, Bool.not_eq_true', decide_eq_false_iff_not, sz_eq, Nat.reduceLeDiff, isOl, subFin, muFin, muD, setFin, setMany, parFin, bi_len, bi_lenT, bi_abs, bi_int, bi_list, bi_listT, bi_max2, bi_min2, Ss.sets, S.sets, Tg.is, List.mem_cons, List.not_mem_nil, or_false, or_true, false_or, true_or, List.mem_append, List.append_assoc, List.append_eq, ixL, ixT, scL, meTy, Option.getD_some, List.isEmpty_nil, List.isEmpty_cons, sz, er]
      rw [bd]
      exact ⟨_, rfl⟩
    · rintro _ ⟨o, rfl⟩
      exact ⟨o, rfl⟩
  obtain ⟨o, lp⟩ := lp
  have lpp := (pass_perm (by omega : 1 ≤ h) p rs).length_eq
  have c1 := s_pass (k := m) (t := .ol (rs.map fun (n : Nat) => .int (n : Int))) (rs := rs) (p := p) rfl hr h2 h3 hp (by omega)
  have s1 : (lev fs Bx m).call "_law_same" [.ol ((pass h p rs).map fun (i : Nat) => .int (i : Int)), .ol ((pass h p rs).map fun (i : Nat) => .int (i : Int))] = _ := s_same (n := 2) (d := nl (pass h p rs)) (by omega) (good_nl (by omega)) rfl rfl
  refine ⟨o, (seq_nx t0).trans ((seq_nx lp).trans ?_)⟩
  have dz : ds.length < 16777216 := by omega
  simp -implicitDefEqProofs only [e_nm, e_int, e_str, e_bl, e_non, e_glb, e_bin, e_neg, e_cmp, t_cmp, chn_if, e_chn, t_chn, e_and, e_or, t_and, t_or, e_not, t_not, e_ite, e_lst, e_tup, e_idx, e_slc, e_call, e_bi, e_rl1, e_rl2, e_isi, e_me, e_mu, e_lrv, e_lrr, lrv_l, e_dn, e_d1, e_dpr, e_dat, e_din, t_din, e_dge, odf_none, odf_some, t_dat, t_dge, t_slc, t_lcd, x_dst, i_rv, isOd, dstFin, Opd.dic, dOf, Option.isSome_some, Option.isSome_none, t_nm, t_bl, t_idx, t_call, t_bi, t_isi, t_lc, t_bin, ds_nil, ds_cons, os_nil, os_cons, oi_none, oi_some, c_none, c_some, i_op, as_nm, as_mv, x_nil, x_cons, sq_nx, sq_rt, sq_bk, sq_ct, x_set, x_setF, x_setT, x_par, x_sub, x_expr, x_ret, x_if, x_raise, x_pass, x_brk, x_cont, x_tryC, x_tryI, bind_ok, bind_exc, map_ok, map_exc, of_some, bind_ite, map_ite, endR_ite, dflT, asT, asD, frz, ofB, cmpB, takeSlot, moveSlot, slotT, Opd.see, sees, T.view, truthD, cmpD, eqD, scalD, binD, negD, isKd, callF, takeA, putA, startR, endR_rt, endR_nx, endR_exc, backs, evB, evT, evD, evO, List.map_cons, List.map_nil, List.length_cons, List.length_nil, List.cons_append, List.nil_append, List.append_nil, List.set_cons_zero, List.set_cons_succ, List.getElem?_cons_zero, List.getElem?_cons_succ, List.replicate_zero, List.replicate_succ, Option.join_some, Option.join_none, Option.bind_some, Option.bind_none, Option.map_some, Option.map_none, Nat.reduceAdd, Nat.reduceSub, Nat.sub_self, List.any_cons, List.any_nil, Bool.or_false, Bool.false_or, Bool.or_true, Bool.true_or, Bool.and_true, Bool.true_and, Bool.and_false, Bool.false_and, Bool.not_true, Bool.not_false, Bool.false_eq_true, reduceIte, reduceCtorEq, decide_eq_true_eq, Bool.not_eq_true', decide_eq_false_iff_not, sz_eq, Nat.reduceLeDiff, isOl, subFin, muFin, muD, setFin, setMany, parFin, bi_len, bi_lenT, bi_abs, bi_int, bi_list, bi_listT, bi_max2, bi_min2, Ss.sets, S.sets, Tg.is, List.mem_cons, List.not_mem_nil, or_false, or_true, false_or, true_or, List.mem_append, List.append_assoc, List.append_eq, ixL, ixT, scL, meTy, Option.getD_some, List.isEmpty_nil, List.isEmpty_cons, c1, s1, dz]
theorem s_tail {m : Nat} (hm : 20 < m) {h L : Nat} (h2 : 2 ≤ h) (h3 : h ≤ 100) {rs : List Nat} (hr : Ls rs) (hrs : ∀ n ∈ rs, n < 1000) (hl : rs.length ≤ 8) (eL : (figs h (tpn rs)).length = L) (ht : tpn rs < 1000) (hL : L ≤ 10) {p : List D} (hp : Pool p) {o0 o3 o8 o9 o10 o11 o12 o13 o14 o15 : Option T} : RT (exSs (lev fs Bx m) (.cons (.ifS (.or_ (.not_ (.call "_law_same" (.cons (.call "passes" (.cons (.bi .list (.cons (.nm 4) .nil)) (.cons (.nm 5) (.cons (.nm 2) .nil))) []) (.cons (.nm 7) .nil)) [])) (.cmp .NotEq (.nm 6) (.bi .sorted (.cons (.nm 4) .nil)))) (.cons (.ret (.bl false)) .nil) .nil) (.cons (.ifS (.cmp .Gt (.nm 5) (.int 0)) (.cons (.setF 14 (.int 1)) (.cons (.for_ (.one 9) (.rng1 (.bin .Sub (.nm 5) (.int 1))) (.cons (.setF 14 (.bin .Mult (.nm 14) (.nm 2))) .nil)) (.cons (.ifS (.cmp .NotEq (.call "passes" (.cons (.lst (.cons (.nm 14) (.cons (.int 0) .nil))) (.cons (.bin .Sub (.nm 5) (.int 1)) (.cons (.nm 2) .nil))) []) (.lc (.one 9) [9] (.rng1 (.bin .Sub (.nm 5) (.int 1))) .none (.lst (.cons (.nm 14) (.cons (.int 0) .nil))))) (.cons (.ret (.bl false)) .nil) .nil) .nil))) .nil) (.cons (.for_ (.one 9) (.rng1 (.int 5)) (.cons (.setF 15 (.call "_law_draw" (.cons (.nm 1) (.cons (.int 1000) .nil)) [])) (.cons (.setF 8 (.call "_law_draw" (.cons (.nm 1) (.cons (.int 6) .nil)) [])) (.cons (.ifS (.not_ (.call "_law_same" (.cons (.call "figure" (.cons (.nm 15) (.cons (.nm 8) (.cons (.nm 2) .nil))) []) (.cons (.call "_law_figure" (.cons (.nm 15) (.cons (.nm 8) (.cons (.nm 2) .nil))) []) .nil)) [])) (.cons (.ret (.bl false)) .nil) .nil) .nil)))) (.cons (.setF 10 (.call "_law_pick" (.cons (.nm 1) (.cons (.lst (.cons (.neg (.int 1)) (.cons (.int 1000001) (.cons (.bl true) .nil)))) .nil)) [])) (.cons (.ifS (.or_ (.cmp .NotEq (.call "_law_refused" (.cons (.int 0) (.cons (.lst (.cons (.int 5) (.cons (.nm 10) .nil))) (.cons (.int 0) (.cons (.int 0) .nil)))) []) (.str "number")) (.cmp .NotEq (.call "_law_refused" (.cons (.int 0) (.cons (.lc (.one 9) [9] (.rng1 (.int 201)) .none (.int 1)) (.cons (.int 0) (.cons (.int 0) .nil)))) []) (.str "many"))) (.cons (.ret (.bl false)) .nil) .nil) (.cons (.ifS (.or_ (.cmp .NotEq (.call "_law_refused" (.cons (.int 1) (.cons (.nm 10) (.cons (.int 0) (.cons (.int 2) .nil)))) []) (.str "number")) (.cmp .NotEq (.call "_law_refused" (.cons (.int 1) (.cons (.int 5) (.cons (.call "_law_pick" (.cons (.nm 1) (.cons (.lst (.cons (.neg (.int 1)) (.cons (.int 21) (.cons (.bl true) .nil)))) .nil)) []) (.cons (.int 2) .nil)))) []) (.str "number"))) (.cons (.ret (.bl false)) .nil) .nil) (.cons (.setF 11 (.call "_law_pick" (.cons (.nm 1) (.cons (.lst (.cons (.int 1) (.cons (.int 101) (.cons (.int 0) (.cons (.bl true) .nil))))) .nil)) [])) (.cons (.ifS (.or_ (.cmp .NotEq (.call "_law_refused" (.cons (.int 1) (.cons (.int 5) (.cons (.int 0) (.cons (.nm 11) .nil)))) []) (.str "number")) (.or_ (.cmp .NotEq (.call "_law_refused" (.cons (.int 2) (.cons (.lst (.cons (.int 5) .nil)) (.cons (.int 0) (.cons (.nm 11) .nil)))) []) (.str "number")) (.cmp .NotEq (.call "_law_refused" (.cons (.int 3) (.cons (.lst .nil) (.cons (.int 1) (.cons (.nm 11) .nil)))) []) (.str "number")))) (.cons (.ret (.bl false)) .nil) .nil) (.cons (.ret (.and_ (.cmp .Eq (.call "_law_refused" (.cons (.int 4) (.cons (.lst (.cons (.int 5) .nil)) (.cons (.nm 11) (.cons (.int 0) .nil)))) []) (.str "number")) (.and_ (.cmp .Eq (.call "_law_refused" (.cons (.int 3) (.cons (.lst .nil) (.cons (.call "_law_pick" (.cons (.nm 1) (.cons (.lst (.cons (.neg (.int 1)) (.cons (.int 21) (.cons (.bl true) .nil)))) .nil)) []) (.cons (.int 2) .nil)))) []) (.str "number")) (.cmp .Eq (.call "_law_refused" (.cons (.int 5) (.cons (.nm 11) (.cons (.int 0) (.cons (.int 0) .nil)))) []) (.str "number"))))) .nil))))))))) [o0, some (.ol p), some (.fz (.int (h : Int))), o3, some (.fz (nl rs)), some (.fz (.int (L : Int))), some (.fz (nl (psn h rs L))), some (.ol (psl h rs L)), o8, o9, o10, o11, o12, o13, o14, o15]) := by
  have lps := (psn_perm (by omega : 1 ≤ h) rs L)
  have t10 : exS (lev fs Bx m) (.ifS (.or_ (.not_ (.call "_law_same" (.cons (.call "passes" (.cons (.bi .list (.cons (.nm 4) .nil)) (.cons (.nm 5) (.cons (.nm 2) .nil))) []) (.cons (.nm 7) .nil)) [])) (.cmp .NotEq (.nm 6) (.bi .sorted (.cons (.nm 4) .nil)))) (.cons (.ret (.bl false)) .nil) .nil) [o0, some (.ol p), some (.fz (.int (h : Int))), o3, some (.fz (nl rs)), some (.fz (.int (L : Int))), some (.fz (nl (psn h rs L))), some (.ol (psl h rs L)), o8, o9, o10, o11, o12, o13, o14, o15] = .ok .nx [o0, some (.ol p), some (.fz (.int (h : Int))), o3, some (.fz (nl rs)), some (.fz (.int (L : Int))), some (.fz (nl (psn h rs L))), some (.ol (psl h rs L)), o8, o9, o10, o11, o12, o13, o14, o15] := by
    have c1 := s_passes (k := m) (t := .ol (rs.map fun (n : Nat) => .int (n : Int))) (rs := rs) (m := L) rfl hr h2 h3 (by omega) (by omega)
    have s1 : (lev fs Bx m).call "_law_same" [.ol (psl h rs L), .ol (psl h rs L)] = _ := s_same (n := 3) (d := .list (psl h rs L)) (by omega) ⟨by unfold psl; rw [List.length_map, List.length_range]; omega, fun e he => by
      obtain ⟨q, _, rfl⟩ := List.mem_map.mp he
      exact good_nl (by rw [(psn_perm (by omega : 1 ≤ h) rs (q + 1)).length_eq]; omega)⟩ rfl rfl
    have sn := sort_nat (rs := rs) (l := psn h rs L) lps.symm (psn_top (by omega) fun n hn => Nat.lt_of_le_of_lt (top_le hn) (by rw [← eL]; exact figs_lt h2 _)) (by omega)
    have sh : ∀ l : List Nat, SeqAt.shaped (nl l) = true := fun l => shp_map (fun (n : Nat) => PyData.int (n : Int)) l (fun _ _ => rfl) (fun _ _ => by show 0 ≤ 60; decide)
    have ev := eqv_nl (psn h rs L) (psn h rs L)
    rw [decide_eq_true rfl] at ev
    simp -implicitDefEqProofs only [e_nm, e_int, e_str, e_bl, e_non, e_glb, e_bin, e_neg, e_cmp, t_cmp, chn_if, e_chn, t_chn, e_and, e_or, t_and, t_or, e_not, t_not, e_ite, e_lst, e_tup, e_idx, e_slc, e_call, e_bi, e_rl1, e_rl2, e_isi, e_me, e_mu, e_lrv, e_lrr, lrv_l, e_dn, e_d1, e_dpr, e_dat, e_din, t_din, e_dge, odf_none, odf_some, t_dat, t_dge, t_slc, t_lcd, x_dst, i_rv, isOd, dstFin, Opd.dic, dOf, Option.isSome_some, Option.isSome_none, t_nm, t_bl, t_idx, t_call, t_bi, t_isi, t_lc, t_bin, ds_nil, ds_cons, os_nil, os_cons, oi_none, oi_some, c_none, c_some, i_op, as_nm, as_mv, x_nil, x_cons, sq_nx, sq_rt, sq_bk, sq_ct, x_set, x_setF, x_setT, x_par, x_sub, x_expr, x_ret, x_if, x_raise, x_pass, x_brk, x_cont, x_tryC, x_tryI, bind_ok, bind_exc, map_ok, map_exc, of_some, bind_ite, map_ite, endR_ite, dflT, asT, asD, frz, ofB, cmpB, takeSlot, moveSlot, slotT, Opd.see, sees, T.view, truthD, cmpD, eqD, scalD, binD, negD, isKd, callF, takeA, putA, startR, endR_rt, endR_nx, endR_exc, backs, evB, evT, evD, evO, List.map_cons, List.map_nil, List.length_cons, List.length_nil, List.cons_append, List.nil_append, List.append_nil, List.set_cons_zero, List.set_cons_succ, List.getElem?_cons_zero, List.getElem?_cons_succ, List.replicate_zero, List.replicate_succ, Option.join_some, Option.join_none, Option.bind_some, Option.bind_none, Option.map_some, Option.map_none, Nat.reduceAdd, Nat.reduceSub, Nat.sub_self, List.any_cons, List.any_nil, Bool.or_false, Bool.false_or, Bool.or_true, Bool.true_or, Bool.and_true, Bool.true_and, Bool.and_false, Bool.false_and, Bool.not_true, Bool.not_false, Bool.false_eq_true, reduceIte, reduceCtorEq, decide_eq_true_eq, Bool.not_eq_true', decide_eq_false_iff_not, sz_eq, Nat.reduceLeDiff, isOl, subFin, muFin, muD, setFin, setMany, parFin, bi_len, bi_lenT, bi_abs, bi_int, bi_list, bi_listT, bi_max2, bi_min2, Ss.sets, S.sets, Tg.is, List.mem_cons, List.not_mem_nil, or_false, or_true, false_or, true_or, List.mem_append, List.append_assoc, List.append_eq, ixL, ixT, scL, meTy, Option.getD_some, List.isEmpty_nil, List.isEmpty_cons, c1, s1, sn, sh, ev]
  have t11 : ∃ x9 x14, exS (lev fs Bx m) (.ifS (.cmp .Gt (.nm 5) (.int 0)) (.cons (.setF 14 (.int 1)) (.cons (.for_ (.one 9) (.rng1 (.bin .Sub (.nm 5) (.int 1))) (.cons (.setF 14 (.bin .Mult (.nm 14) (.nm 2))) .nil)) (.cons (.ifS (.cmp .NotEq (.call "passes" (.cons (.lst (.cons (.nm 14) (.cons (.int 0) .nil))) (.cons (.bin .Sub (.nm 5) (.int 1)) (.cons (.nm 2) .nil))) []) (.lc (.one 9) [9] (.rng1 (.bin .Sub (.nm 5) (.int 1))) .none (.lst (.cons (.nm 14) (.cons (.int 0) .nil))))) (.cons (.ret (.bl false)) .nil) .nil) .nil))) .nil) [o0, some (.ol p), some (.fz (.int (h : Int))), o3, some (.fz (nl rs)), some (.fz (.int (L : Int))), some (.fz (nl (psn h rs L))), some (.ol (psl h rs L)), o8, o9, o10, o11, o12, o13, o14, o15] = .ok .nx [o0, some (.ol p), some (.fz (.int (h : Int))), o3, some (.fz (nl rs)), some (.fz (.int (L : Int))), some (.fz (nl (psn h rs L))), some (.ol (psl h rs L)), o8, x9, o10, o11, o12, o13, x14, o15] := by
    by_cases h0 : L = 0
    · subst h0
      exact ⟨_, _, rfl⟩
    have dL : decide ((0 : Int) < (L : Int)) = true := decide_eq_true (by omega)
    have hq : h ^ (L - 1) ≤ tpn rs := by
      rw [← eL]
      refine figs_ge h2 _ (Nat.pos_of_ne_zero fun z => ?_)
      rw [z, figs_zero] at eL
      exact h0 eL.symm
    have cL : (L : Int) - 1 = ((L - 1 : Nat) : Int) := by omega
    have a0 : exS (lev fs Bx m) (.setF 14 (.int 1)) [o0, some (.ol p), some (.fz (.int (h : Int))), o3, some (.fz (nl rs)), some (.fz (.int (L : Int))), some (.fz (nl (psn h rs L))), some (.ol (psl h rs L)), o8, o9, o10, o11, o12, o13, o14, o15] = .ok .nx [o0, some (.ol p), some (.fz (.int (h : Int))), o3, some (.fz (nl rs)), some (.fz (.int (L : Int))), some (.fz (nl (psn h rs L))), some (.ol (psl h rs L)), o8, o9, o10, o11, o12, o13, some (.fz (.int 1)), o15] := by
      simp -implicitDefEqProofs only [e_nm, e_int, e_str, e_bl, e_non, e_glb, e_bin, e_neg, e_cmp, t_cmp, chn_if, e_chn, t_chn, e_and, e_or, t_and, t_or, e_not, t_not, e_ite, e_lst, e_tup, e_idx, e_slc, e_call, e_bi, e_rl1, e_rl2, e_isi, e_me, e_mu, e_lrv, e_lrr, lrv_l, e_dn, e_d1, e_dpr, e_dat, e_din, t_din, e_dge, odf_none, odf_some, t_dat, t_dge, t_slc, t_lcd, x_dst, i_rv, isOd, dstFin, Opd.dic, dOf, Option.isSome_some, Option.isSome_none, t_nm, t_bl, t_idx, t_call, t_bi, t_isi, t_lc, t_bin, ds_nil, ds_cons, os_nil, os_cons, oi_none, oi_some, c_none, c_some, i_op, as_nm, as_mv, x_nil, x_cons, sq_nx, sq_rt, sq_bk, sq_ct, x_set, x_setF, x_setT, x_par, x_sub, x_expr, x_ret, x_if, x_raise, x_pass, x_brk, x_cont, x_tryC, x_tryI, bind_ok, bind_exc, map_ok, map_exc, of_some, bind_ite, map_ite, endR_ite, dflT, asT, asD, frz, ofB, cmpB, takeSlot, moveSlot, slotT, Opd.see, sees, T.view, truthD, cmpD, eqD, scalD, binD, negD, isKd, callF, takeA, putA, startR, endR_rt, endR_nx, endR_exc, backs, evB, evT, evD, evO, List.map_cons, List.map_nil, List.length_cons, List.length_nil, List.cons_append, List.nil_append, List.append_nil, List.set_cons_zero, List.set_cons_succ, List.getElem?_cons_zero, List.getElem?_cons_succ, List.replicate_zero, List.replicate_succ, Option.join_some, Option.join_none, Option.bind_some, Option.bind_none, Option.map_some, Option.map_none, Nat.reduceAdd, Nat.reduceSub, Nat.sub_self, List.any_cons, List.any_nil, Bool.or_false, Bool.false_or, Bool.or_true, Bool.true_or, Bool.and_true, Bool.true_and, Bool.and_false, Bool.false_and, Bool.not_true, Bool.not_false, Bool.false_eq_true, reduceIte, reduceCtorEq, decide_eq_true_eq, Bool.not_eq_true', decide_eq_false_iff_not, sz_eq, Nat.reduceLeDiff, isOl, subFin, muFin, muD, setFin, setMany, parFin, bi_len, bi_lenT, bi_abs, bi_int, bi_list, bi_listT, bi_max2, bi_min2, Ss.sets, S.sets, Tg.is, List.mem_cons, List.not_mem_nil, or_false, or_true, false_or, true_or, List.mem_append, List.append_assoc, List.append_eq, ixL, ixT, scL, meTy, Option.getD_some, List.isEmpty_nil, List.isEmpty_cons]
    have a1 : ∃ x9, exS (lev fs Bx m) (.for_ (.one 9) (.rng1 (.bin .Sub (.nm 5) (.int 1))) (.cons (.setF 14 (.bin .Mult (.nm 14) (.nm 2))) .nil)) [o0, some (.ol p), some (.fz (.int (h : Int))), o3, some (.fz (nl rs)), some (.fz (.int (L : Int))), some (.fz (nl (psn h rs L))), some (.ol (psl h rs L)), o8, o9, o10, o11, o12, o13, some (.fz (.int 1)), o15] = .ok .nx [o0, some (.ol p), some (.fz (.int (h : Int))), o3, some (.fz (nl rs)), some (.fz (.int (L : Int))), some (.fz (nl (psn h rs L))), some (.ol (psl h rs L)), o8, x9, o10, o11, o12, o13, some (.fz (.int ((h ^ (L - 1) : Nat) : Int))), o15] := by
      refine for_r1p (n := L - 1) (x := .tmp (.fz (.int ((L - 1 : Nat) : Int)))) (ρ1 := [o0, some (.ol p), some (.fz (.int (h : Int))), o3, some (.fz (nl rs)), some (.fz (.int (L : Int))), some (.fz (nl (psn h rs L))), some (.ol (psl h rs L)), o8, o9, o10, o11, o12, o13, some (.fz (.int 1)), o15]) (fun i ρ => ∃ x9, ρ = [o0, some (.ol p), some (.fz (.int (h : Int))), o3, some (.fz (nl rs)), some (.fz (.int (L : Int))), some (.fz (nl (psn h rs L))), some (.ol (psl h rs L)), o8, x9, o10, o11, o12, o13, some (.fz (.int ((h ^ i : Nat) : Int))), o15]) (fun f => ∃ x9, f = .ok .nx [o0, some (.ol p), some (.fz (.int (h : Int))), o3, some (.fz (nl rs)), some (.fz (.int (L : Int))), some (.fz (nl (psn h rs L))), some (.ol (psl h rs L)), o8, x9, o10, o11, o12, o13, some (.fz (.int ((h ^ (L - 1) : Nat) : Int))), o15]) (by simp -implicitDefEqProofs only [e_nm, e_int, e_str, e_bl, e_non, e_glb, e_bin, e_neg, e_cmp, t_cmp, chn_if, e_chn, t_chn, e_and, e_or, t_and, t_or, e_not, t_not, e_ite, e_lst, e_tup, e_idx, e_slc, e_call, e_bi, e_rl1, e_rl2, e_isi, e_me, e_mu, e_lrv, e_lrr, lrv_l, e_dn, e_d1, e_dpr, e_dat, e_din, t_din, e_dge, odf_none, odf_some, t_dat, t_dge, t_slc, t_lcd, x_dst, i_rv, isOd, dstFin, Opd.dic, dOf, Option.isSome_some, Option.isSome_none, t_nm, t_bl, t_idx, t_call, t_bi, t_isi, t_lc, t_bin, ds_nil, ds_cons, os_nil, os_cons, oi_none, oi_some, c_none, c_some, i_op, as_nm, as_mv, x_nil, x_cons, sq_nx, sq_rt, sq_bk, sq_ct, x_set, x_setF, x_setT, x_par, x_sub, x_expr, x_ret, x_if, x_raise, x_pass, x_brk, x_cont, x_tryC, x_tryI, bind_ok, bind_exc, map_ok, map_exc, of_some, bind_ite, map_ite, endR_ite, dflT, asT, asD, frz, ofB, cmpB, takeSlot, moveSlot, slotT, Opd.see, sees, T.view, truthD, cmpD, eqD, scalD, binD, negD, isKd, callF, takeA, putA, startR, endR_rt, endR_nx, endR_exc, backs, evB, evT, evD, evO, List.map_cons, List.map_nil, List.length_cons, List.length_nil, List.cons_append, List.nil_append, List.append_nil, List.set_cons_zero, List.set_cons_succ, List.getElem?_cons_zero, List.getElem?_cons_succ, List.replicate_zero, List.replicate_succ, Option.join_some, Option.join_none, Option.bind_some, Option.bind_none, Option.map_some, Option.map_none, Nat.reduceAdd, Nat.reduceSub, Nat.sub_self, List.any_cons, List.any_nil, Bool.or_false, Bool.false_or, Bool.or_true, Bool.true_or, Bool.and_true, Bool.true_and, Bool.and_false, Bool.false_and, Bool.not_true, Bool.not_false, Bool.false_eq_true, reduceIte, reduceCtorEq, decide_eq_true_eq, Bool.not_eq_true', decide_eq_false_iff_not, sz_eq, Nat.reduceLeDiff, isOl, subFin, muFin, muD, setFin, setMany, parFin, bi_len, bi_lenT, bi_abs, bi_int, bi_list, bi_listT, bi_max2, bi_min2, Ss.sets, S.sets, Tg.is, List.mem_cons, List.not_mem_nil, or_false, or_true, false_or, true_or, List.mem_append, List.append_assoc, List.append_eq, ixL, ixT, scL, meTy, Option.getD_some, List.isEmpty_nil, List.isEmpty_cons, cL]) rfl (by omega) ⟨_, rfl⟩ ?_ ?_
      · rintro i _ hi ⟨x9, rfl⟩
        have mo : mulOk ((h ^ i : Nat) : Int) (h : Int) = true := mul_r (by omega)
        have e : ((h ^ i : Nat) : Int) * (h : Int) = ((h ^ (i + 1) : Nat) : Int) := by rw [Nat.pow_succ, Int.natCast_mul]
        have bd : exSs (lev fs Bx m) (.cons (.setF 14 (.bin .Mult (.nm 14) (.nm 2))) .nil) ([o0, some (.ol p), some (.fz (.int (h : Int))), o3, some (.fz (nl rs)), some (.fz (.int (L : Int))), some (.fz (nl (psn h rs L))), some (.ol (psl h rs L)), o8, x9, o10, o11, o12, o13, some (.fz (.int ((h ^ i : Nat) : Int))), o15].set 9 (some (.fz (.int (i : Int))))) = .ok .nx [o0, some (.ol p), some (.fz (.int (h : Int))), o3, some (.fz (nl rs)), some (.fz (.int (L : Int))), some (.fz (nl (psn h rs L))), some (.ol (psl h rs L)), o8, some (.fz (.int (i : Int))), o10, o11, o12, o13, some (.fz (.int ((h ^ (i + 1) : Nat) : Int))), o15] := by
          simp -implicitDefEqProofs only [e_nm, e_int, e_str, e_bl, e_non, e_glb, e_bin, e_neg, e_cmp, t_cmp, chn_if, e_chn, t_chn, e_and, e_or, t_and, t_or, e_not, t_not, e_ite, e_lst, e_tup, e_idx, e_slc, e_call, e_bi, e_rl1, e_rl2, e_isi, e_me, e_mu, e_lrv, e_lrr, lrv_l, e_dn, e_d1, e_dpr, e_dat, e_din, t_din, e_dge, odf_none, odf_some, t_dat, t_dge, t_slc, t_lcd, x_dst, i_rv, isOd, dstFin, Opd.dic, dOf, Option.isSome_some, Option.isSome_none, t_nm, t_bl, t_idx, t_call, t_bi, t_isi, t_lc, t_bin, ds_nil, ds_cons, os_nil, os_cons, oi_none, oi_some, c_none, c_some, i_op, as_nm, as_mv, x_nil, x_cons, sq_nx, sq_rt, sq_bk, sq_ct, x_set, x_setF, x_setT, x_par, x_sub, x_expr, x_ret, x_if, x_raise, x_pass, x_brk, x_cont, x_tryC, x_tryI, bind_ok, bind_exc, map_ok, map_exc, of_some, bind_ite, map_ite, endR_ite, dflT, asT, asD, frz, ofB, cmpB, takeSlot, moveSlot, slotT, Opd.see, sees, T.view, truthD, cmpD, eqD, scalD, binD, negD, isKd, callF, takeA, putA, startR, endR_rt, endR_nx, endR_exc, backs, evB, evT, evD, evO, List.map_cons, List.map_nil, List.length_cons, List.length_nil, List.cons_append, List.nil_append, List.append_nil, List.set_cons_zero, List.set_cons_succ, List.getElem?_cons_zero, List.getElem?_cons_succ, List.replicate_zero, List.replicate_succ, Option.join_some, Option.join_none, Option.bind_some, Option.bind_none, Option.map_some, Option.map_none, Nat.reduceAdd, Nat.reduceSub, Nat.sub_self, List.any_cons, List.any_nil, Bool.or_false, Bool.false_or, Bool.or_true, Bool.true_or, Bool.and_true, Bool.true_and, Bool.and_false, Bool.false_and, Bool.not_true, Bool.not_false, Bool.false_eq_true, reduceIte, reduceCtorEq, decide_eq_true_eq, Bool.not_eq_true', decide_eq_false_iff_not, sz_eq, Nat.reduceLeDiff, isOl, subFin, muFin, muD, setFin, setMany, parFin, bi_len, bi_lenT, bi_abs, bi_int, bi_list, bi_listT, bi_max2, bi_min2, Ss.sets, S.sets, Tg.is, List.mem_cons, List.not_mem_nil, or_false, or_true, false_or, true_or, List.mem_append, List.append_assoc, List.append_eq, ixL, ixT, scL, meTy, Option.getD_some, List.isEmpty_nil, List.isEmpty_cons, mo, e]
        rw [bd]
        exact ⟨_, rfl⟩
      · rintro _ ⟨x9, rfl⟩
        exact ⟨x9, rfl⟩
    obtain ⟨x9, a1⟩ := a1
    have lq : Ls [h ^ (L - 1), 0] := ⟨fun n hn => by
      simp only [List.mem_cons, List.not_mem_nil, or_false] at hn
      rcases hn with rfl | rfl <;> omega, by show 2 ≤ 200; decide⟩
    have c1 := s_passes (k := m) (t := .ol ([h ^ (L - 1), 0].map fun (n : Nat) => .int (n : Int))) (rs := [h ^ (L - 1), 0]) (m := L - 1) rfl lq h2 h3 (by omega) (by omega)
    have ep : psl h [h ^ (L - 1), 0] (L - 1) = (List.range (L - 1)).map fun _ => PyData.list [.int ((h ^ (L - 1) : Nat) : Int), .int 0] := by
      unfold psl
      refine List.map_congr_left fun q hq => ?_
      rw [psn_flat h2 (by have := List.mem_range.mp hq; omega)]
      rfl
    rw [ep] at c1
    have c1 : (lev fs Bx m).call "passes" [.ol [.int ((h ^ (L - 1) : Nat) : Int), .int 0], .fz (.int ((L - 1 : Nat) : Int)), .fz (.int (h : Int))] = .ok (.ol ((List.range (L - 1)).map fun _ => PyData.list [.int ((h ^ (L - 1) : Nat) : Int), .int 0])) [.ol [.int ((h ^ (L - 1) : Nat) : Int), .int 0], .fz (.int ((L - 1 : Nat) : Int)), .fz (.int (h : Int))] := c1
    have sh : SeqAt.shaped (.list ((List.range (L - 1)).map fun _ => PyData.list [.int ((h ^ (L - 1) : Nat) : Int), .int 0])) = true := shp_map (fun _ => PyData.list [.int ((h ^ (L - 1) : Nat) : Int), .int 0]) (List.range (L - 1)) (fun _ _ => rfl) (fun _ _ => by show 1 ≤ 60; decide)
    have ev : PyData.eqv (.list ((List.range (L - 1)).map fun _ => PyData.list [.int ((h ^ (L - 1) : Nat) : Int), .int 0])) (.list ((List.range (L - 1)).map fun _ => PyData.list [.int ((h ^ (L - 1) : Nat) : Int), .int 0])) = true := by
      have q := eqv_maps (g := nl) (fun a b => by rw [eqv_nl, decide_eq_true_eq]) ((List.range (L - 1)).map fun _ => [h ^ (L - 1), 0]) ((List.range (L - 1)).map fun _ => [h ^ (L - 1), 0])
      rw [decide_eq_true rfl, List.map_map] at q
      exact q
    have a2 : exS (lev fs Bx m) (.ifS (.cmp .NotEq (.call "passes" (.cons (.lst (.cons (.nm 14) (.cons (.int 0) .nil))) (.cons (.bin .Sub (.nm 5) (.int 1)) (.cons (.nm 2) .nil))) []) (.lc (.one 9) [9] (.rng1 (.bin .Sub (.nm 5) (.int 1))) .none (.lst (.cons (.nm 14) (.cons (.int 0) .nil))))) (.cons (.ret (.bl false)) .nil) .nil) [o0, some (.ol p), some (.fz (.int (h : Int))), o3, some (.fz (nl rs)), some (.fz (.int (L : Int))), some (.fz (nl (psn h rs L))), some (.ol (psl h rs L)), o8, x9, o10, o11, o12, o13, some (.fz (.int ((h ^ (L - 1) : Nat) : Int))), o15] = .ok .nx [o0, some (.ol p), some (.fz (.int (h : Int))), o3, some (.fz (nl rs)), some (.fz (.int (L : Int))), some (.fz (nl (psn h rs L))), some (.ol (psl h rs L)), o8, x9, o10, o11, o12, o13, some (.fz (.int ((h ^ (L - 1) : Nat) : Int))), o15] := by
      simp -implicitDefEqProofs only [e_nm, e_int, e_str, e_bl, e_non, e_glb, e_bin, e_neg, e_cmp, t_cmp, chn_if, e_chn, t_chn, e_and, e_or, t_and, t_or, e_not, t_not, e_ite, e_lst, e_tup, e_idx, e_slc, e_call, e_bi, e_rl1, e_rl2, e_isi, e_me, e_mu, e_lrv, e_lrr, lrv_l, e_dn, e_d1, e_dpr, e_dat, e_din, t_din, e_dge, odf_none, odf_some, t_dat, t_dge, t_slc, t_lcd, x_dst, i_rv, isOd, dstFin, Opd.dic, dOf, Option.isSome_some, Option.isSome_none, t_nm, t_bl, t_idx, t_call, t_bi, t_isi, t_lc, t_bin, ds_nil, ds_cons, os_nil, os_cons, oi_none, oi_some, c_none, c_some, i_op, as_nm, as_mv, x_nil, x_cons, sq_nx, sq_rt, sq_bk, sq_ct, x_set, x_setF, x_setT, x_par, x_sub, x_expr, x_ret, x_if, x_raise, x_pass, x_brk, x_cont, x_tryC, x_tryI, bind_ok, bind_exc, map_ok, map_exc, of_some, bind_ite, map_ite, endR_ite, dflT, asT, asD, frz, ofB, cmpB, takeSlot, moveSlot, slotT, Opd.see, sees, T.view, truthD, cmpD, eqD, scalD, binD, negD, isKd, callF, takeA, putA, startR, endR_rt, endR_nx, endR_exc, backs, evB, evT, evD, evO, List.map_cons, List.map_nil, List.length_cons, List.length_nil, List.cons_append, List.nil_append, List.append_nil, List.set_cons_zero, List.set_cons_succ, List.getElem?_cons_zero, List.getElem?_cons_succ, List.replicate_zero, List.replicate_succ, Option.join_some, Option.join_none, Option.bind_some, Option.bind_none, Option.map_some, Option.map_none, Nat.reduceAdd, Nat.reduceSub, Nat.sub_self, List.any_cons, List.any_nil, Bool.or_false, Bool.false_or, Bool.or_true, Bool.true_or, Bool.and_true, Bool.true_and, Bool.and_false, Bool.false_and, Bool.not_true, Bool.not_false, Bool.false_eq_true, reduceIte, reduceCtorEq, decide_eq_true_eq, Bool.not_eq_true', decide_eq_false_iff_not, sz_eq, Nat.reduceLeDiff, isOl, subFin, muFin, muD, setFin, setMany, parFin, bi_len, bi_lenT, bi_abs, bi_int, bi_list, bi_listT, bi_max2, bi_min2, Ss.sets, S.sets, Tg.is, List.mem_cons, List.not_mem_nil, or_false, or_true, false_or, true_or, List.mem_append, List.append_assoc, List.append_eq, ixL, ixT, scL, meTy, Option.getD_some, List.isEmpty_nil, List.isEmpty_cons, cL, c1]
      rw [lc_r1m (n := L - 1) (fun _ => .list [.int ((h ^ (L - 1) : Nat) : Int), .int 0]) ?xa2 ?xb2 ?xc2 ?xd2 ?xe2]
      case xa2 => simp -implicitDefEqProofs only [e_nm, e_int, e_str, e_bl, e_non, e_glb, e_bin, e_neg, e_cmp, t_cmp, chn_if, e_chn, t_chn, e_and, e_or, t_and, t_or, e_not, t_not, e_ite, e_lst, e_tup, e_idx, e_slc, e_call, e_bi, e_rl1, e_rl2, e_isi, e_me, e_mu, e_lrv, e_lrr, lrv_l, e_dn, e_d1, e_dpr, e_dat, e_din, t_din, e_dge, odf_none, odf_some, t_dat, t_dge, t_slc, t_lcd, x_dst, i_rv, isOd, dstFin, Opd.dic, dOf, Option.isSome_some, Option.isSome_none, t_nm, t_bl, t_idx, t_call, t_bi, t_isi, t_lc, t_bin, ds_nil, ds_cons, os_nil, os_cons, oi_none, oi_some, c_none, c_some, i_op, as_nm, as_mv, x_nil, x_cons, sq_nx, sq_rt, sq_bk, sq_ct, x_set, x_setF, x_setT, x_par, x_sub, x_expr, x_ret, x_if, x_raise, x_pass, x_brk, x_cont, x_tryC, x_tryI, bind_ok, bind_exc, map_ok, map_exc, of_some, bind_ite, map_ite, endR_ite, dflT, asT, asD, frz, ofB, cmpB, takeSlot, moveSlot, slotT, Opd.see, sees, T.view, truthD, cmpD, eqD, scalD, binD, negD, isKd, callF, takeA, putA, startR, endR_rt, endR_nx, endR_exc, backs, evB, evT, evD, evO, List.map_cons, List.map_nil, List.length_cons, List.length_nil, List.cons_append, List.nil_append, List.append_nil, List.set_cons_zero, List.set_cons_succ, List.getElem?_cons_zero, List.getElem?_cons_succ, List.replicate_zero, List.replicate_succ, Option.join_some, Option.join_none, Option.bind_some, Option.bind_none, Option.map_some, Option.map_none, Nat.reduceAdd, Nat.reduceSub, Nat.sub_self, List.any_cons, List.any_nil, Bool.or_false, Bool.false_or, Bool.or_true, Bool.true_or, Bool.and_true, Bool.true_and, Bool.and_false, Bool.false_and, Bool.not_true, Bool.not_false, Bool.false_eq_true, reduceIte, reduceCtorEq, decide_eq_true_eq, Bool.not_eq_true', decide_eq_false_iff_not, sz_eq, Nat.reduceLeDiff, isOl, subFin, muFin, muD, setFin, setMany, parFin, bi_len, bi_lenT, bi_abs, bi_int, bi_list, bi_listT, bi_max2, bi_min2, Ss.sets, S.sets, Tg.is, List.mem_cons, List.not_mem_nil, or_false, or_true, false_or, true_or, List.mem_append, List.append_assoc, List.append_eq, ixL, ixT, scL, meTy, Option.getD_some, List.isEmpty_nil, List.isEmpty_cons, cL]; rfl
      case xb2 => rfl
      case xc2 => exact Nat.le_of_ble_eq_true rfl
      case xd2 => first | omega | exact Nat.le_of_ble_eq_true rfl
      case xe2 =>
        intro i hi
        simp -implicitDefEqProofs only [e_nm, e_int, e_str, e_bl, e_non, e_glb, e_bin, e_neg, e_cmp, t_cmp, chn_if, e_chn, t_chn, e_and, e_or, t_and, t_or, e_not, t_not, e_ite, e_lst, e_tup, e_idx, e_slc, e_call, e_bi, e_rl1, e_rl2, e_isi, e_me, e_mu, e_lrv, e_lrr, lrv_l, e_dn, e_d1, e_dpr, e_dat, e_din, t_din, e_dge, odf_none, odf_some, t_dat, t_dge, t_slc, t_lcd, x_dst, i_rv, isOd, dstFin, Opd.dic, dOf, Option.isSome_some, Option.isSome_none, t_nm, t_bl, t_idx, t_call, t_bi, t_isi, t_lc, t_bin, ds_nil, ds_cons, os_nil, os_cons, oi_none, oi_some, c_none, c_some, i_op, as_nm, as_mv, x_nil, x_cons, sq_nx, sq_rt, sq_bk, sq_ct, x_set, x_setF, x_setT, x_par, x_sub, x_expr, x_ret, x_if, x_raise, x_pass, x_brk, x_cont, x_tryC, x_tryI, bind_ok, bind_exc, map_ok, map_exc, of_some, bind_ite, map_ite, endR_ite, dflT, asT, asD, frz, ofB, cmpB, takeSlot, moveSlot, slotT, Opd.see, sees, T.view, truthD, cmpD, eqD, scalD, binD, negD, isKd, callF, takeA, putA, startR, endR_rt, endR_nx, endR_exc, backs, evB, evT, evD, evO, List.map_cons, List.map_nil, List.length_cons, List.length_nil, List.cons_append, List.nil_append, List.append_nil, List.set_cons_zero, List.set_cons_succ, List.getElem?_cons_zero, List.getElem?_cons_succ, List.replicate_zero, List.replicate_succ, Option.join_some, Option.join_none, Option.bind_some, Option.bind_none, Option.map_some, Option.map_none, Nat.reduceAdd, Nat.reduceSub, Nat.sub_self, List.any_cons, List.any_nil, Bool.or_false, Bool.false_or, Bool.or_true, Bool.true_or, Bool.and_true, Bool.true_and, Bool.and_false, Bool.false_and, Bool.not_true, Bool.not_false, Bool.false_eq_true, reduceIte, reduceCtorEq, decide_eq_true_eq, Bool.not_eq_true', decide_eq_false_iff_not, sz_eq, Nat.reduceLeDiff, isOl, subFin, muFin, muD, setFin, setMany, parFin, bi_len, bi_lenT, bi_abs, bi_int, bi_list, bi_listT, bi_max2, bi_min2, Ss.sets, S.sets, Tg.is, List.mem_cons, List.not_mem_nil, or_false, or_true, false_or, true_or, List.mem_append, List.append_assoc, List.append_eq, ixL, ixT, scL, meTy, Option.getD_some, List.isEmpty_nil, List.isEmpty_cons]
      simp -implicitDefEqProofs only [e_nm, e_int, e_str, e_bl, e_non, e_glb, e_bin, e_neg, e_cmp, t_cmp, chn_if, e_chn, t_chn, e_and, e_or, t_and, t_or, e_not, t_not, e_ite, e_lst, e_tup, e_idx, e_slc, e_call, e_bi, e_rl1, e_rl2, e_isi, e_me, e_mu, e_lrv, e_lrr, lrv_l, e_dn, e_d1, e_dpr, e_dat, e_din, t_din, e_dge, odf_none, odf_some, t_dat, t_dge, t_slc, t_lcd, x_dst, i_rv, isOd, dstFin, Opd.dic, dOf, Option.isSome_some, Option.isSome_none, t_nm, t_bl, t_idx, t_call, t_bi, t_isi, t_lc, t_bin, ds_nil, ds_cons, os_nil, os_cons, oi_none, oi_some, c_none, c_some, i_op, as_nm, as_mv, x_nil, x_cons, sq_nx, sq_rt, sq_bk, sq_ct, x_set, x_setF, x_setT, x_par, x_sub, x_expr, x_ret, x_if, x_raise, x_pass, x_brk, x_cont, x_tryC, x_tryI, bind_ok, bind_exc, map_ok, map_exc, of_some, bind_ite, map_ite, endR_ite, dflT, asT, asD, frz, ofB, cmpB, takeSlot, moveSlot, slotT, Opd.see, sees, T.view, truthD, cmpD, eqD, scalD, binD, negD, isKd, callF, takeA, putA, startR, endR_rt, endR_nx, endR_exc, backs, evB, evT, evD, evO, List.map_cons, List.map_nil, List.length_cons, List.length_nil, List.cons_append, List.nil_append, List.append_nil, List.set_cons_zero, List.set_cons_succ, List.getElem?_cons_zero, List.getElem?_cons_succ, List.replicate_zero, List.replicate_succ, Option.join_some, Option.join_none, Option.bind_some, Option.bind_none, Option.map_some, Option.map_none, Nat.reduceAdd, Nat.reduceSub, Nat.sub_self, List.any_cons, List.any_nil, Bool.or_false, Bool.false_or, Bool.or_true, Bool.true_or, Bool.and_true, Bool.true_and, Bool.and_false, Bool.false_and, Bool.not_true, Bool.not_false, Bool.false_eq_true, reduceIte, reduceCtorEq, decide_eq_true_eq, Bool.not_eq_true', decide_eq_false_iff_not, sz_eq, Nat.reduceLeDiff, isOl, subFin, muFin, muD, setFin, setMany, parFin, bi_len, bi_lenT, bi_abs, bi_int, bi_list, bi_listT, bi_max2, bi_min2, Ss.sets, S.sets, Tg.is, List.mem_cons, List.not_mem_nil, or_false, or_true, false_or, true_or, List.mem_append, List.append_assoc, List.append_eq, ixL, ixT, scL, meTy, Option.getD_some, List.isEmpty_nil, List.isEmpty_cons, sh, ev]
    refine ⟨x9, some (.fz (.int ((h ^ (L - 1) : Nat) : Int))), ?_⟩
    have all : exSs (lev fs Bx m) (.cons (.setF 14 (.int 1)) (.cons (.for_ (.one 9) (.rng1 (.bin .Sub (.nm 5) (.int 1))) (.cons (.setF 14 (.bin .Mult (.nm 14) (.nm 2))) .nil)) (.cons (.ifS (.cmp .NotEq (.call "passes" (.cons (.lst (.cons (.nm 14) (.cons (.int 0) .nil))) (.cons (.bin .Sub (.nm 5) (.int 1)) (.cons (.nm 2) .nil))) []) (.lc (.one 9) [9] (.rng1 (.bin .Sub (.nm 5) (.int 1))) .none (.lst (.cons (.nm 14) (.cons (.int 0) .nil))))) (.cons (.ret (.bl false)) .nil) .nil) .nil))) [o0, some (.ol p), some (.fz (.int (h : Int))), o3, some (.fz (nl rs)), some (.fz (.int (L : Int))), some (.fz (nl (psn h rs L))), some (.ol (psl h rs L)), o8, o9, o10, o11, o12, o13, o14, o15] = .ok .nx [o0, some (.ol p), some (.fz (.int (h : Int))), o3, some (.fz (nl rs)), some (.fz (.int (L : Int))), some (.fz (nl (psn h rs L))), some (.ol (psl h rs L)), o8, x9, o10, o11, o12, o13, some (.fz (.int ((h ^ (L - 1) : Nat) : Int))), o15] := by
      rw [seq_nx a0, seq_nx a1, seq_nx a2]
      rfl
    rw [x_if]
    have ec : ((ev2 (lev fs Bx m) (.cmp .Gt (.nm 5) (.int 0))).2 [o0, some (.ol p), some (.fz (.int (h : Int))), o3, some (.fz (nl rs)), some (.fz (.int (L : Int))), some (.fz (nl (psn h rs L))), some (.ol (psl h rs L)), o8, o9, o10, o11, o12, o13, o14, o15]) = .ok true [o0, some (.ol p), some (.fz (.int (h : Int))), o3, some (.fz (nl rs)), some (.fz (.int (L : Int))), some (.fz (nl (psn h rs L))), some (.ol (psl h rs L)), o8, o9, o10, o11, o12, o13, o14, o15] := by
      simp -implicitDefEqProofs only [e_nm, e_int, e_str, e_bl, e_non, e_glb, e_bin, e_neg, e_cmp, t_cmp, chn_if, e_chn, t_chn, e_and, e_or, t_and, t_or, e_not, t_not, e_ite, e_lst, e_tup, e_idx, e_slc, e_call, e_bi, e_rl1, e_rl2, e_isi, e_me, e_mu, e_lrv, e_lrr, lrv_l, e_dn, e_d1, e_dpr, e_dat, e_din, t_din, e_dge, odf_none, odf_some, t_dat, t_dge, t_slc, t_lcd, x_dst, i_rv, isOd, dstFin, Opd.dic, dOf, Option.isSome_some, Option.isSome_none, t_nm, t_bl, t_idx, t_call, t_bi, t_isi, t_lc, t_bin, ds_nil, ds_cons, os_nil, os_cons, oi_none, oi_some, c_none, c_some, i_op, as_nm, as_mv, x_nil, x_cons, sq_nx, sq_rt, sq_bk, sq_ct, x_set, x_setF, x_setT, x_par, x_sub, x_expr, x_ret, x_if, x_raise, x_pass, x_brk, x_cont, x_tryC, x_tryI, bind_ok, bind_exc, map_ok, map_exc, of_some, bind_ite, map_ite, endR_ite, dflT, asT, asD, frz, ofB, cmpB, takeSlot, moveSlot, slotT, Opd.see, sees, T.view, truthD, cmpD, eqD, scalD, binD, negD, isKd, callF, takeA, putA, startR, endR_rt, endR_nx, endR_exc, backs, evB, evT, evD, evO, List.map_cons, List.map_nil, List.length_cons, List.length_nil, List.cons_append, List.nil_append, List.append_nil, List.set_cons_zero, List.set_cons_succ, List.getElem?_cons_zero, List.getElem?_cons_succ, List.replicate_zero, List.replicate_succ, Option.join_some, Option.join_none, Option.bind_some, Option.bind_none, Option.map_some, Option.map_none, Nat.reduceAdd, Nat.reduceSub, Nat.sub_self, List.any_cons, List.any_nil, Bool.or_false, Bool.false_or, Bool.or_true, Bool.true_or, Bool.and_true, Bool.true_and, Bool.and_false, Bool.false_and, Bool.not_true, Bool.not_false, Bool.false_eq_true, reduceIte, reduceCtorEq, decide_eq_true_eq, Bool.not_eq_true', decide_eq_false_iff_not, sz_eq, Nat.reduceLeDiff, isOl, subFin, muFin, muD, setFin, setMany, parFin, bi_len, bi_lenT, bi_abs, bi_int, bi_list, bi_listT, bi_max2, bi_min2, Ss.sets, S.sets, Tg.is, List.mem_cons, List.not_mem_nil, or_false, or_true, false_or, true_or, List.mem_append, List.append_assoc, List.append_eq, ixL, ixT, scL, meTy, Option.getD_some, List.isEmpty_nil, List.isEmpty_cons, dL]
    rw [ec, bind_ok, if_pos rfl]
    exact all
  obtain ⟨x9, x14, t11⟩ := t11
  rw [seq_nx t10, seq_nx t11, x_cons]
  refine fl_r1 (n := 5) (I := fun _ ρ => ∃ p o0 o3 o4 o5 o6 o7 o8 o9 o10 o11 o12 o13 o14 o15, Pool p ∧ ρ = [o0, some (.ol p), some (.fz (.int (h : Int))), o3, o4, o5, o6, o7, o8, o9, o10, o11, o12, o13, o14, o15]) (x := .tmp (.fz (.int 5))) rfl rfl (by decide) ⟨p, _, _, _, _, _, _, _, _, _, _, _, _, _, _, hp, rfl⟩ ?_ ?_
  · rintro i _ _ ⟨p, _, _, _, _, _, _, _, _, _, _, _, _, _, _, hp, rfl⟩
    obtain ⟨x, p1, hp1, x0, x1, e1⟩ := s_draw (m := 1000) hp (by decide) (by decide)
    have e1 := e1 Bx m (by omega)
    obtain ⟨n, rfl⟩ : ∃ n : Nat, x = (n : Int) := ⟨x.toNat, by omega⟩
    obtain ⟨x, p2, hp2, x2, x3, e2⟩ := s_draw (m := 6) hp1 (by decide) (by decide)
    have e2 := e2 Bx m (by omega)
    obtain ⟨q, rfl⟩ : ∃ n : Nat, x = (n : Int) := ⟨x.toNat, by omega⟩
    have c1 := s_fig (B := Bx) (k := m) (n := n) (p := q) h2 h3 (by omega) (by omega) (by omega)
    have c2 := s_lfig (k := m) (n := n) (p := q) h2 h3 (by omega) (by omega)
    have s1 : (lev fs Bx m).call "_law_same" [.fz (.int (fig h q n : Nat)), .fz (.int (fig h q n : Nat))] = _ := s_same (n := 1) (d := .int (fig h q n : Nat)) (by omega) trivial rfl rfl
    simp -implicitDefEqProofs only [e_nm, e_int, e_str, e_bl, e_non, e_glb, e_bin, e_neg, e_cmp, t_cmp, chn_if, e_chn, t_chn, e_and, e_or, t_and, t_or, e_not, t_not, e_ite, e_lst, e_tup, e_idx, e_slc, e_call, e_bi, e_rl1, e_rl2, e_isi, e_me, e_mu, e_lrv, e_lrr, lrv_l, e_dn, e_d1, e_dpr, e_dat, e_din, t_din, e_dge, odf_none, odf_some, t_dat, t_dge, t_slc, t_lcd, x_dst, i_rv, isOd, dstFin, Opd.dic, dOf, Option.isSome_some, Option.isSome_none, t_nm, t_bl, t_idx, t_call, t_bi, t_isi, t_lc, t_bin, ds_nil, ds_cons, os_nil, os_cons, oi_none, oi_some, c_none, c_some, i_op, as_nm, as_mv, x_nil, x_cons, sq_nx, sq_rt, sq_bk, sq_ct, x_set, x_setF, x_setT, x_par, x_sub, x_expr, x_ret, x_if, x_raise, x_pass, x_brk, x_cont, x_tryC, x_tryI, bind_ok, bind_exc, map_ok, map_exc, of_some, bind_ite, map_ite, endR_ite, dflT, asT, asD, frz, ofB, cmpB, takeSlot, moveSlot, slotT, Opd.see, sees, T.view, truthD, cmpD, eqD, scalD, binD, negD, isKd, callF, takeA, putA, startR, endR_rt, endR_nx, endR_exc, backs, evB, evT, evD, evO, List.map_cons, List.map_nil, List.length_cons, List.length_nil, List.cons_append, List.nil_append, List.append_nil, List.set_cons_zero, List.set_cons_succ, List.getElem?_cons_zero, List.getElem?_cons_succ, List.replicate_zero, List.replicate_succ, Option.join_some, Option.join_none, Option.bind_some, Option.bind_none, Option.map_some, Option.map_none, Nat.reduceAdd, Nat.reduceSub, Nat.sub_self, List.any_cons, List.any_nil, Bool.or_false, Bool.false_or, Bool.or_true, Bool.true_or, Bool.and_true, Bool.true_and, Bool.and_false, Bool.false_and, Bool.not_true, Bool.not_false, Bool.false_eq_true, reduceIte, reduceCtorEq, decide_eq_true_eq, Bool.not_eq_true', decide_eq_false_iff_not, sz_eq, Nat.reduceLeDiff, isOl, subFin, muFin, muD, setFin, setMany, parFin, bi_len, bi_lenT, bi_abs, bi_int, bi_list, bi_listT, bi_max2, bi_min2, Ss.sets, S.sets, Tg.is, List.mem_cons, List.not_mem_nil, or_false, or_true, false_or, true_or, List.mem_append, List.append_assoc, List.append_eq, ixL, ixT, scL, meTy, Option.getD_some, List.isEmpty_nil, List.isEmpty_cons, e1, e2, c1, c2, s1]
    exact ⟨_, rfl, p2, _, _, _, _, _, _, _, _, _, _, _, _, _, _, hp2, rfl⟩
  rintro _ ⟨p, _, _, _, _, _, _, _, _, _, _, _, _, _, _, hp, rfl⟩
  obtain ⟨y1, p1, hp1, g1, e1⟩ := s_pickO (ds := BAD) hp (by decide) (by decide)
  have e1 : (lev fs Bx m).call "_law_pick" [.ol p, .ol [.int (-1), .int 1000001, .bool true]] = _ := e1 Bx m (by omega)
  obtain ⟨y2, p2, hp2, g2, e2⟩ := s_pickO (ds := BAD2) hp1 (by decide) (by decide)
  have e2 : (lev fs Bx m).call "_law_pick" [.ol p1, .ol [.int (-1), .int 21, .bool true]] = _ := e2 Bx m (by omega)
  obtain ⟨y3, p3, hp3, g3, e3⟩ := s_pickO (ds := WRG) hp2 (by decide) (by decide)
  have e3 : (lev fs Bx m).call "_law_pick" [.ol p2, .ol [.int 1, .int 101, .int 0, .bool true]] = _ := e3 Bx m (by omega)
  obtain ⟨y4, p4, hp4, g4, e4⟩ := s_pickO (ds := BAD2) hp3 (by decide) (by decide)
  have e4 : (lev fs Bx m).call "_law_pick" [.ol p3, .ol [.int (-1), .int 21, .bool true]] = _ := e4 Bx m (by omega)
  obtain ⟨r1, r2⟩ := rbad g1 (k := m) (by omega)
  obtain ⟨r3, _⟩ := rbad2 g2 (k := m) (by omega)
  obtain ⟨r4, r5, r6, r7, r8⟩ := rwrg g3 (k := m) (by omega)
  obtain ⟨_, r9⟩ := rbad2 g4 (k := m) (by omega)
  have r10 := rmany (k := m) (by omega)
  unfold Rf at r1 r2 r3 r4 r5 r6 r7 r8 r9 r10
  have n1 : negD (.int 1) = some (.int (-1)) := rfl
  have r201 : (List.range 201).map (fun _ => (.int 1 : D)) = List.replicate 201 (.int 1) := by rw [List.map_const', List.length_range]
  simp -implicitDefEqProofs only [e_nm, e_int, e_str, e_bl, e_non, e_glb, e_bin, e_neg, e_cmp, t_cmp, chn_if, e_chn, t_chn, e_and, e_or, t_and, t_or, e_not, t_not, e_ite, e_lst, e_tup, e_idx, e_slc, e_call, e_bi, e_rl1, e_rl2, e_isi, e_me, e_mu, e_lrv, e_lrr, lrv_l, e_dn, e_d1, e_dpr, e_dat, e_din, t_din, e_dge, odf_none, odf_some, t_dat, t_dge, t_slc, t_lcd, x_dst, i_rv, isOd, dstFin, Opd.dic, dOf, Option.isSome_some, Option.isSome_none, t_nm, t_bl, t_idx, t_call, t_bi, t_isi, t_lc, t_bin, ds_nil, ds_cons, os_nil, os_cons, oi_none, oi_some, c_none, c_some, i_op, as_nm, as_mv, x_nil, x_cons, sq_nx, sq_rt, sq_bk, sq_ct, x_set, x_setF, x_setT, x_par, x_sub, x_expr, x_ret, x_if, x_raise, x_pass, x_brk, x_cont, x_tryC, x_tryI, bind_ok, bind_exc, map_ok, map_exc, of_some, bind_ite, map_ite, endR_ite, dflT, asT, asD, frz, ofB, cmpB, takeSlot, moveSlot, slotT, Opd.see, sees, T.view, truthD, cmpD, eqD, scalD, binD, negD, isKd, callF, takeA, putA, startR, endR_rt, endR_nx, endR_exc, backs, evB, evT, evD, evO, List.map_cons, List.map_nil, List.length_cons, List.length_nil, List.cons_append, List.nil_append, List.append_nil, List.set_cons_zero, List.set_cons_succ, List.getElem?_cons_zero, List.getElem?_cons_succ, List.replicate_zero, List.replicate_succ, Option.join_some, Option.join_none, Option.bind_some, Option.bind_none, Option.map_some, Option.map_none, Nat.reduceAdd, Nat.reduceSub, Nat.sub_self, List.any_cons, List.any_nil, Bool.or_false, Bool.false_or, Bool.or_true, Bool.true_or, Bool.and_true, Bool.true_and, Bool.and_false, Bool.false_and, Bool.not_true, Bool.not_false, Bool.false_eq_true, reduceIte, reduceCtorEq, decide_eq_true_eq, Bool.not_eq_true', decide_eq_false_iff_not, sz_eq, Nat.reduceLeDiff, isOl, subFin, muFin, muD, setFin, setMany, parFin, bi_len, bi_lenT, bi_abs, bi_int, bi_list, bi_listT, bi_max2, bi_min2, Ss.sets, S.sets, Tg.is, List.mem_cons, List.not_mem_nil, or_false, or_true, false_or, true_or, List.mem_append, List.append_assoc, List.append_eq, ixL, ixT, scL, meTy, Option.getD_some, List.isEmpty_nil, List.isEmpty_cons, e1, r1, eqv_str, decide_true, Int.reduceNeg, BAD]
  rw [lc_r1m (n := 201) (fun _ => .int 1) ?xa3 ?xb3 ?xc3 ?xd3 ?xe3]
  case xa3 => rfl
  case xb3 => rfl
  case xc3 => exact Nat.le_of_ble_eq_true rfl
  case xd3 => first | omega | exact Nat.le_of_ble_eq_true rfl
  case xe3 =>
    intro i hi
    simp -implicitDefEqProofs only [e_nm, e_int, e_str, e_bl, e_non, e_glb, e_bin, e_neg, e_cmp, t_cmp, chn_if, e_chn, t_chn, e_and, e_or, t_and, t_or, e_not, t_not, e_ite, e_lst, e_tup, e_idx, e_slc, e_call, e_bi, e_rl1, e_rl2, e_isi, e_me, e_mu, e_lrv, e_lrr, lrv_l, e_dn, e_d1, e_dpr, e_dat, e_din, t_din, e_dge, odf_none, odf_some, t_dat, t_dge, t_slc, t_lcd, x_dst, i_rv, isOd, dstFin, Opd.dic, dOf, Option.isSome_some, Option.isSome_none, t_nm, t_bl, t_idx, t_call, t_bi, t_isi, t_lc, t_bin, ds_nil, ds_cons, os_nil, os_cons, oi_none, oi_some, c_none, c_some, i_op, as_nm, as_mv, x_nil, x_cons, sq_nx, sq_rt, sq_bk, sq_ct, x_set, x_setF, x_setT, x_par, x_sub, x_expr, x_ret, x_if, x_raise, x_pass, x_brk, x_cont, x_tryC, x_tryI, bind_ok, bind_exc, map_ok, map_exc, of_some, bind_ite, map_ite, endR_ite, dflT, asT, asD, frz, ofB, cmpB, takeSlot, moveSlot, slotT, Opd.see, sees, T.view, truthD, cmpD, eqD, scalD, binD, negD, isKd, callF, takeA, putA, startR, endR_rt, endR_nx, endR_exc, backs, evB, evT, evD, evO, List.map_cons, List.map_nil, List.length_cons, List.length_nil, List.cons_append, List.nil_append, List.append_nil, List.set_cons_zero, List.set_cons_succ, List.getElem?_cons_zero, List.getElem?_cons_succ, List.replicate_zero, List.replicate_succ, Option.join_some, Option.join_none, Option.bind_some, Option.bind_none, Option.map_some, Option.map_none, Nat.reduceAdd, Nat.reduceSub, Nat.sub_self, List.any_cons, List.any_nil, Bool.or_false, Bool.false_or, Bool.or_true, Bool.true_or, Bool.and_true, Bool.true_and, Bool.and_false, Bool.false_and, Bool.not_true, Bool.not_false, Bool.false_eq_true, reduceIte, reduceCtorEq, decide_eq_true_eq, Bool.not_eq_true', decide_eq_false_iff_not, sz_eq, Nat.reduceLeDiff, isOl, subFin, muFin, muD, setFin, setMany, parFin, bi_len, bi_lenT, bi_abs, bi_int, bi_list, bi_listT, bi_max2, bi_min2, Ss.sets, S.sets, Tg.is, List.mem_cons, List.not_mem_nil, or_false, or_true, false_or, true_or, List.mem_append, List.append_assoc, List.append_eq, ixL, ixT, scL, meTy, Option.getD_some, List.isEmpty_nil, List.isEmpty_cons]
  rw [r201]
  generalize List.replicate 201 (PyData.int 1) = big at r10 ⊢
  simp -implicitDefEqProofs only [e_nm, e_int, e_str, e_bl, e_non, e_glb, e_bin, e_neg, e_cmp, t_cmp, chn_if, e_chn, t_chn, e_and, e_or, t_and, t_or, e_not, t_not, e_ite, e_lst, e_tup, e_idx, e_slc, e_call, e_bi, e_rl1, e_rl2, e_isi, e_me, e_mu, e_lrv, e_lrr, lrv_l, e_dn, e_d1, e_dpr, e_dat, e_din, t_din, e_dge, odf_none, odf_some, t_dat, t_dge, t_slc, t_lcd, x_dst, i_rv, isOd, dstFin, Opd.dic, dOf, Option.isSome_some, Option.isSome_none, t_nm, t_bl, t_idx, t_call, t_bi, t_isi, t_lc, t_bin, ds_nil, ds_cons, os_nil, os_cons, oi_none, oi_some, c_none, c_some, i_op, as_nm, as_mv, x_nil, x_cons, sq_nx, sq_rt, sq_bk, sq_ct, x_set, x_setF, x_setT, x_par, x_sub, x_expr, x_ret, x_if, x_raise, x_pass, x_brk, x_cont, x_tryC, x_tryI, bind_ok, bind_exc, map_ok, map_exc, of_some, bind_ite, map_ite, endR_ite, dflT, asT, asD, frz, ofB, cmpB, takeSlot, moveSlot, slotT, Opd.see, sees, T.view, truthD, cmpD, eqD, scalD, binD, negD, isKd, callF, takeA, putA, startR, endR_rt, endR_nx, endR_exc, backs, evB, evT, evD, evO, List.map_cons, List.map_nil, List.length_cons, List.length_nil, List.cons_append, List.nil_append, List.append_nil, List.set_cons_zero, List.set_cons_succ, List.getElem?_cons_zero, List.getElem?_cons_succ, List.replicate_zero, List.replicate_succ, Option.join_some, Option.join_none, Option.bind_some, Option.bind_none, Option.map_some, Option.map_none, Nat.reduceAdd, Nat.reduceSub, Nat.sub_self, List.any_cons, List.any_nil, Bool.or_false, Bool.false_or, Bool.or_true, Bool.true_or, Bool.and_true, Bool.true_and, Bool.and_false, Bool.false_and, Bool.not_true, Bool.not_false, Bool.false_eq_true, reduceIte, reduceCtorEq, decide_eq_true_eq, Bool.not_eq_true', decide_eq_false_iff_not, sz_eq, Nat.reduceLeDiff, isOl, subFin, muFin, muD, setFin, setMany, parFin, bi_len, bi_lenT, bi_abs, bi_int, bi_list, bi_listT, bi_max2, bi_min2, Ss.sets, S.sets, Tg.is, List.mem_cons, List.not_mem_nil, or_false, or_true, false_or, true_or, List.mem_append, List.append_assoc, List.append_eq, ixL, ixT, scL, meTy, Option.getD_some, List.isEmpty_nil, List.isEmpty_cons, e2, e3, e4, r2, r3, r4, r5, r6, r7, r8, r9, r10, eqv_str, decide_true, Int.reduceNeg, BAD2, WRG]
  exact ⟨_, rfl⟩
theorem plainK (ns : List Int) (hns : ns.length ≤ 63) (k : Nat) (hk : 24 < k) : CT ((lev fs Bx k).call "law" [.fz (st ns)]) := by
  rw [lev_call (F := f_law) rfl (by omega), run_fn rfl]
  refine ct_rt ?_
  generalize hm : k - 1 = m
  have hm : 20 < m := by omega
  have pl := s_pool (B := Bx) (k := m) ns (by omega)
  obtain ⟨p0, hp00⟩ : ∃ p, p = poolL ns 0 0 0 0 := ⟨_, rfl⟩
  have hp0 : Pool p0 := by rw [hp00]; exact ⟨ns, 0, 0, 0, 0, rfl, by decide, hns⟩
  rw [← hp00] at pl
  obtain ⟨x, p1, hp1, x0, x1, e1⟩ := s_draw hp0 (m := 9) (by decide) (by decide)
  obtain ⟨h, hh⟩ : ∃ h : Nat, 2 + x = (h : Int) := ⟨(2 + x).toNat, by omega⟩
  have e1 := e1 Bx m (by omega)
  obtain ⟨z, p2, hp2, hz, e2⟩ := s_pickO (ds := [.int 4, .int 30, .int 1000]) hp1 (by decide) (by decide)
  have e2 := e2 Bx m (by omega)
  have h2 : 2 ≤ h := by omega
  have h3 : h ≤ 100 := by omega
  obtain ⟨wd, rfl, hw⟩ : ∃ wd : Int, z = .int wd ∧ (1 ≤ wd ∧ wd ≤ 1000) := by
    simp only [List.mem_cons, List.not_mem_nil, or_false] at hz
    rcases hz with rfl | rfl | rfl <;> exact ⟨_, rfl, by decide⟩
  have t0 : exS (lev fs Bx m) (.set 1 (.call "_law_pool" (.cons (.nm 0) .nil) [])) [some (.fz (st ns)), none, none, none, none, none, none, none, none, none, none, none, none, none, none, none] = .ok .nx [some (.fz (st ns)), some (.ol p0), none, none, none, none, none, none, none, none, none, none, none, none, none, none] := by
    simp -implicitDefEqProofs only [e_nm, e_int, e_str, e_bl, e_non, e_glb, e_bin, e_neg, e_cmp, t_cmp, chn_if, e_chn, t_chn, e_and, e_or, t_and, t_or, e_not, t_not, e_ite, e_lst, e_tup, e_idx, e_slc, e_call, e_bi, e_rl1, e_rl2, e_isi, e_me, e_mu, e_lrv, e_lrr, lrv_l, e_dn, e_d1, e_dpr, e_dat, e_din, t_din, e_dge, odf_none, odf_some, t_dat, t_dge, t_slc, t_lcd, x_dst, i_rv, isOd, dstFin, Opd.dic, dOf, Option.isSome_some, Option.isSome_none, t_nm, t_bl, t_idx, t_call, t_bi, t_isi, t_lc, t_bin, ds_nil, ds_cons, os_nil, os_cons, oi_none, oi_some, c_none, c_some, i_op, as_nm, as_mv, x_nil, x_cons, sq_nx, sq_rt, sq_bk, sq_ct, x_set, x_setF, x_setT, x_par, x_sub, x_expr, x_ret, x_if, x_raise, x_pass, x_brk, x_cont, x_tryC, x_tryI, bind_ok, bind_exc, map_ok, map_exc, of_some, bind_ite, map_ite, endR_ite, dflT, asT, asD, frz, ofB, cmpB, takeSlot, moveSlot, slotT, Opd.see, sees, T.view, truthD, cmpD, eqD, scalD, binD, negD, isKd, callF, takeA, putA, startR, endR_rt, endR_nx, endR_exc, backs, evB, evT, evD, evO, List.map_cons, List.map_nil, List.length_cons, List.length_nil, List.cons_append, List.nil_append, List.append_nil, List.set_cons_zero, List.set_cons_succ, List.getElem?_cons_zero, List.getElem?_cons_succ, List.replicate_zero, List.replicate_succ, Option.join_some, Option.join_none, Option.bind_some, Option.bind_none, Option.map_some, Option.map_none, Nat.reduceAdd, Nat.reduceSub, Nat.sub_self, List.any_cons, List.any_nil, Bool.or_false, Bool.false_or, Bool.or_true, Bool.true_or, Bool.and_true, Bool.true_and, Bool.and_false, Bool.false_and, Bool.not_true, Bool.not_false, Bool.false_eq_true, reduceIte, reduceCtorEq, decide_eq_true_eq, Bool.not_eq_true', decide_eq_false_iff_not, sz_eq, Nat.reduceLeDiff, isOl, subFin, muFin, muD, setFin, setMany, parFin, bi_len, bi_lenT, bi_abs, bi_int, bi_list, bi_listT, bi_max2, bi_min2, Ss.sets, S.sets, Tg.is, List.mem_cons, List.not_mem_nil, or_false, or_true, false_or, true_or, List.mem_append, List.append_assoc, List.append_eq, ixL, ixT, scL, meTy, Option.getD_some, List.isEmpty_nil, List.isEmpty_cons, pl]
  have t1 : exS (lev fs Bx m) (.setF 2 (.bin .Add (.int 2) (.call "_law_draw" (.cons (.nm 1) (.cons (.int 9) .nil)) []))) [some (.fz (st ns)), some (.ol p0), none, none, none, none, none, none, none, none, none, none, none, none, none, none] = .ok .nx [some (.fz (st ns)), some (.ol p1), some (.fz (.int (h : Int))), none, none, none, none, none, none, none, none, none, none, none, none, none] := by
    simp -implicitDefEqProofs only [e_nm, e_int, e_str, e_bl, e_non, e_glb, e_bin, e_neg, e_cmp, t_cmp, chn_if, e_chn, t_chn, e_and, e_or, t_and, t_or, e_not, t_not, e_ite, e_lst, e_tup, e_idx, e_slc, e_call, e_bi, e_rl1, e_rl2, e_isi, e_me, e_mu, e_lrv, e_lrr, lrv_l, e_dn, e_d1, e_dpr, e_dat, e_din, t_din, e_dge, odf_none, odf_some, t_dat, t_dge, t_slc, t_lcd, x_dst, i_rv, isOd, dstFin, Opd.dic, dOf, Option.isSome_some, Option.isSome_none, t_nm, t_bl, t_idx, t_call, t_bi, t_isi, t_lc, t_bin, ds_nil, ds_cons, os_nil, os_cons, oi_none, oi_some, c_none, c_some, i_op, as_nm, as_mv, x_nil, x_cons, sq_nx, sq_rt, sq_bk, sq_ct, x_set, x_setF, x_setT, x_par, x_sub, x_expr, x_ret, x_if, x_raise, x_pass, x_brk, x_cont, x_tryC, x_tryI, bind_ok, bind_exc, map_ok, map_exc, of_some, bind_ite, map_ite, endR_ite, dflT, asT, asD, frz, ofB, cmpB, takeSlot, moveSlot, slotT, Opd.see, sees, T.view, truthD, cmpD, eqD, scalD, binD, negD, isKd, callF, takeA, putA, startR, endR_rt, endR_nx, endR_exc, backs, evB, evT, evD, evO, List.map_cons, List.map_nil, List.length_cons, List.length_nil, List.cons_append, List.nil_append, List.append_nil, List.set_cons_zero, List.set_cons_succ, List.getElem?_cons_zero, List.getElem?_cons_succ, List.replicate_zero, List.replicate_succ, Option.join_some, Option.join_none, Option.bind_some, Option.bind_none, Option.map_some, Option.map_none, Nat.reduceAdd, Nat.reduceSub, Nat.sub_self, List.any_cons, List.any_nil, Bool.or_false, Bool.false_or, Bool.or_true, Bool.true_or, Bool.and_true, Bool.true_and, Bool.and_false, Bool.false_and, Bool.not_true, Bool.not_false, Bool.false_eq_true, reduceIte, reduceCtorEq, decide_eq_true_eq, Bool.not_eq_true', decide_eq_false_iff_not, sz_eq, Nat.reduceLeDiff, isOl, subFin, muFin, muD, setFin, setMany, parFin, bi_len, bi_lenT, bi_abs, bi_int, bi_list, bi_listT, bi_max2, bi_min2, Ss.sets, S.sets, Tg.is, List.mem_cons, List.not_mem_nil, or_false, or_true, false_or, true_or, List.mem_append, List.append_assoc, List.append_eq, ixL, ixT, scL, meTy, Option.getD_some, List.isEmpty_nil, List.isEmpty_cons, e1, hh]
  have t2 : exS (lev fs Bx m) (.setF 3 (.call "_law_pick" (.cons (.nm 1) (.cons (.lst (.cons (.int 4) (.cons (.int 30) (.cons (.int 1000) .nil)))) .nil)) [])) [some (.fz (st ns)), some (.ol p1), some (.fz (.int (h : Int))), none, none, none, none, none, none, none, none, none, none, none, none, none] = .ok .nx [some (.fz (st ns)), some (.ol p2), some (.fz (.int (h : Int))), some (.fz (.int wd)), none, none, none, none, none, none, none, none, none, none, none, none] := by
    simp -implicitDefEqProofs only [e_nm, e_int, e_str, e_bl, e_non, e_glb, e_bin, e_neg, e_cmp, t_cmp, chn_if, e_chn, t_chn, e_and, e_or, t_and, t_or, e_not, t_not, e_ite, e_lst, e_tup, e_idx, e_slc, e_call, e_bi, e_rl1, e_rl2, e_isi, e_me, e_mu, e_lrv, e_lrr, lrv_l, e_dn, e_d1, e_dpr, e_dat, e_din, t_din, e_dge, odf_none, odf_some, t_dat, t_dge, t_slc, t_lcd, x_dst, i_rv, isOd, dstFin, Opd.dic, dOf, Option.isSome_some, Option.isSome_none, t_nm, t_bl, t_idx, t_call, t_bi, t_isi, t_lc, t_bin, ds_nil, ds_cons, os_nil, os_cons, oi_none, oi_some, c_none, c_some, i_op, as_nm, as_mv, x_nil, x_cons, sq_nx, sq_rt, sq_bk, sq_ct, x_set, x_setF, x_setT, x_par, x_sub, x_expr, x_ret, x_if, x_raise, x_pass, x_brk, x_cont, x_tryC, x_tryI, bind_ok, bind_exc, map_ok, map_exc, of_some, bind_ite, map_ite, endR_ite, dflT, asT, asD, frz, ofB, cmpB, takeSlot, moveSlot, slotT, Opd.see, sees, T.view, truthD, cmpD, eqD, scalD, binD, negD, isKd, callF, takeA, putA, startR, endR_rt, endR_nx, endR_exc, backs, evB, evT, evD, evO, List.map_cons, List.map_nil, List.length_cons, List.length_nil, List.cons_append, List.nil_append, List.append_nil, List.set_cons_zero, List.set_cons_succ, List.getElem?_cons_zero, List.getElem?_cons_succ, List.replicate_zero, List.replicate_succ, Option.join_some, Option.join_none, Option.bind_some, Option.bind_none, Option.map_some, Option.map_none, Nat.reduceAdd, Nat.reduceSub, Nat.sub_self, List.any_cons, List.any_nil, Bool.or_false, Bool.false_or, Bool.or_true, Bool.true_or, Bool.and_true, Bool.true_and, Bool.and_false, Bool.false_and, Bool.not_true, Bool.not_false, Bool.false_eq_true, reduceIte, reduceCtorEq, decide_eq_true_eq, Bool.not_eq_true', decide_eq_false_iff_not, sz_eq, Nat.reduceLeDiff, isOl, subFin, muFin, muD, setFin, setMany, parFin, bi_len, bi_lenT, bi_abs, bi_int, bi_list, bi_listT, bi_max2, bi_min2, Ss.sets, S.sets, Tg.is, List.mem_cons, List.not_mem_nil, or_false, or_true, false_or, true_or, List.mem_append, List.append_assoc, List.append_eq, ixL, ixT, scL, meTy, Option.getD_some, List.isEmpty_nil, List.isEmpty_cons, e2]
  obtain ⟨rs, p3, hp3, hrs, hl, lc⟩ : ∃ (l : List Nat) (p3 : List D), Pool p3 ∧ (∀ n ∈ l, n < 1000) ∧ l.length ≤ 8 ∧ (ev2 (lev fs Bx m) (.lc (.one 9) [9] (.rng1 (.call "_law_draw" (.cons (.nm 1) (.cons (.int 9) .nil)) [])) .none (.call "_law_draw" (.cons (.nm 1) (.cons (.nm 3) .nil)) []))).1 [some (.fz (st ns)), some (.ol p2), some (.fz (.int (h : Int))), some (.fz (.int wd)), none, none, none, none, none, none, none, none, none, none, none, none] = .ok (.tmp (.ol (l.map fun (n : Nat) => .int (n : Int)))) [some (.fz (st ns)), some (.ol p3), some (.fz (.int (h : Int))), some (.fz (.int wd)), none, none, none, none, none, none, none, none, none, none, none, none] := c_nums (m := m) (by omega) hw hp2
  have hr : Ls rs := ⟨fun n hn => by have := hrs n hn; omega, by omega⟩
  have t3 : exS (lev fs Bx m) (.setF 4 (.lc (.one 9) [9] (.rng1 (.call "_law_draw" (.cons (.nm 1) (.cons (.int 9) .nil)) [])) .none (.call "_law_draw" (.cons (.nm 1) (.cons (.nm 3) .nil)) []))) [some (.fz (st ns)), some (.ol p2), some (.fz (.int (h : Int))), some (.fz (.int wd)), none, none, none, none, none, none, none, none, none, none, none, none] = .ok .nx [some (.fz (st ns)), some (.ol p3), some (.fz (.int (h : Int))), some (.fz (.int wd)), some (.fz (nl rs)), none, none, none, none, none, none, none, none, none, none, none] := by
    simp -implicitDefEqProofs only [e_nm, e_int, e_str, e_bl, e_non, e_glb, e_bin, e_neg, e_cmp, t_cmp, chn_if, e_chn, t_chn, e_and, e_or, t_and, t_or, e_not, t_not, e_ite, e_lst, e_tup, e_idx, e_slc, e_call, e_bi, e_rl1, e_rl2, e_isi, e_me, e_mu, e_lrv, e_lrr, lrv_l, e_dn, e_d1, e_dpr, e_dat, e_din, t_din, e_dge, odf_none, odf_some, t_dat, t_dge, t_slc, t_lcd, x_dst, i_rv, isOd, dstFin, Opd.dic, dOf, Option.isSome_some, Option.isSome_none, t_nm, t_bl, t_idx, t_call, t_bi, t_isi, t_lc, t_bin, ds_nil, ds_cons, os_nil, os_cons, oi_none, oi_some, c_none, c_some, i_op, as_nm, as_mv, x_nil, x_cons, sq_nx, sq_rt, sq_bk, sq_ct, x_set, x_setF, x_setT, x_par, x_sub, x_expr, x_ret, x_if, x_raise, x_pass, x_brk, x_cont, x_tryC, x_tryI, bind_ok, bind_exc, map_ok, map_exc, of_some, bind_ite, map_ite, endR_ite, dflT, asT, asD, frz, ofB, cmpB, takeSlot, moveSlot, slotT, Opd.see, sees, T.view, truthD, cmpD, eqD, scalD, binD, negD, isKd, callF, takeA, putA, startR, endR_rt, endR_nx, endR_exc, backs, evB, evT, evD, evO, List.map_cons, List.map_nil, List.length_cons, List.length_nil, List.cons_append, List.nil_append, List.append_nil, List.set_cons_zero, List.set_cons_succ, List.getElem?_cons_zero, List.getElem?_cons_succ, List.replicate_zero, List.replicate_succ, Option.join_some, Option.join_none, Option.bind_some, Option.bind_none, Option.map_some, Option.map_none, Nat.reduceAdd, Nat.reduceSub, Nat.sub_self, List.any_cons, List.any_nil, Bool.or_false, Bool.false_or, Bool.or_true, Bool.true_or, Bool.and_true, Bool.true_and, Bool.and_false, Bool.false_and, Bool.not_true, Bool.not_false, Bool.false_eq_true, reduceIte, reduceCtorEq, decide_eq_true_eq, Bool.not_eq_true', decide_eq_false_iff_not, sz_eq, Nat.reduceLeDiff, isOl, subFin, muFin, muD, setFin, setMany, parFin, bi_len, bi_lenT, bi_abs, bi_int, bi_list, bi_listT, bi_max2, bi_min2, Ss.sets, S.sets, Tg.is, List.mem_cons, List.not_mem_nil, or_false, or_true, false_or, true_or, List.mem_append, List.append_assoc, List.append_eq, ixL, ixT, scL, meTy, Option.getD_some, List.isEmpty_nil, List.isEmpty_cons, lc]
  have t4 : exS (lev fs Bx m) (.ifS (.or_ (.not_ (.call "_law_same" (.cons (.call "checked_letters" (.cons (.bi .list (.cons (.nm 4) .nil)) .nil) []) (.cons (.nm 4) .nil)) [])) (.not_ (.call "_law_same" (.cons (.call "falls" (.cons (.bi .list (.cons (.nm 4) .nil)) .nil) []) (.cons (.lc (.one 9) [9] (.rng2 (.int 1) (.bi .len (.cons (.nm 4) .nil))) (.some (.cmp .Lt (.idx (.nm 4) (.nm 9)) (.idx (.nm 4) (.bin .Sub (.nm 9) (.int 1))))) (.nm 9)) .nil)) []))) (.cons (.ret (.bl false)) .nil) .nil) [some (.fz (st ns)), some (.ol p3), some (.fz (.int (h : Int))), some (.fz (.int wd)), some (.fz (nl rs)), none, none, none, none, none, none, none, none, none, none, none] = .ok .nx [some (.fz (st ns)), some (.ol p3), some (.fz (.int (h : Int))), some (.fz (.int wd)), some (.fz (nl rs)), none, none, none, none, none, none, none, none, none, none, none] := by
    have c1 := s_letters (B := Bx) (k := m) (t := .ol (rs.map fun (n : Nat) => .int (n : Int))) (rs := rs) rfl hr (by omega)
    have c2 := s_falls (k := m) (t := .ol (rs.map fun (n : Nat) => .int (n : Int))) (rs := rs) rfl hr (by omega)
    have s1 : (lev fs Bx m).call "_law_same" [.ol (rs.map fun (n : Nat) => .int (n : Int)), .fz (nl rs)] = _ := s_same (n := 2) (d := nl rs) (by omega) (good_nl (by omega)) rfl rfl
    have s2 : (lev fs Bx m).call "_law_same" [.ol (fls rs), .ol (fls rs)] = _ := s_same (n := 2) (d := .list (fls rs)) (by omega) ⟨by
      unfold fls
      have := List.length_filter_le (fun i => decide (rs.getD (i + 1) 0 < rs.getD i 0)) (List.range ((rs.length : Int) - 1).toNat)
      rw [List.length_range] at this
      rw [List.length_map]
      omega, fun e he => by
      obtain ⟨q, _, rfl⟩ := List.mem_map.mp he
      exact trivial⟩ rfl rfl
    simp -implicitDefEqProofs only [e_nm, e_int, e_str, e_bl, e_non, e_glb, e_bin, e_neg, e_cmp, t_cmp, chn_if, e_chn, t_chn, e_and, e_or, t_and, t_or, e_not, t_not, e_ite, e_lst, e_tup, e_idx, e_slc, e_call, e_bi, e_rl1, e_rl2, e_isi, e_me, e_mu, e_lrv, e_lrr, lrv_l, e_dn, e_d1, e_dpr, e_dat, e_din, t_din, e_dge, odf_none, odf_some, t_dat, t_dge, t_slc, t_lcd, x_dst, i_rv, isOd, dstFin, Opd.dic, dOf, Option.isSome_some, Option.isSome_none, t_nm, t_bl, t_idx, t_call, t_bi, t_isi, t_lc, t_bin, ds_nil, ds_cons, os_nil, os_cons, oi_none, oi_some, c_none, c_some, i_op, as_nm, as_mv, x_nil, x_cons, sq_nx, sq_rt, sq_bk, sq_ct, x_set, x_setF, x_setT, x_par, x_sub, x_expr, x_ret, x_if, x_raise, x_pass, x_brk, x_cont, x_tryC, x_tryI, bind_ok, bind_exc, map_ok, map_exc, of_some, bind_ite, map_ite, endR_ite, dflT, asT, asD, frz, ofB, cmpB, takeSlot, moveSlot, slotT, Opd.see, sees, T.view, truthD, cmpD, eqD, scalD, binD, negD, isKd, callF, takeA, putA, startR, endR_rt, endR_nx, endR_exc, backs, evB, evT, evD, evO, List.map_cons, List.map_nil, List.length_cons, List.length_nil, List.cons_append, List.nil_append, List.append_nil, List.set_cons_zero, List.set_cons_succ, List.getElem?_cons_zero, List.getElem?_cons_succ, List.replicate_zero, List.replicate_succ, Option.join_some, Option.join_none, Option.bind_some, Option.bind_none, Option.map_some, Option.map_none, Nat.reduceAdd, Nat.reduceSub, Nat.sub_self, List.any_cons, List.any_nil, Bool.or_false, Bool.false_or, Bool.or_true, Bool.true_or, Bool.and_true, Bool.true_and, Bool.and_false, Bool.false_and, Bool.not_true, Bool.not_false, Bool.false_eq_true, reduceIte, reduceCtorEq, decide_eq_true_eq, Bool.not_eq_true', decide_eq_false_iff_not, sz_eq, Nat.reduceLeDiff, isOl, subFin, muFin, muD, setFin, setMany, parFin, bi_len, bi_lenT, bi_abs, bi_int, bi_list, bi_listT, bi_max2, bi_min2, Ss.sets, S.sets, Tg.is, List.mem_cons, List.not_mem_nil, or_false, or_true, false_or, true_or, List.mem_append, List.append_assoc, List.append_eq, ixL, ixT, scL, meTy, Option.getD_some, List.isEmpty_nil, List.isEmpty_cons, c1, s1, c2]
    rw [lc_r2 (lo := 1) (hi := (rs.length : Int)) (fun i => decide (rs.getD (i + 1) 0 < rs.getD i 0)) (fun (i : Nat) => .int (1 + (i : Int))) ?xa4 ?xy4 ?xb4 ?xB4 ?xc4 ?xu4 ?xv4 ?xp4 ?xe4]
    case xa4 => rfl
    case xy4 => simp -implicitDefEqProofs only [e_nm, e_int, e_str, e_bl, e_non, e_glb, e_bin, e_neg, e_cmp, t_cmp, chn_if, e_chn, t_chn, e_and, e_or, t_and, t_or, e_not, t_not, e_ite, e_lst, e_tup, e_idx, e_slc, e_call, e_bi, e_rl1, e_rl2, e_isi, e_me, e_mu, e_lrv, e_lrr, lrv_l, e_dn, e_d1, e_dpr, e_dat, e_din, t_din, e_dge, odf_none, odf_some, t_dat, t_dge, t_slc, t_lcd, x_dst, i_rv, isOd, dstFin, Opd.dic, dOf, Option.isSome_some, Option.isSome_none, t_nm, t_bl, t_idx, t_call, t_bi, t_isi, t_lc, t_bin, ds_nil, ds_cons, os_nil, os_cons, oi_none, oi_some, c_none, c_some, i_op, as_nm, as_mv, x_nil, x_cons, sq_nx, sq_rt, sq_bk, sq_ct, x_set, x_setF, x_setT, x_par, x_sub, x_expr, x_ret, x_if, x_raise, x_pass, x_brk, x_cont, x_tryC, x_tryI, bind_ok, bind_exc, map_ok, map_exc, of_some, bind_ite, map_ite, endR_ite, dflT, asT, asD, frz, ofB, cmpB, takeSlot, moveSlot, slotT, Opd.see, sees, T.view, truthD, cmpD, eqD, scalD, binD, negD, isKd, callF, takeA, putA, startR, endR_rt, endR_nx, endR_exc, backs, evB, evT, evD, evO, List.map_cons, List.map_nil, List.length_cons, List.length_nil, List.cons_append, List.nil_append, List.append_nil, List.set_cons_zero, List.set_cons_succ, List.getElem?_cons_zero, List.getElem?_cons_succ, List.replicate_zero, List.replicate_succ, Option.join_some, Option.join_none, Option.bind_some, Option.bind_none, Option.map_some, Option.map_none, Nat.reduceAdd, Nat.reduceSub, Nat.sub_self, List.any_cons, List.any_nil, Bool.or_false, Bool.false_or, Bool.or_true, Bool.true_or, Bool.and_true, Bool.true_and, Bool.and_false, Bool.false_and, Bool.not_true, Bool.not_false, Bool.false_eq_true, reduceIte, reduceCtorEq, decide_eq_true_eq, Bool.not_eq_true', decide_eq_false_iff_not, sz_eq, Nat.reduceLeDiff, isOl, subFin, muFin, muD, setFin, setMany, parFin, bi_len, bi_lenT, bi_abs, bi_int, bi_list, bi_listT, bi_max2, bi_min2, Ss.sets, S.sets, Tg.is, List.mem_cons, List.not_mem_nil, or_false, or_true, false_or, true_or, List.mem_append, List.append_assoc, List.append_eq, ixL, ixT, scL, meTy, Option.getD_some, List.isEmpty_nil, List.isEmpty_cons, List.length_map]; rfl
    case xb4 => rfl
    case xB4 => rfl
    case xc4 => exact Nat.le_of_ble_eq_true rfl
    case xu4 => omega
    case xv4 => omega
    case xp4 =>
      intro i hi
      have x1 : (1 : Int) + (i : Int) = ((i + 1 : Nat) : Int) := by omega
      have x2 : ((i + 1 : Nat) : Int) - 1 = (i : Int) := by omega
      have a1 := atI_getD (l := rs) (i := i + 1) 0 (fun (n : Nat) => PyData.int (n : Int)) (by omega)
      have a2 := atI_getD (l := rs) (i := i) 0 (fun (n : Nat) => PyData.int (n : Int)) (by omega)
      have dd : decide (((rs.getD (i + 1) 0 : Nat) : Int) < ((rs.getD i 0 : Nat) : Int)) = decide (rs.getD (i + 1) 0 < rs.getD i 0) := decide_eq_decide.mpr (by omega)
      simp -implicitDefEqProofs only [e_nm, e_int, e_str, e_bl, e_non, e_glb, e_bin, e_neg, e_cmp, t_cmp, chn_if, e_chn, t_chn, e_and, e_or, t_and, t_or, e_not, t_not, e_ite, e_lst, e_tup, e_idx, e_slc, e_call, e_bi, e_rl1, e_rl2, e_isi, e_me, e_mu, e_lrv, e_lrr, lrv_l, e_dn, e_d1, e_dpr, e_dat, e_din, t_din, e_dge, odf_none, odf_some, t_dat, t_dge, t_slc, t_lcd, x_dst, i_rv, isOd, dstFin, Opd.dic, dOf, Option.isSome_some, Option.isSome_none, t_nm, t_bl, t_idx, t_call, t_bi, t_isi, t_lc, t_bin, ds_nil, ds_cons, os_nil, os_cons, oi_none, oi_some, c_none, c_some, i_op, as_nm, as_mv, x_nil, x_cons, sq_nx, sq_rt, sq_bk, sq_ct, x_set, x_setF, x_setT, x_par, x_sub, x_expr, x_ret, x_if, x_raise, x_pass, x_brk, x_cont, x_tryC, x_tryI, bind_ok, bind_exc, map_ok, map_exc, of_some, bind_ite, map_ite, endR_ite, dflT, asT, asD, frz, ofB, cmpB, takeSlot, moveSlot, slotT, Opd.see, sees, T.view, truthD, cmpD, eqD, scalD, binD, negD, isKd, callF, takeA, putA, startR, endR_rt, endR_nx, endR_exc, backs, evB, evT, evD, evO, List.map_cons, List.map_nil, List.length_cons, List.length_nil, List.cons_append, List.nil_append, List.append_nil, List.set_cons_zero, List.set_cons_succ, List.getElem?_cons_zero, List.getElem?_cons_succ, List.replicate_zero, List.replicate_succ, Option.join_some, Option.join_none, Option.bind_some, Option.bind_none, Option.map_some, Option.map_none, Nat.reduceAdd, Nat.reduceSub, Nat.sub_self, List.any_cons, List.any_nil, Bool.or_false, Bool.false_or, Bool.or_true, Bool.true_or, Bool.and_true, Bool.true_and, Bool.and_false, Bool.false_and, Bool.not_true, Bool.not_false, Bool.false_eq_true, reduceIte, reduceCtorEq, decide_eq_true_eq, Bool.not_eq_true', decide_eq_false_iff_not, sz_eq, Nat.reduceLeDiff, isOl, subFin, muFin, muD, setFin, setMany, parFin, bi_len, bi_lenT, bi_abs, bi_int, bi_list, bi_listT, bi_max2, bi_min2, Ss.sets, S.sets, Tg.is, List.mem_cons, List.not_mem_nil, or_false, or_true, false_or, true_or, List.mem_append, List.append_assoc, List.append_eq, ixL, ixT, scL, meTy, Option.getD_some, List.isEmpty_nil, List.isEmpty_cons, x1, x2, a1, a2, dd]
    case xe4 =>
      intro i hi _
      simp -implicitDefEqProofs only [e_nm, e_int, e_str, e_bl, e_non, e_glb, e_bin, e_neg, e_cmp, t_cmp, chn_if, e_chn, t_chn, e_and, e_or, t_and, t_or, e_not, t_not, e_ite, e_lst, e_tup, e_idx, e_slc, e_call, e_bi, e_rl1, e_rl2, e_isi, e_me, e_mu, e_lrv, e_lrr, lrv_l, e_dn, e_d1, e_dpr, e_dat, e_din, t_din, e_dge, odf_none, odf_some, t_dat, t_dge, t_slc, t_lcd, x_dst, i_rv, isOd, dstFin, Opd.dic, dOf, Option.isSome_some, Option.isSome_none, t_nm, t_bl, t_idx, t_call, t_bi, t_isi, t_lc, t_bin, ds_nil, ds_cons, os_nil, os_cons, oi_none, oi_some, c_none, c_some, i_op, as_nm, as_mv, x_nil, x_cons, sq_nx, sq_rt, sq_bk, sq_ct, x_set, x_setF, x_setT, x_par, x_sub, x_expr, x_ret, x_if, x_raise, x_pass, x_brk, x_cont, x_tryC, x_tryI, bind_ok, bind_exc, map_ok, map_exc, of_some, bind_ite, map_ite, endR_ite, dflT, asT, asD, frz, ofB, cmpB, takeSlot, moveSlot, slotT, Opd.see, sees, T.view, truthD, cmpD, eqD, scalD, binD, negD, isKd, callF, takeA, putA, startR, endR_rt, endR_nx, endR_exc, backs, evB, evT, evD, evO, List.map_cons, List.map_nil, List.length_cons, List.length_nil, List.cons_append, List.nil_append, List.append_nil, List.set_cons_zero, List.set_cons_succ, List.getElem?_cons_zero, List.getElem?_cons_succ, List.replicate_zero, List.replicate_succ, Option.join_some, Option.join_none, Option.bind_some, Option.bind_none, Option.map_some, Option.map_none, Nat.reduceAdd, Nat.reduceSub, Nat.sub_self, List.any_cons, List.any_nil, Bool.or_false, Bool.false_or, Bool.or_true, Bool.true_or, Bool.and_true, Bool.true_and, Bool.and_false, Bool.false_and, Bool.not_true, Bool.not_false, Bool.false_eq_true, reduceIte, reduceCtorEq, decide_eq_true_eq, Bool.not_eq_true', decide_eq_false_iff_not, sz_eq, Nat.reduceLeDiff, isOl, subFin, muFin, muD, setFin, setMany, parFin, bi_len, bi_lenT, bi_abs, bi_int, bi_list, bi_listT, bi_max2, bi_min2, Ss.sets, S.sets, Tg.is, List.mem_cons, List.not_mem_nil, or_false, or_true, false_or, true_or, List.mem_append, List.append_assoc, List.append_eq, ixL, ixT, scL, meTy, Option.getD_some, List.isEmpty_nil, List.isEmpty_cons]
    have ef : ((List.range ((rs.length : Int) - 1).toNat).filter fun i => decide (rs.getD (i + 1) 0 < rs.getD i 0)).map (fun (i : Nat) => PyData.int (1 + (i : Int))) = fls rs := rfl
    rw [ef]
    simp -implicitDefEqProofs only [e_nm, e_int, e_str, e_bl, e_non, e_glb, e_bin, e_neg, e_cmp, t_cmp, chn_if, e_chn, t_chn, e_and, e_or, t_and, t_or, e_not, t_not, e_ite, e_lst, e_tup, e_idx, e_slc, e_call, e_bi, e_rl1, e_rl2, e_isi, e_me, e_mu, e_lrv, e_lrr, lrv_l, e_dn, e_d1, e_dpr, e_dat, e_din, t_din, e_dge, odf_none, odf_some, t_dat, t_dge, t_slc, t_lcd, x_dst, i_rv, isOd, dstFin, Opd.dic, dOf, Option.isSome_some, Option.isSome_none, t_nm, t_bl, t_idx, t_call, t_bi, t_isi, t_lc, t_bin, ds_nil, ds_cons, os_nil, os_cons, oi_none, oi_some, c_none, c_some, i_op, as_nm, as_mv, x_nil, x_cons, sq_nx, sq_rt, sq_bk, sq_ct, x_set, x_setF, x_setT, x_par, x_sub, x_expr, x_ret, x_if, x_raise, x_pass, x_brk, x_cont, x_tryC, x_tryI, bind_ok, bind_exc, map_ok, map_exc, of_some, bind_ite, map_ite, endR_ite, dflT, asT, asD, frz, ofB, cmpB, takeSlot, moveSlot, slotT, Opd.see, sees, T.view, truthD, cmpD, eqD, scalD, binD, negD, isKd, callF, takeA, putA, startR, endR_rt, endR_nx, endR_exc, backs, evB, evT, evD, evO, List.map_cons, List.map_nil, List.length_cons, List.length_nil, List.cons_append, List.nil_append, List.append_nil, List.set_cons_zero, List.set_cons_succ, List.getElem?_cons_zero, List.getElem?_cons_succ, List.replicate_zero, List.replicate_succ, Option.join_some, Option.join_none, Option.bind_some, Option.bind_none, Option.map_some, Option.map_none, Nat.reduceAdd, Nat.reduceSub, Nat.sub_self, List.any_cons, List.any_nil, Bool.or_false, Bool.false_or, Bool.or_true, Bool.true_or, Bool.and_true, Bool.true_and, Bool.and_false, Bool.false_and, Bool.not_true, Bool.not_false, Bool.false_eq_true, reduceIte, reduceCtorEq, decide_eq_true_eq, Bool.not_eq_true', decide_eq_false_iff_not, sz_eq, Nat.reduceLeDiff, isOl, subFin, muFin, muD, setFin, setMany, parFin, bi_len, bi_lenT, bi_abs, bi_int, bi_list, bi_listT, bi_max2, bi_min2, Ss.sets, S.sets, Tg.is, List.mem_cons, List.not_mem_nil, or_false, or_true, false_or, true_or, List.mem_append, List.append_assoc, List.append_eq, ixL, ixT, scL, meTy, Option.getD_some, List.isEmpty_nil, List.isEmpty_cons, s2]
  obtain ⟨L, eL⟩ : ∃ L, (figs h (tpn rs)).length = L := ⟨_, rfl⟩
  have ht : tpn rs < 1000 := by
    rcases top_mem rs with e | e
    · omega
    · exact hrs _ e
  have hL : L ≤ 10 := by
    rw [← eL]
    exact figs_len h2 10 _ (Nat.lt_of_lt_of_le (Nat.lt_of_lt_of_le ht (by decide : 1000 ≤ 2 ^ 10)) (Nat.pow_le_pow_left h2 10))
  have t5 : exS (lev fs Bx m) (.setF 5 (.bi .maxL (.cons (.bin .Add (.lst (.cons (.int 0) .nil)) (.lc (.one 15) [15] (.opd (.nm 4)) .none (.bi .len (.cons (.call "_law_figures" (.cons (.nm 15) (.cons (.nm 2) .nil)) []) .nil)))) .nil))) [some (.fz (st ns)), some (.ol p3), some (.fz (.int (h : Int))), some (.fz (.int wd)), some (.fz (nl rs)), none, none, none, none, none, none, none, none, none, none, none] = .ok .nx [some (.fz (st ns)), some (.ol p3), some (.fz (.int (h : Int))), some (.fz (.int wd)), some (.fz (nl rs)), some (.fz (.int (L : Int))), none, none, none, none, none, none, none, none, none, none] := by
    have bm := bi_max (l := 0 :: rs.map fun (n : Nat) => (((figs h n).length : Nat) : Int)) (by simp)
    rw [len_top h2, List.map_cons, List.map_map, eL] at bm
    have bm : biD .maxL [.list (.int 0 :: rs.map fun (n : Nat) => PyData.int (((figs h n).length : Nat) : Int))] = some (.fz (.int (L : Int))) := bm
    have sz : 1 + (rs.map fun (n : Nat) => PyData.int (((figs h n).length : Nat) : Int)).length ≤ 16777216 := by rw [List.length_map]; omega
    simp -implicitDefEqProofs only [e_nm, e_int, e_str, e_bl, e_non, e_glb, e_bin, e_neg, e_cmp, t_cmp, chn_if, e_chn, t_chn, e_and, e_or, t_and, t_or, e_not, t_not, e_ite, e_lst, e_tup, e_idx, e_slc, e_call, e_bi, e_rl1, e_rl2, e_isi, e_me, e_mu, e_lrv, e_lrr, lrv_l, e_dn, e_d1, e_dpr, e_dat, e_din, t_din, e_dge, odf_none, odf_some, t_dat, t_dge, t_slc, t_lcd, x_dst, i_rv, isOd, dstFin, Opd.dic, dOf, Option.isSome_some, Option.isSome_none, t_nm, t_bl, t_idx, t_call, t_bi, t_isi, t_lc, t_bin, ds_nil, ds_cons, os_nil, os_cons, oi_none, oi_some, c_none, c_some, i_op, as_nm, as_mv, x_nil, x_cons, sq_nx, sq_rt, sq_bk, sq_ct, x_set, x_setF, x_setT, x_par, x_sub, x_expr, x_ret, x_if, x_raise, x_pass, x_brk, x_cont, x_tryC, x_tryI, bind_ok, bind_exc, map_ok, map_exc, of_some, bind_ite, map_ite, endR_ite, dflT, asT, asD, frz, ofB, cmpB, takeSlot, moveSlot, slotT, Opd.see, sees, T.view, truthD, cmpD, eqD, scalD, binD, negD, isKd, callF, takeA, putA, startR, endR_rt, endR_nx, endR_exc, backs, evB, evT, evD, evO, List.map_cons, List.map_nil, List.length_cons, List.length_nil, List.cons_append, List.nil_append, List.append_nil, List.set_cons_zero, List.set_cons_succ, List.getElem?_cons_zero, List.getElem?_cons_succ, List.replicate_zero, List.replicate_succ, Option.join_some, Option.join_none, Option.bind_some, Option.bind_none, Option.map_some, Option.map_none, Nat.reduceAdd, Nat.reduceSub, Nat.sub_self, List.any_cons, List.any_nil, Bool.or_false, Bool.false_or, Bool.or_true, Bool.true_or, Bool.and_true, Bool.true_and, Bool.and_false, Bool.false_and, Bool.not_true, Bool.not_false, Bool.false_eq_true, reduceIte, reduceCtorEq, decide_eq_true_eq, Bool.not_eq_true', decide_eq_false_iff_not, sz_eq, Nat.reduceLeDiff, isOl, subFin, muFin, muD, setFin, setMany, parFin, bi_len, bi_lenT, bi_abs, bi_int, bi_list, bi_listT, bi_max2, bi_min2, Ss.sets, S.sets, Tg.is, List.mem_cons, List.not_mem_nil, or_false, or_true, false_or, true_or, List.mem_append, List.append_assoc, List.append_eq, ixL, ixT, scL, meTy, Option.getD_some, List.isEmpty_nil, List.isEmpty_cons]
    rw [lc_lmm (k := false) (rs := rs) (g := fun (n : Nat) => PyData.int (n : Int)) (fun (n : Nat) => .int (((figs h n).length : Nat) : Int)) ?xa5 ?xb5 ?xh5 ?xn5 ?xc5 ?xd5 ?xe5]
    case xa5 => rfl
    case xb5 => rfl
    case xh5 => rfl
    case xn5 => exact fun z => by cases z
    case xc5 => exact Nat.le_of_ble_eq_true rfl
    case xd5 => first | omega | exact Nat.le_of_ble_eq_true rfl
    case xe5 =>
      intro n hn
      have q := s_lfigs (k := m) h2 h3 (hr.1 n hn) (by omega)
      simp -implicitDefEqProofs only [e_nm, e_int, e_str, e_bl, e_non, e_glb, e_bin, e_neg, e_cmp, t_cmp, chn_if, e_chn, t_chn, e_and, e_or, t_and, t_or, e_not, t_not, e_ite, e_lst, e_tup, e_idx, e_slc, e_call, e_bi, e_rl1, e_rl2, e_isi, e_me, e_mu, e_lrv, e_lrr, lrv_l, e_dn, e_d1, e_dpr, e_dat, e_din, t_din, e_dge, odf_none, odf_some, t_dat, t_dge, t_slc, t_lcd, x_dst, i_rv, isOd, dstFin, Opd.dic, dOf, Option.isSome_some, Option.isSome_none, t_nm, t_bl, t_idx, t_call, t_bi, t_isi, t_lc, t_bin, ds_nil, ds_cons, os_nil, os_cons, oi_none, oi_some, c_none, c_some, i_op, as_nm, as_mv, x_nil, x_cons, sq_nx, sq_rt, sq_bk, sq_ct, x_set, x_setF, x_setT, x_par, x_sub, x_expr, x_ret, x_if, x_raise, x_pass, x_brk, x_cont, x_tryC, x_tryI, bind_ok, bind_exc, map_ok, map_exc, of_some, bind_ite, map_ite, endR_ite, dflT, asT, asD, frz, ofB, cmpB, takeSlot, moveSlot, slotT, Opd.see, sees, T.view, truthD, cmpD, eqD, scalD, binD, negD, isKd, callF, takeA, putA, startR, endR_rt, endR_nx, endR_exc, backs, evB, evT, evD, evO, List.map_cons, List.map_nil, List.length_cons, List.length_nil, List.cons_append, List.nil_append, List.append_nil, List.set_cons_zero, List.set_cons_succ, List.getElem?_cons_zero, List.getElem?_cons_succ, List.replicate_zero, List.replicate_succ, Option.join_some, Option.join_none, Option.bind_some, Option.bind_none, Option.map_some, Option.map_none, Nat.reduceAdd, Nat.reduceSub, Nat.sub_self, List.any_cons, List.any_nil, Bool.or_false, Bool.false_or, Bool.or_true, Bool.true_or, Bool.and_true, Bool.true_and, Bool.and_false, Bool.false_and, Bool.not_true, Bool.not_false, Bool.false_eq_true, reduceIte, reduceCtorEq, decide_eq_true_eq, Bool.not_eq_true', decide_eq_false_iff_not, sz_eq, Nat.reduceLeDiff, isOl, subFin, muFin, muD, setFin, setMany, parFin, bi_len, bi_lenT, bi_abs, bi_int, bi_list, bi_listT, bi_max2, bi_min2, Ss.sets, S.sets, Tg.is, List.mem_cons, List.not_mem_nil, or_false, or_true, false_or, true_or, List.mem_append, List.append_assoc, List.append_eq, ixL, ixT, scL, meTy, Option.getD_some, List.isEmpty_nil, List.isEmpty_cons, q, List.length_map]
    simp -implicitDefEqProofs only [e_nm, e_int, e_str, e_bl, e_non, e_glb, e_bin, e_neg, e_cmp, t_cmp, chn_if, e_chn, t_chn, e_and, e_or, t_and, t_or, e_not, t_not, e_ite, e_lst, e_tup, e_idx, e_slc, e_call, e_bi, e_rl1, e_rl2, e_isi, e_me, e_mu, e_lrv, e_lrr, lrv_l, e_dn, e_d1, e_dpr, e_dat, e_din, t_din, e_dge, odf_none, odf_some, t_dat, t_dge, t_slc, t_lcd, x_dst, i_rv, isOd, dstFin, Opd.dic, dOf, Option.isSome_some, Option.isSome_none, t_nm, t_bl, t_idx, t_call, t_bi, t_isi, t_lc, t_bin, ds_nil, ds_cons, os_nil, os_cons, oi_none, oi_some, c_none, c_some, i_op, as_nm, as_mv, x_nil, x_cons, sq_nx, sq_rt, sq_bk, sq_ct, x_set, x_setF, x_setT, x_par, x_sub, x_expr, x_ret, x_if, x_raise, x_pass, x_brk, x_cont, x_tryC, x_tryI, bind_ok, bind_exc, map_ok, map_exc, of_some, bind_ite, map_ite, endR_ite, dflT, asT, asD, frz, ofB, cmpB, takeSlot, moveSlot, slotT, Opd.see, sees, T.view, truthD, cmpD, eqD, scalD, binD, negD, isKd, callF, takeA, putA, startR, endR_rt, endR_nx, endR_exc, backs, evB, evT, evD, evO, List.map_cons, List.map_nil, List.length_cons, List.length_nil, List.cons_append, List.nil_append, List.append_nil, List.set_cons_zero, List.set_cons_succ, List.getElem?_cons_zero, List.getElem?_cons_succ, List.replicate_zero, List.replicate_succ, Option.join_some, Option.join_none, Option.bind_some, Option.bind_none, Option.map_some, Option.map_none, Nat.reduceAdd, Nat.reduceSub, Nat.sub_self, List.any_cons, List.any_nil, Bool.or_false, Bool.false_or, Bool.or_true, Bool.true_or, Bool.and_true, Bool.true_and, Bool.and_false, Bool.false_and, Bool.not_true, Bool.not_false, Bool.false_eq_true, reduceIte, reduceCtorEq, decide_eq_true_eq, Bool.not_eq_true', decide_eq_false_iff_not, sz_eq, Nat.reduceLeDiff, isOl, subFin, muFin, muD, setFin, setMany, parFin, bi_len, bi_lenT, bi_abs, bi_int, bi_list, bi_listT, bi_max2, bi_min2, Ss.sets, S.sets, Tg.is, List.mem_cons, List.not_mem_nil, or_false, or_true, false_or, true_or, List.mem_append, List.append_assoc, List.append_eq, ixL, ixT, scL, meTy, Option.getD_some, List.isEmpty_nil, List.isEmpty_cons, sz, bm]
  have t6 : exS (lev fs Bx m) (.ifS (.not_ (.call "_law_same" (.cons (.call "needed" (.cons (.bi .list (.cons (.nm 4) .nil)) (.cons (.nm 2) .nil)) []) (.cons (.nm 5) .nil)) [])) (.cons (.ret (.bl false)) .nil) .nil) [some (.fz (st ns)), some (.ol p3), some (.fz (.int (h : Int))), some (.fz (.int wd)), some (.fz (nl rs)), some (.fz (.int (L : Int))), none, none, none, none, none, none, none, none, none, none] = .ok .nx [some (.fz (st ns)), some (.ol p3), some (.fz (.int (h : Int))), some (.fz (.int wd)), some (.fz (nl rs)), some (.fz (.int (L : Int))), none, none, none, none, none, none, none, none, none, none] := by
    have c1 := s_needed (k := m) (t := .ol (rs.map fun (n : Nat) => .int (n : Int))) (rs := rs) rfl hr h2 h3 (by omega)
    rw [eL] at c1
    have s1 : (lev fs Bx m).call "_law_same" [.fz (.int (L : Int)), .fz (.int (L : Int))] = _ := s_same (n := 1) (d := .int (L : Int)) (by omega) trivial rfl rfl
    simp -implicitDefEqProofs only [e_nm, e_int, e_str, e_bl, e_non, e_glb, e_bin, e_neg, e_cmp, t_cmp, chn_if, e_chn, t_chn, e_and, e_or, t_and, t_or, e_not, t_not, e_ite, e_lst, e_tup, e_idx, e_slc, e_call, e_bi, e_rl1, e_rl2, e_isi, e_me, e_mu, e_lrv, e_lrr, lrv_l, e_dn, e_d1, e_dpr, e_dat, e_din, t_din, e_dge, odf_none, odf_some, t_dat, t_dge, t_slc, t_lcd, x_dst, i_rv, isOd, dstFin, Opd.dic, dOf, Option.isSome_some, Option.isSome_none, t_nm, t_bl, t_idx, t_call, t_bi, t_isi, t_lc, t_bin, ds_nil, ds_cons, os_nil, os_cons, oi_none, oi_some, c_none, c_some, i_op, as_nm, as_mv, x_nil, x_cons, sq_nx, sq_rt, sq_bk, sq_ct, x_set, x_setF, x_setT, x_par, x_sub, x_expr, x_ret, x_if, x_raise, x_pass, x_brk, x_cont, x_tryC, x_tryI, bind_ok, bind_exc, map_ok, map_exc, of_some, bind_ite, map_ite, endR_ite, dflT, asT, asD, frz, ofB, cmpB, takeSlot, moveSlot, slotT, Opd.see, sees, T.view, truthD, cmpD, eqD, scalD, binD, negD, isKd, callF, takeA, putA, startR, endR_rt, endR_nx, endR_exc, backs, evB, evT, evD, evO, List.map_cons, List.map_nil, List.length_cons, List.length_nil, List.cons_append, List.nil_append, List.append_nil, List.set_cons_zero, List.set_cons_succ, List.getElem?_cons_zero, List.getElem?_cons_succ, List.replicate_zero, List.replicate_succ, Option.join_some, Option.join_none, Option.bind_some, Option.bind_none, Option.map_some, Option.map_none, Nat.reduceAdd, Nat.reduceSub, Nat.sub_self, List.any_cons, List.any_nil, Bool.or_false, Bool.false_or, Bool.or_true, Bool.true_or, Bool.and_true, Bool.true_and, Bool.and_false, Bool.false_and, Bool.not_true, Bool.not_false, Bool.false_eq_true, reduceIte, reduceCtorEq, decide_eq_true_eq, Bool.not_eq_true', decide_eq_false_iff_not, sz_eq, Nat.reduceLeDiff, isOl, subFin, muFin, muD, setFin, setMany, parFin, bi_len, bi_lenT, bi_abs, bi_int, bi_list, bi_listT, bi_max2, bi_min2, Ss.sets, S.sets, Tg.is, List.mem_cons, List.not_mem_nil, or_false, or_true, false_or, true_or, List.mem_append, List.append_assoc, List.append_eq, ixL, ixT, scL, meTy, Option.getD_some, List.isEmpty_nil, List.isEmpty_cons, c1, s1]
  have t7 : exS (lev fs Bx m) (.setF 6 (.bi .list (.cons (.nm 4) .nil))) [some (.fz (st ns)), some (.ol p3), some (.fz (.int (h : Int))), some (.fz (.int wd)), some (.fz (nl rs)), some (.fz (.int (L : Int))), none, none, none, none, none, none, none, none, none, none] = .ok .nx [some (.fz (st ns)), some (.ol p3), some (.fz (.int (h : Int))), some (.fz (.int wd)), some (.fz (nl rs)), some (.fz (.int (L : Int))), some (.fz (nl rs)), none, none, none, none, none, none, none, none, none] := by
    simp -implicitDefEqProofs only [e_nm, e_int, e_str, e_bl, e_non, e_glb, e_bin, e_neg, e_cmp, t_cmp, chn_if, e_chn, t_chn, e_and, e_or, t_and, t_or, e_not, t_not, e_ite, e_lst, e_tup, e_idx, e_slc, e_call, e_bi, e_rl1, e_rl2, e_isi, e_me, e_mu, e_lrv, e_lrr, lrv_l, e_dn, e_d1, e_dpr, e_dat, e_din, t_din, e_dge, odf_none, odf_some, t_dat, t_dge, t_slc, t_lcd, x_dst, i_rv, isOd, dstFin, Opd.dic, dOf, Option.isSome_some, Option.isSome_none, t_nm, t_bl, t_idx, t_call, t_bi, t_isi, t_lc, t_bin, ds_nil, ds_cons, os_nil, os_cons, oi_none, oi_some, c_none, c_some, i_op, as_nm, as_mv, x_nil, x_cons, sq_nx, sq_rt, sq_bk, sq_ct, x_set, x_setF, x_setT, x_par, x_sub, x_expr, x_ret, x_if, x_raise, x_pass, x_brk, x_cont, x_tryC, x_tryI, bind_ok, bind_exc, map_ok, map_exc, of_some, bind_ite, map_ite, endR_ite, dflT, asT, asD, frz, ofB, cmpB, takeSlot, moveSlot, slotT, Opd.see, sees, T.view, truthD, cmpD, eqD, scalD, binD, negD, isKd, callF, takeA, putA, startR, endR_rt, endR_nx, endR_exc, backs, evB, evT, evD, evO, List.map_cons, List.map_nil, List.length_cons, List.length_nil, List.cons_append, List.nil_append, List.append_nil, List.set_cons_zero, List.set_cons_succ, List.getElem?_cons_zero, List.getElem?_cons_succ, List.replicate_zero, List.replicate_succ, Option.join_some, Option.join_none, Option.bind_some, Option.bind_none, Option.map_some, Option.map_none, Nat.reduceAdd, Nat.reduceSub, Nat.sub_self, List.any_cons, List.any_nil, Bool.or_false, Bool.false_or, Bool.or_true, Bool.true_or, Bool.and_true, Bool.true_and, Bool.and_false, Bool.false_and, Bool.not_true, Bool.not_false, Bool.false_eq_true, reduceIte, reduceCtorEq, decide_eq_true_eq, Bool.not_eq_true', decide_eq_false_iff_not, sz_eq, Nat.reduceLeDiff, isOl, subFin, muFin, muD, setFin, setMany, parFin, bi_len, bi_lenT, bi_abs, bi_int, bi_list, bi_listT, bi_max2, bi_min2, Ss.sets, S.sets, Tg.is, List.mem_cons, List.not_mem_nil, or_false, or_true, false_or, true_or, List.mem_append, List.append_assoc, List.append_eq, ixL, ixT, scL, meTy, Option.getD_some, List.isEmpty_nil, List.isEmpty_cons]
  have t8 : exS (lev fs Bx m) (.set 7 (.lst .nil)) [some (.fz (st ns)), some (.ol p3), some (.fz (.int (h : Int))), some (.fz (.int wd)), some (.fz (nl rs)), some (.fz (.int (L : Int))), some (.fz (nl rs)), none, none, none, none, none, none, none, none, none] = .ok .nx [some (.fz (st ns)), some (.ol p3), some (.fz (.int (h : Int))), some (.fz (.int wd)), some (.fz (nl rs)), some (.fz (.int (L : Int))), some (.fz (nl rs)), some (.ol []), none, none, none, none, none, none, none, none] := by
    simp -implicitDefEqProofs only [e_nm, e_int, e_str, e_bl, e_non, e_glb, e_bin, e_neg, e_cmp, t_cmp, chn_if, e_chn, t_chn, e_and, e_or, t_and, t_or, e_not, t_not, e_ite, e_lst, e_tup, e_idx, e_slc, e_call, e_bi, e_rl1, e_rl2, e_isi, e_me, e_mu, e_lrv, e_lrr, lrv_l, e_dn, e_d1, e_dpr, e_dat, e_din, t_din, e_dge, odf_none, odf_some, t_dat, t_dge, t_slc, t_lcd, x_dst, i_rv, isOd, dstFin, Opd.dic, dOf, Option.isSome_some, Option.isSome_none, t_nm, t_bl, t_idx, t_call, t_bi, t_isi, t_lc, t_bin, ds_nil, ds_cons, os_nil, os_cons, oi_none, oi_some, c_none, c_some, i_op, as_nm, as_mv, x_nil, x_cons, sq_nx, sq_rt, sq_bk, sq_ct, x_set, x_setF, x_setT, x_par, x_sub, x_expr, x_ret, x_if, x_raise, x_pass, x_brk, x_cont, x_tryC, x_tryI, bind_ok, bind_exc, map_ok, map_exc, of_some, bind_ite, map_ite, endR_ite, dflT, asT, asD, frz, ofB, cmpB, takeSlot, moveSlot, slotT, Opd.see, sees, T.view, truthD, cmpD, eqD, scalD, binD, negD, isKd, callF, takeA, putA, startR, endR_rt, endR_nx, endR_exc, backs, evB, evT, evD, evO, List.map_cons, List.map_nil, List.length_cons, List.length_nil, List.cons_append, List.nil_append, List.append_nil, List.set_cons_zero, List.set_cons_succ, List.getElem?_cons_zero, List.getElem?_cons_succ, List.replicate_zero, List.replicate_succ, Option.join_some, Option.join_none, Option.bind_some, Option.bind_none, Option.map_some, Option.map_none, Nat.reduceAdd, Nat.reduceSub, Nat.sub_self, List.any_cons, List.any_nil, Bool.or_false, Bool.false_or, Bool.or_true, Bool.true_or, Bool.and_true, Bool.true_and, Bool.and_false, Bool.false_and, Bool.not_true, Bool.not_false, Bool.false_eq_true, reduceIte, reduceCtorEq, decide_eq_true_eq, Bool.not_eq_true', decide_eq_false_iff_not, sz_eq, Nat.reduceLeDiff, isOl, subFin, muFin, muD, setFin, setMany, parFin, bi_len, bi_lenT, bi_abs, bi_int, bi_list, bi_listT, bi_max2, bi_min2, Ss.sets, S.sets, Tg.is, List.mem_cons, List.not_mem_nil, or_false, or_true, false_or, true_or, List.mem_append, List.append_assoc, List.append_eq, ixL, ixT, scL, meTy, Option.getD_some, List.isEmpty_nil, List.isEmpty_cons]
  show RT (exSs (lev fs Bx m) (.cons (.set 1 (.call "_law_pool" (.cons (.nm 0) .nil) [])) (.cons (.setF 2 (.bin .Add (.int 2) (.call "_law_draw" (.cons (.nm 1) (.cons (.int 9) .nil)) []))) (.cons (.setF 3 (.call "_law_pick" (.cons (.nm 1) (.cons (.lst (.cons (.int 4) (.cons (.int 30) (.cons (.int 1000) .nil)))) .nil)) [])) (.cons (.setF 4 (.lc (.one 9) [9] (.rng1 (.call "_law_draw" (.cons (.nm 1) (.cons (.int 9) .nil)) [])) .none (.call "_law_draw" (.cons (.nm 1) (.cons (.nm 3) .nil)) []))) (.cons (.ifS (.or_ (.not_ (.call "_law_same" (.cons (.call "checked_letters" (.cons (.bi .list (.cons (.nm 4) .nil)) .nil) []) (.cons (.nm 4) .nil)) [])) (.not_ (.call "_law_same" (.cons (.call "falls" (.cons (.bi .list (.cons (.nm 4) .nil)) .nil) []) (.cons (.lc (.one 9) [9] (.rng2 (.int 1) (.bi .len (.cons (.nm 4) .nil))) (.some (.cmp .Lt (.idx (.nm 4) (.nm 9)) (.idx (.nm 4) (.bin .Sub (.nm 9) (.int 1))))) (.nm 9)) .nil)) []))) (.cons (.ret (.bl false)) .nil) .nil) (.cons (.setF 5 (.bi .maxL (.cons (.bin .Add (.lst (.cons (.int 0) .nil)) (.lc (.one 15) [15] (.opd (.nm 4)) .none (.bi .len (.cons (.call "_law_figures" (.cons (.nm 15) (.cons (.nm 2) .nil)) []) .nil)))) .nil))) (.cons (.ifS (.not_ (.call "_law_same" (.cons (.call "needed" (.cons (.bi .list (.cons (.nm 4) .nil)) (.cons (.nm 2) .nil)) []) (.cons (.nm 5) .nil)) [])) (.cons (.ret (.bl false)) .nil) .nil) (.cons (.setF 6 (.bi .list (.cons (.nm 4) .nil))) (.cons (.set 7 (.lst .nil)) (.cons (.for_ (.one 8) (.rng1 (.nm 5)) (.cons (.set 12 (.lst .nil)) (.cons (.for_ (.one 13) (.rng1 (.nm 2)) (.cons (.expr (.mu .extend 12 (.cons (.lc (.one 15) [15] (.opd (.nm 6)) (.some (.cmp .Eq (.call "_law_figure" (.cons (.nm 15) (.cons (.nm 8) (.cons (.nm 2) .nil))) []) (.nm 13))) (.nm 15)) .nil))) .nil)) (.cons (.ifS (.not_ (.call "_law_same" (.cons (.call "passed" (.cons (.bi .list (.cons (.nm 6) .nil)) (.cons (.nm 8) (.cons (.nm 2) .nil))) []) (.cons (.nm 12) .nil)) [])) (.cons (.ret (.bl false)) .nil) .nil) (.cons (.setF 6 (.nm 12)) (.cons (.expr (.mu .append 7 (.cons (.nm 6) .nil))) .nil)))))) (.cons (.ifS (.or_ (.not_ (.call "_law_same" (.cons (.call "passes" (.cons (.bi .list (.cons (.nm 4) .nil)) (.cons (.nm 5) (.cons (.nm 2) .nil))) []) (.cons (.nm 7) .nil)) [])) (.cmp .NotEq (.nm 6) (.bi .sorted (.cons (.nm 4) .nil)))) (.cons (.ret (.bl false)) .nil) .nil) (.cons (.ifS (.cmp .Gt (.nm 5) (.int 0)) (.cons (.setF 14 (.int 1)) (.cons (.for_ (.one 9) (.rng1 (.bin .Sub (.nm 5) (.int 1))) (.cons (.setF 14 (.bin .Mult (.nm 14) (.nm 2))) .nil)) (.cons (.ifS (.cmp .NotEq (.call "passes" (.cons (.lst (.cons (.nm 14) (.cons (.int 0) .nil))) (.cons (.bin .Sub (.nm 5) (.int 1)) (.cons (.nm 2) .nil))) []) (.lc (.one 9) [9] (.rng1 (.bin .Sub (.nm 5) (.int 1))) .none (.lst (.cons (.nm 14) (.cons (.int 0) .nil))))) (.cons (.ret (.bl false)) .nil) .nil) .nil))) .nil) (.cons (.for_ (.one 9) (.rng1 (.int 5)) (.cons (.setF 15 (.call "_law_draw" (.cons (.nm 1) (.cons (.int 1000) .nil)) [])) (.cons (.setF 8 (.call "_law_draw" (.cons (.nm 1) (.cons (.int 6) .nil)) [])) (.cons (.ifS (.not_ (.call "_law_same" (.cons (.call "figure" (.cons (.nm 15) (.cons (.nm 8) (.cons (.nm 2) .nil))) []) (.cons (.call "_law_figure" (.cons (.nm 15) (.cons (.nm 8) (.cons (.nm 2) .nil))) []) .nil)) [])) (.cons (.ret (.bl false)) .nil) .nil) .nil)))) (.cons (.setF 10 (.call "_law_pick" (.cons (.nm 1) (.cons (.lst (.cons (.neg (.int 1)) (.cons (.int 1000001) (.cons (.bl true) .nil)))) .nil)) [])) (.cons (.ifS (.or_ (.cmp .NotEq (.call "_law_refused" (.cons (.int 0) (.cons (.lst (.cons (.int 5) (.cons (.nm 10) .nil))) (.cons (.int 0) (.cons (.int 0) .nil)))) []) (.str "number")) (.cmp .NotEq (.call "_law_refused" (.cons (.int 0) (.cons (.lc (.one 9) [9] (.rng1 (.int 201)) .none (.int 1)) (.cons (.int 0) (.cons (.int 0) .nil)))) []) (.str "many"))) (.cons (.ret (.bl false)) .nil) .nil) (.cons (.ifS (.or_ (.cmp .NotEq (.call "_law_refused" (.cons (.int 1) (.cons (.nm 10) (.cons (.int 0) (.cons (.int 2) .nil)))) []) (.str "number")) (.cmp .NotEq (.call "_law_refused" (.cons (.int 1) (.cons (.int 5) (.cons (.call "_law_pick" (.cons (.nm 1) (.cons (.lst (.cons (.neg (.int 1)) (.cons (.int 21) (.cons (.bl true) .nil)))) .nil)) []) (.cons (.int 2) .nil)))) []) (.str "number"))) (.cons (.ret (.bl false)) .nil) .nil) (.cons (.setF 11 (.call "_law_pick" (.cons (.nm 1) (.cons (.lst (.cons (.int 1) (.cons (.int 101) (.cons (.int 0) (.cons (.bl true) .nil))))) .nil)) [])) (.cons (.ifS (.or_ (.cmp .NotEq (.call "_law_refused" (.cons (.int 1) (.cons (.int 5) (.cons (.int 0) (.cons (.nm 11) .nil)))) []) (.str "number")) (.or_ (.cmp .NotEq (.call "_law_refused" (.cons (.int 2) (.cons (.lst (.cons (.int 5) .nil)) (.cons (.int 0) (.cons (.nm 11) .nil)))) []) (.str "number")) (.cmp .NotEq (.call "_law_refused" (.cons (.int 3) (.cons (.lst .nil) (.cons (.int 1) (.cons (.nm 11) .nil)))) []) (.str "number")))) (.cons (.ret (.bl false)) .nil) .nil) (.cons (.ret (.and_ (.cmp .Eq (.call "_law_refused" (.cons (.int 4) (.cons (.lst (.cons (.int 5) .nil)) (.cons (.nm 11) (.cons (.int 0) .nil)))) []) (.str "number")) (.and_ (.cmp .Eq (.call "_law_refused" (.cons (.int 3) (.cons (.lst .nil) (.cons (.call "_law_pick" (.cons (.nm 1) (.cons (.lst (.cons (.neg (.int 1)) (.cons (.int 21) (.cons (.bl true) .nil)))) .nil)) []) (.cons (.int 2) .nil)))) []) (.str "number")) (.cmp .Eq (.call "_law_refused" (.cons (.int 5) (.cons (.nm 11) (.cons (.int 0) (.cons (.int 0) .nil)))) []) (.str "number"))))) .nil))))))))))))))))))) [some (.fz (st ns)), none, none, none, none, none, none, none, none, none, none, none, none, none, none, none])
  rw [seq_nx t0, seq_nx t1, seq_nx t2, seq_nx t3, seq_nx t4, seq_nx t5, seq_nx t6, seq_nx t7, seq_nx t8, x_cons]
  refine fl_r1 (n := L) (I := fun i ρ => ∃ o8 o9 o10 o11 o12 o13 o14 o15, ρ = [some (.fz (st ns)), some (.ol p3), some (.fz (.int (h : Int))), some (.fz (.int wd)), some (.fz (nl rs)), some (.fz (.int (L : Int))), some (.fz (nl (psn h rs i))), some (.ol (psl h rs i)), o8, o9, o10, o11, o12, o13, o14, o15]) (x := .sl 5) rfl rfl (by omega) ⟨_, _, _, _, _, _, _, _, rfl⟩ ?_ ?_
  · rintro i _ hi ⟨_, _, _, _, _, _, _, _, rfl⟩
    obtain ⟨o, rd⟩ := s_round (m := m) hm h2 h3 (psn_ls (by omega : 1 ≤ h) hr i) (p := i) (by omega) (ds := psl h rs i) (by unfold psl; rw [List.length_map, List.length_range]; omega)
    have ep : pass h i (psn h rs i) = psn h rs (i + 1) := rfl
    have es : psl h rs i ++ [nl (psn h rs (i + 1))] = psl h rs (i + 1) := by
      unfold psl
      rw [List.range_succ, List.map_append]
      rfl
    rw [ep, es] at rd
    exact ⟨_, rd, _, _, _, _, _, _, _, _, rfl⟩
  rintro _ ⟨_, _, _, _, _, _, _, _, rfl⟩
  exact s_tail hm h2 h3 hr hrs (by omega) eL ht hL hp3
theorem plain (ns : List Int) (hns : ns.length ≤ 63) : ∃ fuel us, (lev prog.fs (prog.fx fuel hot) 26).call "law" [.fz (.list (ns.map PyData.int))] = .ok (.fz (.bool true)) us :=
  ⟨1000, plainK ns hns 26 (by decide)⟩
end L2.Eng.K65


open PySem PySem.W PySem.Calls PyProof.Rows in
set_option maxRecDepth 100000 in
set_option maxHeartbeats 0 in
theorem PySem.Challenge.cw_heraldboughs_k65_passes_by_figures_holds : PySem.Challenge.rw_heraldboughs_k65_passes_by_figures.Holds := by
  w_on; o_law
  refine HandSHeadRun.head_any (r := OpenLaw.row PySem.Challenge.rw_heraldboughs_k65_passes_by_figures) (q := view (OpenLaw.row PySem.Challenge.rw_heraldboughs_k65_passes_by_figures).prog [26]) (H := L2.Eng.K65.hk) (ob := L2.Eng.K65.ob) (M := 6000) (loose := L2.Eng.K65.names) (d := HandSHeadRun.topDef (OpenLaw.row PySem.Challenge.rw_heraldboughs_k65_passes_by_figures).prog 26) (kwd := []) L2.Eng.K65.ob_eq
    (by kernel_rfl) (fun s => by kernel_rfl) L2.Eng.K65.run (by kernel_rfl) (by kernel_rfl) (by kernel_rfl) (by rfl) (by first | assumption | decide +kernel) (by decide +kernel) ⟨rfl, rfl, rfl, rfl, rfl, by decide +kernel⟩ ?hw ?hc
  case hw => w_witness2
  case hc =>
    exact L2.Eng.law_end (l := PySem.Challenge.rw_heraldboughs_k65_passes_by_figures) (top := L2.Eng.K65.top) (hot := L2.Eng.K65.hot) (n := 25) (x := "script") rfl (by kernel_rfl) ⟨rfl, by decide, by decide⟩ (by kernel_rfl) L2.Eng.K65.ck L2.Eng.K65.bnd ⟨L2.Eng.K65.f_law, rfl, rfl, rfl, rfl⟩ (fun w K h mg pk X G base n f x d e => L2.Eng.K65.hotOk w K h mg pk X G base n f x d e) L2.Eng.K65.plain

