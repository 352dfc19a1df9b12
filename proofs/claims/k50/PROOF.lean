import PyProof.Rows.All
import Wide.All
import OpenK.AllK
import Wide.FinOn
import HandS.ForMost
import HandS.ForExc
import HandS.Wide
import HandS.TupAny
import HandS.More
import KE.DataEq
import KE.SortData
import PyProof.AttrMissHeap
import PyProof.TupleIter
import HandS.AnyAll
import HandS.EndTab
import HandS.SetTxt0
import HandS.SetBool
import HandS.Set
import KE.KExcSuper
import HandS.ExcInit
import HandS.ExcField
import HandS.Head0
import HandS.Head1
import HandS.Head2
import HandS.HeadHook4
import HandS.HeadWalk
import PySem.Challenge.RW_linpapers_k50_whole_a_point_or_a_proof
set_option Elab.async false
set_option linter.all false
set_option maxRecDepth 100000
/-! Fw1: data seen through the heap: D, what a value is worth (IsV), what stays (Ex), what is owned (O), the frame (Fr), the slots (Sl). -/
namespace LP
open PySem PySem.Spec PyProof.Rows L2

/-- data -/
inductive D where
  | non | bl (b : Bool) | int (i : Int) | str (x : Str) | tup (xs : List D) | lst (xs : List D) | ro (xs : List D) | obj (p : Addr) | e0

mutual
/-- v stands for the datum; lists by the heap H0, tuples by the heap H -/
def IsV (K : PySem.W.Frag) (H0 H : Hp) (v : V) : D → Prop
  | .non => v = .non
  | .bl b => v = .bl b
  | .int i => v = .int i
  | .str x => v = .str x
  | .tup ds => ∃ a vs, v = .ref a ∧ SqT K H a vs ∧ IsVs K H0 H vs ds
  | .lst ds => ∃ a vs, v = .ref a ∧ H0 a = some (.lst vs) ∧ IsVs K H0 H vs ds
  | .ro ds => ∃ a vs, v = .ref a ∧ SqL K H0 a vs ∧ IsVs K H0 H vs ds
  | .obj p => v = .ref p
  | .e0 => ∃ a, v = .ref a ∧ H a = some (.frz { cls := .type "tuple", data := .seq #[] 0 } (.tup []))
def IsVs (K : PySem.W.Frag) (H0 H : Hp) (vs : List V) : List D → Prop
  | [] => vs = []
  | d :: ds => ∃ v r, vs = v :: r ∧ IsV K H0 H v d ∧ IsVs K H0 H r ds
end

mutual
/-- no list, no owned object within -/
def D.flat : D → Bool
  | .tup ds => D.flats ds
  | .lst _ => false
  | .ro _ => false
  | .obj _ => false
  | .e0 => false
  | _ => true
def D.flats : List D → Bool
  | [] => true
  | d :: ds => d.flat && D.flats ds
end

/-- an object of the abstract heap is still there; a code table may have grown -/
def Kept (o : HO) (r : Option HO) : Prop :=
  match o with
  | .tbl ps => ∃ ps', r = some (.tbl ps') ∧ (TriplesOk ps.toList → TriplesOk ps'.toList)
  | o => r = some o
def Ex (H H' : Hp) : Prop := ∀ b o, H b = some o → Kept o (H' b)
/-- tuples stay -/
def TK (H H' : Hp) : Prop := (∀ b xs, Rd H b (.tup xs) → Rd H' b (.tup xs)) ∧ ∀ b o u, H b = some (.frz o u) → H' b = some (.frz o u)
/-- what is changed is no tuple -/
def NT (H : Hp) (p : Addr) : Prop := (∀ xs, ¬ Rd H p (.tup xs)) ∧ ∀ o u, H p ≠ some (.frz o u)

theorem Kept.same {o : HO} {r : Option HO} (h : r = some o) : Kept o r := by
  unfold Kept
  split
  · exact ⟨_, h, fun x => x⟩
  · exact h
theorem Ex.refl (H : Hp) : Ex H H := fun _ _ h => .same h
theorem Ex.get {H H' : Hp} (e : Ex H H') {b : Addr} {o : HO} (h : H b = some o) (n : ∀ ps, o ≠ .tbl ps) : H' b = some o := by
  have k := e b o h
  unfold Kept at k
  split at k
  · rename_i ps
    exact absurd rfl (n ps)
  · exact k
theorem Ex.tbl {H H' : Hp} (e : Ex H H') {b : Addr} {ps : Array Value} (h : H b = some (.tbl ps)) : ∃ ps', H' b = some (.tbl ps') ∧ (TriplesOk ps.toList → TriplesOk ps'.toList) := e b _ h
theorem Ex.trans {H H1 H2 : Hp} (a : Ex H H1) (b : Ex H1 H2) : Ex H H2 := fun c o h => by
  have k := a c o h
  unfold Kept at k
  split at k
  · rename_i ps
    obtain ⟨ps1, h1, t1⟩ := k
    obtain ⟨ps2, h2, t2⟩ := b.tbl h1
    exact ⟨ps2, h2, fun x => t2 (t1 x)⟩
  · rename_i n
    exact .same (b.get k n)
theorem Ex.of {H H' : Hp} (h : ∀ b o, H b = some o → H' b = some o) : Ex H H' := fun b o e => .same (h b o e)
theorem Ex.there {H H' : Hp} (e : Ex H H') {b : Addr} {o : HO} (h : H b = some o) : ∃ o', H' b = some o' := by
  have k := e b o h
  unfold Kept at k
  split at k
  · obtain ⟨ps', h', _⟩ := k
    exact ⟨_, h'⟩
  · exact ⟨_, k⟩
theorem Ex.free {H H' : Hp} (e : Ex H H') {b : Addr} (h : H' b = none) : H b = none := by
  cases q : H b with
  | none => rfl
  | some o =>
    obtain ⟨o', h'⟩ := e.there q
    rw [h] at h'
    cases h'
theorem Ex.new {H : Hp} {p : Addr} {o : HO} (h : H p = none) : Ex H (upd H p o) := .of fun a u e => by
  rw [upd_ne (ne_of_none e h)]
  exact e
/-- an object that H does not know may change -/
theorem Ex.mut {H H' : Hp} {p : Addr} {o : HO} (e : Ex H H') (h : H p = none) : Ex H (upd H' p o) := fun a u ha => by
  rw [upd_ne (ne_of_none ha h)]
  exact e a u ha
theorem Ex.tk {H H' : Hp} (e : Ex H H') : TK H H' := ⟨fun b xs h => by
  rcases h with h | ⟨o, h⟩
  · exact .inl (e.get h fun ps z => by cases z)
  · exact .inr ⟨o, e.get h fun ps z => by cases z⟩, fun b o u h => e.get h fun ps z => by cases z⟩
theorem TK.refl (H : Hp) : TK H H := ⟨fun _ _ h => h, fun _ _ _ h => h⟩
theorem TK.trans {H H1 H2 : Hp} (a : TK H H1) (b : TK H1 H2) : TK H H2 := ⟨fun c xs h => b.1 c xs (a.1 c xs h), fun c o u h => b.2 c o u (a.2 c o u h)⟩
theorem TK.mut {H H' : Hp} {p : Addr} {o : HO} (e : TK H H') (h : NT H' p) : TK H (upd H' p o) := ⟨fun b xs r => by
  have r' := e.1 b xs r
  have n : b ≠ p := fun z => h.1 xs (z ▸ r')
  rcases r' with r' | ⟨u, r'⟩
  · exact .inl (by rw [upd_ne n]; exact r')
  · exact .inr ⟨u, by rw [upd_ne n]; exact r'⟩, fun b o u r => by
  have r' := e.2 b o u r
  have n : b ≠ p := fun z => h.2 o u (z ▸ r')
  rw [upd_ne n]
  exact r'⟩
theorem TK.seq {K : PySem.W.Frag} {H H' : Hp} (e : TK H H') {a : Addr} {xs : List V} (h : SqT K H a xs) : SqT K H' a xs := by
  rcases h with h | h
  · exact .inl (e.1 a xs h)
  · exact .inr h
theorem Ex.rd {H H' : Hp} (e : Ex H H') {a : Addr} {xs : List V} (h : Rd H a (.lst xs)) : Rd H' a (.lst xs) := by
  rcases h with h | ⟨o, h⟩
  · exact .inl (e.get h fun ps z => by cases z)
  · exact .inr ⟨o, e.get h fun ps z => by cases z⟩
theorem Ex.seq {K : PySem.W.Frag} {H H' : Hp} (e : Ex H H') {a : Addr} {xs : List V} (h : SqL K H a xs) : SqL K H' a xs := by
  rcases h with h | h
  · exact .inl (e.rd h)
  · exact .inr h

section
variable {K : PySem.W.Frag} {H0 H0' H H' : Hp}
mutual
/-- the base may grow, tuples stay -/
theorem IsV.mono (e0 : Ex H0 H0') (e : TK H H') : ∀ {d : D} {v : V}, IsV K H0 H v d → IsV K H0' H' v d
  | .non, _, h => h
  | .bl _, _, h => h
  | .int _, _, h => h
  | .str _, _, h => h
  | .obj _, _, h => h
  | .e0, v, h => by
    obtain ⟨a, rfl, h⟩ := h
    exact ⟨a, rfl, e.2 _ _ _ h⟩
  | .tup ds, v, h => by
    obtain ⟨a, vs, rfl, hs, hv⟩ := h
    exact ⟨a, vs, rfl, e.seq hs, IsVs.mono e0 e hv⟩
  | .lst ds, v, h => by
    obtain ⟨a, vs, rfl, hs, hv⟩ := h
    exact ⟨a, vs, rfl, e0.get hs (fun _ z => by cases z), IsVs.mono e0 e hv⟩
  | .ro ds, v, h => by
    obtain ⟨a, vs, rfl, hs, hv⟩ := h
    exact ⟨a, vs, rfl, e0.seq hs, IsVs.mono e0 e hv⟩
theorem IsVs.mono (e0 : Ex H0 H0') (e : TK H H') : ∀ {ds : List D} {vs : List V}, IsVs K H0 H vs ds → IsVs K H0' H' vs ds
  | [], _, h => h
  | d :: ds, vs, h => by
    obtain ⟨v, r, rfl, h1, h2⟩ := h
    exact ⟨v, r, rfl, IsV.mono e0 e h1, IsVs.mono e0 e h2⟩
end
mutual
/-- flat data don't lean on the base -/
theorem IsV.rebase (H1 : Hp) : ∀ {d : D} {v : V}, d.flat = true → IsV K H0 H v d → IsV K H1 H v d
  | .non, _, _, h => h
  | .bl _, _, _, h => h
  | .int _, _, _, h => h
  | .str _, _, _, h => h
  | .obj _, _, f, _ => by cases f
  | .e0, _, f, _ => by cases f
  | .lst _, _, f, _ => by cases f
  | .ro _, _, f, _ => by cases f
  | .tup ds, v, f, h => by
    obtain ⟨a, vs, rfl, hs, hv⟩ := h
    exact ⟨a, vs, rfl, hs, IsVs.rebase H1 f hv⟩
theorem IsVs.rebase (H1 : Hp) : ∀ {ds : List D} {vs : List V}, D.flats ds = true → IsVs K H0 H vs ds → IsVs K H1 H vs ds
  | [], _, _, h => h
  | d :: ds, vs, f, h => by
    obtain ⟨v, r, rfl, h1, h2⟩ := h
    obtain ⟨f1, f2⟩ := Bool.and_eq_true_iff.mp (show (d.flat && D.flats ds) = true from f)
    exact ⟨v, r, rfl, IsV.rebase H1 f1 h1, IsVs.rebase H1 f2 h2⟩
end
theorem IsVs.len : ∀ {ds : List D} {vs : List V}, IsVs K H0 H vs ds → vs.length = ds.length
  | [], _, h => by cases h; rfl
  | d :: ds, vs, h => by
    obtain ⟨v, r, rfl, _, h2⟩ := h
    rw [List.length_cons, List.length_cons, IsVs.len h2]
theorem IsVs.get : ∀ {ds : List D} {vs : List V} {i : Nat} {d : D}, IsVs K H0 H vs ds → ds[i]? = some d → ∃ v, vs[i]? = some v ∧ IsV K H0 H v d
  | [], _, _, _, _, e => by simp at e
  | d :: ds, vs, 0, x, h, e => by
    obtain ⟨v, r, rfl, h1, h2⟩ := h
    simp at e; subst e
    exact ⟨v, rfl, h1⟩
  | d :: ds, vs, i + 1, x, h, e => by
    obtain ⟨v, r, rfl, h1, h2⟩ := h
    obtain ⟨u, e1, q⟩ := IsVs.get (i := i) h2 (by simpa using e)
    exact ⟨u, by simpa using e1, q⟩
theorem IsVs.getV : ∀ {ds : List D} {vs : List V} {i : Nat} {v : V}, IsVs K H0 H vs ds → vs[i]? = some v → ∃ d, ds[i]? = some d ∧ IsV K H0 H v d
  | [], _, _, _, h, e => by cases h; simp at e
  | d :: ds, vs, 0, x, h, e => by
    obtain ⟨v, r, rfl, h1, h2⟩ := h
    simp at e; subst e
    exact ⟨d, rfl, h1⟩
  | d :: ds, vs, i + 1, x, h, e => by
    obtain ⟨v, r, rfl, h1, h2⟩ := h
    obtain ⟨u, e1, q⟩ := IsVs.getV (i := i) h2 (by simpa using e)
    exact ⟨u, by simpa using e1, q⟩
theorem IsVs.append : ∀ {ds es : List D} {vs us : List V}, IsVs K H0 H vs ds → IsVs K H0 H us es → IsVs K H0 H (vs ++ us) (ds ++ es)
  | [], _, _, _, h, g => by cases h; exact g
  | d :: ds, es, vs, us, h, g => by
    obtain ⟨v, r, rfl, h1, h2⟩ := h
    exact ⟨v, r ++ us, rfl, h1, IsVs.append h2 g⟩
theorem IsVs.one {v : V} {d : D} (h : IsV K H0 H v d) : IsVs K H0 H [v] [d] := ⟨v, [], rfl, h, rfl⟩
theorem IsVs.two {v w : V} {d e : D} (h : IsV K H0 H v d) (g : IsV K H0 H w e) : IsVs K H0 H [v, w] [d, e] := ⟨v, [w], rfl, h, .one g⟩
theorem IsVs.set : ∀ {ds : List D} {vs : List V} {i : Nat} {v : V} {d : D}, IsVs K H0 H vs ds → IsV K H0 H v d → IsVs K H0 H (vs.set i v) (ds.set i d)
  | [], _, _, _, _, h, _ => by cases h; rfl
  | d :: ds, vs, 0, x, y, h, g => by
    obtain ⟨v, r, rfl, h1, h2⟩ := h
    exact ⟨x, r, rfl, g, h2⟩
  | d :: ds, vs, i + 1, x, y, h, g => by
    obtain ⟨v, r, rfl, h1, h2⟩ := h
    exact ⟨v, _, rfl, h1, IsVs.set (i := i) h2 g⟩
theorem IsVs.reverse : ∀ {ds : List D} {vs : List V}, IsVs K H0 H vs ds → IsVs K H0 H vs.reverse ds.reverse
  | [], _, h => by cases h; rfl
  | d :: ds, vs, h => by
    obtain ⟨v, r, rfl, h1, h2⟩ := h
    rw [List.reverse_cons, List.reverse_cons]
    exact IsVs.append (IsVs.reverse h2) (.one h1)
end

/-! ### what is owned -/
inductive O where
  | L (ds : List D)
  | M (kvs : List (Key × D))
  | I (C : Addr) (fs : List (Str × D))

def KVs (K : PySem.W.Frag) (H0 H : Hp) : List (Key × V) → List (Key × D) → Prop := Paired fun p q => p.1 = q.1 ∧ IsV K H0 H p.2 q.2
def FVs (K : PySem.W.Frag) (H0 H : Hp) : List (Str × V) → List (Str × D) → Prop := Paired fun p q => p.1 = q.1 ∧ IsV K H0 H p.2 q.2
def OwnAt (K : PySem.W.Frag) (H0 H : Hp) (p : Addr) : O → Prop
  | .L ds => ∃ vs, H p = some (.lst vs) ∧ IsVs K H0 H vs ds
  | .M kvs => ∃ kws, H p = some (.dK kws) ∧ KVs K H0 H kws kvs
  | .I C fs => ∃ dx gs, H p = some (.ins C dx gs) ∧ FVs K H0 H gs fs ∧ H0 dx = none

abbrev Rho := Addr → Option O
def put (ρ : Rho) (p : Addr) (o : O) : Rho := fun b => if b = p then some o else ρ b
theorem put_same {ρ : Rho} {p : Addr} {o : O} : put ρ p o p = some o := by unfold put; rw [if_pos rfl]
theorem put_ne {ρ : Rho} {p b : Addr} {o : O} (h : b ≠ p) : put ρ p o b = ρ b := by unfold put; rw [if_neg h]
theorem put_put {ρ : Rho} {p : Addr} {o u : O} : put (put ρ p o) p u = put ρ p u := by
  funext b; unfold put; split <;> rfl
theorem put_eta {ρ : Rho} {p : Addr} {o : O} (h : ρ p = some o) : put ρ p o = ρ := by
  funext b; unfold put; split
  · rename_i e; rw [e, h]
  · rfl
abbrev noR : Rho := fun _ => none

structure Fr (K : PySem.W.Frag) (H0 H : Hp) (ρ : Rho) : Prop where
  ex : Ex H0 H
  own : ∀ p o, ρ p = some o → H0 p = none ∧ OwnAt K H0 H p o

abbrev Del := List (Option D)
structure Sl (K : PySem.W.Frag) (H0 H : Hp) (σ : L2.St) (δ : Del) : Prop where
  len : σ.length = δ.length
  at_ : ∀ (i : Nat) (d : D), δ[i]? = some (some d) → ∃ v, σ[i]? = some (some v) ∧ IsV K H0 H v d

section
variable {K : PySem.W.Frag} {H0 H H' : Hp} {ρ : Rho} {σ : L2.St} {δ : Del}
theorem KVs.mono (e : TK H H') {a : List (Key × V)} {b : List (Key × D)} (h : KVs K H0 H a b) : KVs K H0 H' a b := Paired.mapP h fun _ _ q => ⟨q.1, q.2.mono (.refl _) e⟩
theorem FVs.mono (e : TK H H') {a : List (Str × V)} {b : List (Str × D)} (h : FVs K H0 H a b) : FVs K H0 H' a b := Paired.mapP h fun _ _ q => ⟨q.1, q.2.mono (.refl _) e⟩
theorem OwnAt.there {p : Addr} {o : O} (h : OwnAt K H0 H p o) : ∃ u, H p = some u := by
  cases o with
  | L ds => obtain ⟨vs, h, _⟩ := h; exact ⟨_, h⟩
  | M ds => obtain ⟨vs, h, _⟩ := h; exact ⟨_, h⟩
  | I C fs => obtain ⟨dx, gs, h, _⟩ := h; exact ⟨_, h⟩
theorem OwnAt.keep {p : Addr} {o : O} (h : OwnAt K H0 H p o) (hp : ∀ u, H p = some u → (∀ ps, u ≠ .tbl ps) → H' p = some u) (e : TK H H') : OwnAt K H0 H' p o := by
  cases o with
  | L ds => obtain ⟨vs, h, q⟩ := h; exact ⟨vs, hp _ h (fun _ z => by cases z), q.mono (.refl _) e⟩
  | M ds => obtain ⟨vs, h, q⟩ := h; exact ⟨vs, hp _ h (fun _ z => by cases z), q.mono e⟩
  | I C fs => obtain ⟨dx, gs, h, q, n⟩ := h; exact ⟨dx, gs, hp _ h (fun _ z => by cases z), q.mono e, n⟩
theorem OwnAt.ex {p : Addr} {o : O} (h : OwnAt K H0 H p o) (e : Ex H H') : OwnAt K H0 H' p o := h.keep (fun _ q n => e.get q n) e.tk
theorem Fr.step (F : Fr K H0 H ρ) (e : Ex H H') : Fr K H0 H' ρ := ⟨F.ex.trans e, fun p o h => ⟨(F.own p o h).1, (F.own p o h).2.ex e⟩⟩
theorem Sl.tk (S : Sl K H0 H σ δ) (e : TK H H') : Sl K H0 H' σ δ := ⟨S.len, fun i d h => let ⟨v, h1, h2⟩ := S.at_ i d h; ⟨v, h1, h2.mono (.refl _) e⟩⟩
theorem Sl.step (S : Sl K H0 H σ δ) (e : Ex H H') : Sl K H0 H' σ δ := S.tk e.tk
theorem Sl.set {i : Nat} {v : V} {d : D} (S : Sl K H0 H σ δ) (h : IsV K H0 H v d) : Sl K H0 H (σ.set i (some v)) (δ.set i (some d)) := by
  refine ⟨by rw [List.length_set, List.length_set]; exact S.len, fun j e hj => ?_⟩
  by_cases q : i = j
  · subst q
    have hl : i < δ.length := by
      have := (List.getElem?_eq_some_iff.mp hj).1
      rw [List.length_set] at this
      exact this
    rw [List.getElem?_set_self hl] at hj
    cases hj
    exact ⟨v, List.getElem?_set_self (by rw [S.len]; exact hl), h⟩
  · rw [List.getElem?_set_ne q] at hj
    obtain ⟨u, h1, h2⟩ := S.at_ j e hj
    exact ⟨u, by rw [List.getElem?_set_ne q]; exact h1, h2⟩
theorem Fr.free (F : Fr K H0 H ρ) {p : Addr} (h : H p = none) : ρ p = none := by
  cases q : ρ p with
  | none => rfl
  | some o =>
    obtain ⟨u, e⟩ := (F.own p o q).2.there
    rw [h] at e
    cases e
/-- a new owned object -/
theorem Fr.new {p : Addr} {o : O} (F : Fr K H0 H ρ) (h0 : H0 p = none) (h : OwnAt K H0 H p o) : Fr K H0 H (put ρ p o) := ⟨F.ex, fun b u e => by
  by_cases q : b = p
  · subst q
    rw [put_same] at e
    cases e
    exact ⟨h0, h⟩
  · rw [put_ne q] at e
    exact F.own b u e⟩
/-- an owned object is changed -/
theorem Fr.upd {p : Addr} {o o' : O} {u : HO} (F : Fr K H0 H ρ) (hp : ρ p = some o) (nt : NT H p) (h : OwnAt K H0 (L2.upd H p u) p o') : Fr K H0 (L2.upd H p u) (put ρ p o') ∧ TK H (L2.upd H p u) := by
  obtain ⟨h0, _⟩ := F.own p o hp
  have tk : TK H (L2.upd H p u) := TK.mut (.refl H) nt
  refine ⟨⟨F.ex.mut h0, fun b q e => ?_⟩, tk⟩
  by_cases z : b = p
  · subst z
    rw [put_same] at e
    cases e
    exact ⟨h0, h⟩
  · rw [put_ne z] at e
    obtain ⟨x1, x2⟩ := F.own b q e
    exact ⟨x1, x2.keep (fun w hw _ => by rw [upd_ne z]; exact hw) tk⟩
end
theorem ntup_lst {H : Hp} {p : Addr} {vs : List V} (h : H p = some (.lst vs)) : NT H p := ⟨(fun xs r => by
  rcases r with r | ⟨o, r⟩
  · rw [h] at r; cases r
  · rw [h] at r; cases r), (fun o u z => by rw [h] at z; cases z)⟩
theorem ntup_dK {H : Hp} {p : Addr} {vs : List (Key × V)} (h : H p = some (.dK vs)) : NT H p := ⟨(fun xs r => by
  rcases r with r | ⟨o, r⟩
  · rw [h] at r; cases r
  · rw [h] at r; cases r), (fun o u z => by rw [h] at z; cases z)⟩
theorem ntup_ins {H : Hp} {p C dx : Addr} {fs : List (Str × V)} (h : H p = some (.ins C dx fs)) : NT H p := ⟨(fun xs r => by
  rcases r with r | ⟨o, r⟩
  · rw [h] at r; cases r
  · rw [h] at r; cases r), (fun o u z => by rw [h] at z; cases z)⟩
end LP
set_option maxRecDepth 100000
/-! Fw2: the judgements. -/
namespace LP
open PySem PySem.Spec PyProof.Rows L2

/-! ### canonical readings: a piece of syntax is its own reading -/
def tE (X : Cx) (e : Expr) : TE := fun σ H Q => ∀ (pins : List (Addr × Obj)) (s : Shared), Inv X pins σ H s → wpAny (model X.prog X.w) X.A (eval e X.env) (EP X pins σ Q) X.xe s
def tT (X : Cx) (e : Expr) : TT := fun σ H Q => ∀ (pins : List (Addr × Obj)) (s : Shared), Inv X pins σ H s → wpAny (model X.prog X.w) X.A (isTrue e X.env (eval e X.env)) (TP X pins σ Q) X.xe s
def tW (X : Cx) (e : Expr) : TT := fun σ H Q => ∀ (whole : Sem Value) (pins : List (Addr × Obj)) (s : Shared), Inv X pins σ H s → wpAny (model X.prog X.w) X.A (isTrue e X.env whole) (TP X pins σ Q) X.xe s
def tA (X : Cx) (es : List Expr) : TA := fun σ H Q => ∀ (pos : Pos) (pins : List (Addr × Obj)) (s : Shared), Inv X pins σ H s → wpAny (model X.prog X.w) X.A (spliced (backTo pos (starEach es X.env))) (AP X pins σ Q) X.xe s
def tS (X : Cx) (st : Stmt) : TS := fun D σ H => ∀ (pins : List (Addr × Obj)) (s : Shared), Inv X pins σ H s → wpAny (model X.prog X.w) X.A (exec st X.env) (SP X pins D) X.xe s
def tB (X : Cx) (sts : List Stmt) : TS := fun D σ H => ∀ (pins : List (Addr × Obj)) (s : Shared), Inv X pins σ H s → wpAny (model X.prog X.w) X.A (execs sts X.env) (SP X pins D) X.xe s
def tG (X : Cx) (tg : Expr) : TG := fun v σ H Q => ∀ (pins : List (Addr × Obj)) (s : Shared) (u : Value), Inv X pins σ H s → RelV v u →
  wpAny (model X.prog X.w) X.A (assign tg X.env u) (fun _ s' => ∃ σ' H', Inv X pins σ' H' s' ∧ Q σ' H') X.xe s
def tGs (X : Cx) (ts : List Expr) : TGs := fun vs σ H Q => ∀ (pins : List (Addr × Obj)) (s : Shared) (us : List Value), Inv X pins σ H s → Vals vs us →
  wpAny (model X.prog X.w) X.A (assignInOrder ((assignEach ts X.env).map (·.2)) us) (fun _ s' => ∃ σ' H', Inv X pins σ' H' s' ∧ Q σ' H') X.xe s
/-- an operation on two values is its own reading -/
def rF (X : Cx) (f : Value → Value → Sem Value) : R2 := fun x y H Q => ∀ (pins : List (Addr × Obj)) (s : Shared) (σ : L2.St) (v u : Value), Inv X pins σ H s → RelV x v → RelV y u → wpAny (model X.prog X.w) X.A (f v u) (EP X pins σ Q) X.xe s
def rU1 (X : Cx) (f : Value → Sem Value) : V → Hp → VK → Prop := fun x H Q => ∀ (pins : List (Addr × Obj)) (s : Shared) (σ : L2.St) (v : Value), Inv X pins σ H s → RelV x v → wpAny (model X.prog X.w) X.A (f v) (EP X pins σ Q) X.xe s
def rC (X : Cx) (f : Value) : List V → Hp → VK → Prop := fun xs H Q => ∀ (pins : List (Addr × Obj)) (s : Shared) (σ : L2.St) (us : List Value), Inv X pins σ H s → Vals xs us → wpAny (model X.prog X.w) X.A (call f us) (EP X pins σ Q) X.xe s

section
variable {X : Cx} {e : Expr} {es : List Expr} {st : Stmt} {sts : List Stmt} {tg : Expr} {ts : List Expr} {σ : L2.St} {H : Hp}
theorem pe_E : PE X e (tE X e) := ⟨fun pins s _ _ _ I h => h pins s I⟩
theorem E_of {t : TE} {Q : VK} (h : PE X e t) (q : t σ H Q) : tE X e σ H Q := fun pins s I => h.run pins s σ H Q I q
theorem pt_T : PT X e (tT X e) := ⟨fun pins s _ _ _ I h => h pins s I⟩
theorem T_of {t : TT} {Q : Bool → Hp → Prop} (h : PT X e t) (q : t σ H Q) : tT X e σ H Q := fun pins s I => h.run pins s σ H Q I q
theorem pw_W : PW X e (tW X e) := ⟨fun wh pins s _ _ _ I h => h wh pins s I⟩
theorem W_of {t : TT} {Q : Bool → Hp → Prop} (h : PW X e t) (q : t σ H Q) : tW X e σ H Q := fun wh pins s I => h.run wh pins s σ H Q I q
theorem pa_A : PA X es (tA X es) := ⟨fun pos pins s _ _ _ I h => h pos pins s I⟩
theorem A_of {t : TA} {Q : List V → Hp → Prop} (h : PA X es t) (q : t σ H Q) : tA X es σ H Q := fun pos pins s I => h.run pos pins s σ H Q I q
theorem ps_S : PS X st (tS X st) := ⟨fun pins s _ _ _ I h => h pins s I⟩
theorem S_of {t : TS} {Dn : Ends} (h : PS X st t) (q : t Dn σ H) : tS X st Dn σ H := fun pins s I => h.run pins s σ H Dn I q
theorem pss_B : PSs X sts (tB X sts) := ⟨fun pins s _ _ _ I h => h pins s I⟩
theorem B_of {t : TS} {Dn : Ends} (h : PSs X sts t) (q : t Dn σ H) : tB X sts Dn σ H := fun pins s I => h.run pins s σ H Dn I q
theorem pg_G : PG X tg (tG X tg) := ⟨fun pins s _ _ v u _ I r h => h pins s u I r⟩
theorem G_of {t : TG} {v : V} {Q : L2.St → Hp → Prop} (h : PG X tg t) (q : t v σ H Q) : tG X tg v σ H Q := fun pins s u I r => h.run pins s σ H v u Q I r q
theorem pgs_G : PGs X ts (tGs X ts) := ⟨fun pins s _ _ vs us _ I r h => h pins s us I r⟩
theorem Gs_of {t : TGs} {vs : List V} {Q : L2.St → Hp → Prop} (h : PGs X ts t) (q : t vs σ H Q) : tGs X ts vs σ H Q := fun pins s us I r => h.run pins s σ H vs us Q I r q
theorem op_F {f : Value → Value → Sem Value} : OpR X f (rF X f) := fun pins s σ _ _ _ v u _ I rx ry h => h pins s σ v u I rx ry
theorem F_of {f : Value → Value → Sem Value} {r : R2} {x y : V} {Q : VK} (h : OpR X f r) (q : r x y H Q) : rF X f x y H Q := fun pins s σ v u I rx ry => h pins s σ H x y v u Q I rx ry q
theorem un_F {f : Value → Sem Value} : UnR X f (rU1 X f) := fun pins s σ _ _ v _ I rx h => h pins s σ v I rx
theorem call_F {f : Value} : CallR X f (rC X f) := fun pins s σ _ _ us _ I r h => h pins s σ us I r
theorem C_of {f : Value} {r : List V → Hp → VK → Prop} {xs : List V} {Q : VK} (h : CallR X f r) (q : r xs H Q) : rC X f xs H Q := fun pins s σ us I rx => h pins s σ H xs us Q I rx q
end

/-! ### the judgements over data -/
def W (X : Cx) (H0 : Hp) (ρ : Rho) (δ : Del) (e : Expr) (R : D → Prop) : Prop :=
  ∀ σ H, Fr X.K H0 H ρ → Sl X.K H0 H σ δ → ∀ Q : VK, (∀ v H' d, R d → Ex H H' → IsV X.K H0 H' v d → Q v H') → tE X e σ H Q
def WL (X : Cx) (H0 : Hp) (ρ : Rho) (δ : Del) (e : Expr) (R : List D → Prop) : Prop :=
  ∀ σ H, Fr X.K H0 H ρ → Sl X.K H0 H σ δ → ∀ Q : VK, (∀ p H' ds, R ds → H p = none → Ex H H' → OwnAt X.K H0 H' p (.L ds) → Q (.ref p) H') → tE X e σ H Q
def WT (X : Cx) (H0 : Hp) (ρ : Rho) (δ : Del) (e : Expr) (R : Bool → Prop) : Prop :=
  ∀ σ H, Fr X.K H0 H ρ → Sl X.K H0 H σ δ → ∀ Q : Bool → Hp → Prop, (∀ b H', R b → Ex H H' → Q b H') → tT X e σ H Q
def WW (X : Cx) (H0 : Hp) (ρ : Rho) (δ : Del) (e : Expr) (R : Bool → Prop) : Prop :=
  ∀ σ H, Fr X.K H0 H ρ → Sl X.K H0 H σ δ → ∀ Q : Bool → Hp → Prop, (∀ b H', R b → Ex H H' → Q b H') → tW X e σ H Q
def WA (X : Cx) (H0 : Hp) (ρ : Rho) (δ : Del) (es : List Expr) (R : List D → Prop) : Prop :=
  ∀ σ H, Fr X.K H0 H ρ → Sl X.K H0 H σ δ → ∀ Q : List V → Hp → Prop, (∀ vs H' ds, R ds → Ex H H' → IsVs X.K H' H' vs ds → Q vs H') → tA X es σ H Q
/-- items of a display: over the base -/
def WI (X : Cx) (H0 : Hp) (ρ : Rho) (δ : Del) (es : List Expr) (R : List D → Prop) : Prop :=
  ∀ σ H, Fr X.K H0 H ρ → Sl X.K H0 H σ δ → ∀ Q : List V → Hp → Prop, (∀ vs H' ds, R ds → Ex H H' → IsVs X.K H0 H' vs ds → Q vs H') → tA X es σ H Q
def OpW (X : Cx) (H0 : Hp) (ρ : Rho) (f : Value → Value → Sem Value) (dx dy : D) (R : D → Prop) : Prop :=
  ∀ H x y, Fr X.K H0 H ρ → IsV X.K H0 H x dx → IsV X.K H0 H y dy → ∀ Q : VK, (∀ v H' d, R d → Ex H H' → IsV X.K H0 H' v d → Q v H') → rF X f x y H Q
def TGd (X : Cx) (H0 : Hp) (tg : Expr) (d : D) (δ : Del) (R : Del → Prop) : Prop :=
  ∀ σ H v, Sl X.K H0 H σ δ → IsV X.K H0 H v d → ∀ Q : L2.St → Hp → Prop, (∀ σ' δ', R δ' → Sl X.K H0 H σ' δ' → Q σ' H) → tG X tg v σ H Q
def TGds (X : Cx) (H0 : Hp) (ts : List Expr) (ds : List D) (δ : Del) (R : Del → Prop) : Prop :=
  ∀ σ H vs, Sl X.K H0 H σ δ → IsVs X.K H0 H vs ds → ∀ Q : L2.St → Hp → Prop, (∀ σ' δ', R δ' → Sl X.K H0 H σ' δ' → Q σ' H) → tGs X ts vs σ H Q

inductive Res where
  | d (d : D)
  | l (ds : List D)
  | i (d : D) (a : Addr) (o : O)
def ResAt (K : PySem.W.Frag) (H0 H : Hp) (v : V) : Res → Prop
  | .d d => IsV K H0 H v d
  | .l ds => ∃ p, v = .ref p ∧ H0 p = none ∧ OwnAt K H0 H p (.L ds)
  | .i d a o => IsV K H0 H v d ∧ H0 a = none ∧ OwnAt K H0 H a o
structure Post where
  nx : Rho → Del → Prop
  rt : Res → Prop
  bk : Rho → Del → Prop := fun _ _ => False
  ct : Rho → Del → Prop := fun _ _ => False
structure PostOk (K : PySem.W.Frag) (H0 Hs : Hp) (P : Post) (Dn : Ends) : Prop where
  nx : ∀ ρ δ σ H, P.nx ρ δ → Fr K H0 H ρ → Sl K H0 H σ δ → TK Hs H → Dn.nx σ H
  rt : ∀ r v H ρ, P.rt r → Fr K H0 H ρ → ResAt K H0 H v r → Dn.rt v H
  bk : ∀ ρ δ σ H, P.bk ρ δ → Fr K H0 H ρ → Sl K H0 H σ δ → TK Hs H → Dn.bk σ H
  ct : ∀ ρ δ σ H, P.ct ρ δ → Fr K H0 H ρ → Sl K H0 H σ δ → TK Hs H → Dn.ct σ H
theorem PostOk.from {K : PySem.W.Frag} {H0 Hs H1 : Hp} {P : Post} {Dn : Ends} (o : PostOk K H0 Hs P Dn) (t : TK Hs H1) : PostOk K H0 H1 P Dn :=
  ⟨fun ρ δ σ H p F S k => o.nx ρ δ σ H p F S (t.trans k), o.rt, fun ρ δ σ H p F S k => o.bk ρ δ σ H p F S (t.trans k), fun ρ δ σ H p F S k => o.ct ρ δ σ H p F S (t.trans k)⟩
def BS (X : Cx) (H0 : Hp) (ρ : Rho) (δ : Del) (sts : List Stmt) (P : Post) : Prop :=
  ∀ σ H, Fr X.K H0 H ρ → Sl X.K H0 H σ δ → ∀ Dn, PostOk X.K H0 H P Dn → tB X sts Dn σ H
def S1 (X : Cx) (H0 : Hp) (ρ : Rho) (δ : Del) (st : Stmt) (P : Post) : Prop :=
  ∀ σ H, Fr X.K H0 H ρ → Sl X.K H0 H σ δ → ∀ Dn, PostOk X.K H0 H P Dn → tS X st Dn σ H

/-! ### promises -/
def spD (K : PySem.W.Frag) (Wf : List D → (D → Prop) → Prop) : Sp := fun vs H Q _ => ∃ ds R, Wf ds R ∧ IsVs K H H vs ds ∧ ∀ v H' d, R d → d.flat = true → Ex H H' → IsV K H H' v d → Q v H'
def spL (K : PySem.W.Frag) (Wf : List D → (List D → Prop) → Prop) : Sp := fun vs H Q _ => ∃ ds R, Wf ds R ∧ IsVs K H H vs ds ∧ ∀ p H' es, R es → D.flats es = true → H p = none → Ex H H' → OwnAt K H H' p (.L es) → Q (.ref p) H'

section
variable {X : Cx} {H0 : Hp} {ρ : Rho} {δ : Del} {e a b : Expr} {es : List Expr} {pos p : Pos}
/-! ### expressions -/
theorem w_of {t : TE} {R : D → Prop} (h : PE X e t) (k : ∀ σ H, Fr X.K H0 H ρ → Sl X.K H0 H σ δ → ∀ Q : VK, (∀ v H' d, R d → Ex H H' → IsV X.K H0 H' v d → Q v H') → t σ H Q) : W X H0 ρ δ e R :=
  fun σ H F S Q q => E_of h (k σ H F S Q q)
theorem w_mono {R R' : D → Prop} (h : W X H0 ρ δ e R) (k : ∀ d, R d → R' d) : W X H0 ρ δ e R' := fun σ H F S Q q => h σ H F S Q fun v H' d r => q v H' d (k d r)
theorem w_var (i : Nat) {x : Str} {d : D} {R : D → Prop} (hδ : δ[i]? = some (some d)) (r : R d) (hN : X.N[i]? = some x := by rfl) (hv : Vis X.env.scope x := by first | exact Or.inl rfl | exact Or.inr (Or.inl rfl) | exact Or.inr (Or.inr rfl))
    (hd : (x == ("__debug__" : Str)) = false := by decide) (hcd : (x == ("__classdict__" : Str)) = false := by decide) : W X H0 ρ δ (.Name x pos) R :=
  w_of (pe_var hN hv hd hcd) fun σ H F S Q q => let ⟨v, h1, h2⟩ := S.at_ i d hδ; ⟨v, h1, q v H d r (.refl H) h2⟩
/-- a written constant of the module -/
structure KD (K : PySem.W.Frag) (u : Value) (d : D) : Prop where
  is : ∃ v, RelV v u ∧ ∀ H0 H, IsV K H0 H v d
theorem w_glob {x : Str} {u : Value} {d : D} {R : D → Prop} (hm : X.mg x = some u) (k : KD X.K u d) (r : R d) (hg : Gl X x := by rfl) (hd : (x == ("__debug__" : Str)) = false := by decide) : W X H0 ρ δ (.Name x pos) R := by
  obtain ⟨v, rv, iv⟩ := k.is
  exact w_of (pe_glob hg hm rv hd) fun σ H F S Q q => q v H d r (.refl H) (iv H0 H)
theorem w_int {i : Int} {j : Nat} {R : D → Prop} (r : R (.int i)) : W X H0 ρ δ (.Constant (.int i) j pos) R := w_of pe_int fun σ H F S Q q => q _ H _ r (.refl H) rfl
theorem w_str {x : Str} {j : Nat} {R : D → Prop} (r : R (.str x)) : W X H0 ρ δ (.Constant (.str x) j pos) R := w_of pe_str fun σ H F S Q q => q _ H _ r (.refl H) rfl
theorem w_bl {x : Bool} {j : Nat} {R : D → Prop} (r : R (.bl x)) : W X H0 ρ δ (.Constant (.bool x) j pos) R := w_of pe_bl fun σ H F S Q q => q _ H _ r (.refl H) rfl
theorem w_non {j : Nat} {R : D → Prop} (r : R .non) : W X H0 ρ δ (.Constant .none j pos) R := w_of pe_non fun σ H F S Q q => q _ H _ r (.refl H) rfl
theorem w_bin {op : Operator} {R : D → Prop} (h : W X H0 ρ δ a fun da => W X H0 ρ δ b fun db => OpW X H0 ρ (binaryOp op) da db R) : W X H0 ρ δ (.BinOp a op b pos) R :=
  w_of (pe_op op_F pe_E pe_E) fun σ H F S Q q => h σ H F S _ fun x H1 da wb e1 ix => wb σ H1 (F.step e1) (S.step e1) _ fun y H2 db ow e2 iy =>
    ow H2 x y ((F.step e1).step e2) (ix.mono (.refl _) e2.tk) iy Q fun v H' d r e3 iv => q v H' d r ((e1.trans e2).trans e3) iv
theorem w_cmp {op : CmpOp} {R : D → Prop} (h : W X H0 ρ δ a fun da => W X H0 ρ δ b fun db => OpW X H0 ρ (compareOp op) da db R) (hm : behindInMarks op b = false := by first | exact nomark _ | with_unfolding_all rfl) : W X H0 ρ δ (.Compare a [op] [b] pos) R :=
  w_of (pe_cmpR op_F pe_E pe_E hm) fun σ H F S Q q => h σ H F S _ fun x H1 da wb e1 ix => wb σ H1 (F.step e1) (S.step e1) _ fun y H2 db ow e2 iy =>
    ow H2 x y ((F.step e1).step e2) (ix.mono (.refl _) e2.tk) iy Q fun v H' d r e3 iv => q v H' d r ((e1.trans e2).trans e3) iv
theorem w_neg {R : D → Prop} (h : W X H0 ρ δ a fun d => ∃ i, d = .int i ∧ R (.int (-i))) : W X H0 ρ δ (.UnaryOp .USub a pos) R :=
  w_of (pe_un un_neg pe_E) fun σ H F S Q q => h σ H F S _ fun x H1 d ⟨i, ed, r⟩ e1 ix => by
    subst ed
    exact ⟨i, ix, q _ H1 _ r e1 rfl⟩
theorem w_not {R : D → Prop} (h : W X H0 ρ δ a fun d => ∃ c, d = .bl c ∧ R (.bl (!c))) : W X H0 ρ δ (.UnaryOp .Not a pos) R :=
  w_of (pe_not pe_E) fun σ H F S Q q => h σ H F S _ fun x H1 d ⟨i, ed, r⟩ e1 ix => by
    subst ed
    exact ⟨i, ix, q _ H1 _ r e1 rfl⟩
theorem w_one {op : BoolOp} {R : D → Prop} (h : W X H0 ρ δ a R) : W X H0 ρ δ (.BoolOp op [a] pos) R := w_of (pe_one pe_E) fun σ H F S Q q => h σ H F S Q q
theorem w_and {rest : List Expr} {R : D → Prop} (h : W X H0 ρ δ a fun d => ∃ c, d = .bl c ∧ cond c (W X H0 ρ δ (.BoolOp .And (b :: rest) pos) R) (R (.bl false))) : W X H0 ρ δ (.BoolOp .And (a :: b :: rest) pos) R :=
  w_of (pe_and pe_E pe_E) fun σ H F S Q q => h σ H F S _ fun x H1 d ⟨c, ed, r⟩ e1 ix => by
    subst ed
    refine ⟨c, ix, ?_⟩
    cases c with
    | true => exact r σ H1 (F.step e1) (S.step e1) Q fun v H' d r e2 iv => q v H' d r (e1.trans e2) iv
    | false => exact q _ H1 _ r e1 rfl
theorem w_or {rest : List Expr} {R : D → Prop} (h : W X H0 ρ δ a fun d => ∃ c, d = .bl c ∧ cond c (R (.bl true)) (W X H0 ρ δ (.BoolOp .Or (b :: rest) pos) R)) : W X H0 ρ δ (.BoolOp .Or (a :: b :: rest) pos) R :=
  w_of (pe_or pe_E pe_E) fun σ H F S Q q => h σ H F S _ fun x H1 d ⟨c, ed, r⟩ e1 ix => by
    subst ed
    refine ⟨c, ix, ?_⟩
    cases c with
    | false => exact r σ H1 (F.step e1) (S.step e1) Q fun v H' d r e2 iv => q v H' d r (e1.trans e2) iv
    | true => exact q _ H1 _ r e1 rfl
theorem w_ifE {c : Expr} {R : D → Prop} (h : WT X H0 ρ δ c fun k => cond k (W X H0 ρ δ a R) (W X H0 ρ δ b R)) : W X H0 ρ δ (.IfExp c a b pos) R :=
  w_of (pe_ifExp pt_T pe_E pe_E) fun σ H F S Q q => h σ H F S _ fun k H1 r e1 => by
    cases k with
    | true => exact r σ H1 (F.step e1) (S.step e1) Q fun v H' d r e2 iv => q v H' d r (e1.trans e2) iv
    | false => exact r σ H1 (F.step e1) (S.step e1) Q fun v H' d r e2 iv => q v H' d r (e1.trans e2) iv
/-! ### items, arguments -/
theorem wi_nil {R : List D → Prop} (r : R []) : WI X H0 ρ δ [] R := fun σ H F S Q q => A_of pa_nil (q [] H [] r (.refl H) rfl)
theorem wi_cons {R : List D → Prop} (h : W X H0 ρ δ e fun d => WI X H0 ρ δ es fun ds => R (d :: ds)) (hs : starEach (e :: es) X.env = (false, eval e X.env) :: starEach es X.env := by rfl) : WI X H0 ρ δ (e :: es) R :=
  fun σ H F S Q q => A_of (pa_cons pe_E pa_A hs) (h σ H F S _ fun x H1 d wr e1 ix => wr σ H1 (F.step e1) (S.step e1) _ fun vs H2 ds r e2 iv => q _ H2 _ r (e1.trans e2) ⟨x, vs, rfl, ix.mono (.refl _) e2.tk, iv⟩)
theorem wa_nil {R : List D → Prop} (r : R []) : WA X H0 ρ δ [] R := fun σ H F S Q q => A_of pa_nil (q [] H [] r (.refl H) rfl)
theorem wa_v {R : List D → Prop} (h : W X H0 ρ δ e fun d => WA X H0 ρ δ es fun ds => R (d :: ds)) (hs : starEach (e :: es) X.env = (false, eval e X.env) :: starEach es X.env := by rfl) : WA X H0 ρ δ (e :: es) R :=
  fun σ H F S Q q => A_of (pa_cons pe_E pa_A hs) (h σ H F S _ fun x H1 d wr e1 ix => wr σ H1 (F.step e1) (S.step e1) _ fun vs H2 ds r e2 iv => q _ H2 _ r (e1.trans e2) ⟨x, vs, rfl, ix.mono ((F.step e1).step e2).ex e2.tk, iv⟩)
/-- an owned list handed on -/
theorem wa_o {R : List D → Prop} (h : W X H0 ρ δ e fun d => ∃ q xs, d = .obj q ∧ ρ q = some (.L xs) ∧ WA X H0 ρ δ es fun ds => R (.lst xs :: ds)) (hs : starEach (e :: es) X.env = (false, eval e X.env) :: starEach es X.env := by rfl) : WA X H0 ρ δ (e :: es) R :=
  fun σ H F S Q q => A_of (pa_cons pe_E pa_A hs) (h σ H F S _ fun x H1 d ⟨a, xs, ed, ha, wr⟩ e1 ix => by
    subst ed
    refine wr σ H1 (F.step e1) (S.step e1) _ fun vs H2 ds r e2 iv => q _ H2 _ r (e1.trans e2) ⟨x, vs, rfl, ?_, iv⟩
    have F2 := (F.step e1).step e2
    obtain ⟨us, hu, iu⟩ := (F2.own a _ ha).2
    exact ⟨a, us, ix, hu, iu.mono F2.ex (.refl _)⟩)
/-- a new list handed on -/
theorem wa_l {R : List D → Prop} (h : WL X H0 ρ δ e fun xs => WA X H0 ρ δ es fun ds => R (.lst xs :: ds)) (hs : starEach (e :: es) X.env = (false, eval e X.env) :: starEach es X.env := by rfl) : WA X H0 ρ δ (e :: es) R :=
  fun σ H F S Q q => A_of (pa_cons pe_E pa_A hs) (h σ H F S _ fun a H1 xs wr hn e1 oa => by
    refine wr σ H1 (F.step e1) (S.step e1) _ fun vs H2 ds r e2 iv => q _ H2 _ r (e1.trans e2) ⟨.ref a, vs, rfl, ?_, iv⟩
    obtain ⟨us, hu, iu⟩ := oa.ex e2
    exact ⟨a, us, rfl, hu, iu.mono ((F.step e1).step e2).ex (.refl _)⟩)
theorem wl_mono {R R' : List D → Prop} (h : WL X H0 ρ δ e R) (k : ∀ ds, R ds → R' ds) : WL X H0 ρ δ e R' := fun σ H F S Q q => h σ H F S Q fun a H' ds r => q a H' ds (k ds r)
theorem w_tup {x1 : Nat} {R : D → Prop} (h : WI X H0 ρ δ es fun ds => ds.length ≤ sizeLine ∧ R (.tup ds)) : W X H0 ρ δ (.Tuple es x1 pos) R :=
  w_of (pe_tup pa_A) fun σ H F S Q q => h σ H F S _ fun vs H1 ds ⟨hl, r⟩ e1 iv => ⟨by rw [iv.len]; exact hl, fun a ha => q _ _ _ r (e1.trans (.new ha)) ⟨a, vs, rfl, .of upd_same, iv.mono (.refl _) (Ex.new ha).tk⟩⟩
theorem wl_lst {R : List D → Prop} (h : WI X H0 ρ δ es fun ds => ds.length ≤ sizeLine ∧ R ds) : WL X H0 ρ δ (.List es pos) R :=
  fun σ H F S Q q => E_of (pe_lst pa_A) (h σ H F S _ fun vs H1 ds ⟨hl, r⟩ e1 iv => ⟨by rw [iv.len]; exact hl, fun a ha => q _ _ _ r (e1.free ha) (e1.trans (.new ha)) ⟨vs, upd_same, iv.mono (.refl _) (Ex.new ha).tk⟩⟩)
end
end LP
set_option maxRecDepth 100000
/-! Fw3: tests, statements, operators on ints, sequences, calls. -/
namespace LP
open PySem PySem.Spec PyProof.Rows L2

section
variable {X : Cx} {H0 : Hp} {ρ : Rho} {δ : Del} {e a b c : Expr} {es : List Expr} {pos p : Pos}
/-! ### tests -/
theorem wt_of {t : TT} {R : Bool → Prop} (h : PT X e t) (k : ∀ σ H, Fr X.K H0 H ρ → Sl X.K H0 H σ δ → ∀ Q : Bool → Hp → Prop, (∀ b H', R b → Ex H H' → Q b H') → t σ H Q) : WT X H0 ρ δ e R :=
  fun σ H F S Q q => T_of h (k σ H F S Q q)
/-- an expression whose value is True or False -/
theorem wt_val {R : Bool → Prop} (h : W X H0 ρ δ e fun d => ∃ k, d = .bl k ∧ R k) (he : ∀ whole, isTrue e X.env whole = (do let v ← whole; standAt e.pos; holding [v] (truthy v)) := by intro _; rfl) : WT X H0 ρ δ e R :=
  wt_of (pt_val pe_E he) fun σ H F S Q q => h σ H F S _ fun x H1 d ⟨k, ed, r⟩ e1 ix => by
    subst ed
    exact ⟨k, ix, q k H1 r e1⟩
theorem wt_cmp {op : CmpOp} {R : Bool → Prop} (h : W X H0 ρ δ a fun da => W X H0 ρ δ b fun db => OpW X H0 ρ (compareOp op) da db fun d => ∃ k, d = .bl k ∧ R k) (hm : behindInMarks op b = false := by first | exact nomark _ | with_unfolding_all rfl) : WT X H0 ρ δ (.Compare a [op] [b] pos) R :=
  wt_of (pt_cmpR op_F pe_E pe_E hm) fun σ H F S Q q => h σ H F S _ fun x H1 da wb e1 ix => wb σ H1 (F.step e1) (S.step e1) _ fun y H2 db ow e2 iy =>
    ow H2 x y ((F.step e1).step e2) (ix.mono (.refl _) e2.tk) iy _ fun v H' d ⟨k, ed, r⟩ e3 iv => by
      subst ed
      exact ⟨k, iv, q k H' r ((e1.trans e2).trans e3)⟩
theorem wt_ww {R : Bool → Prop} (h : WW X H0 ρ δ e R) : WT X H0 ρ δ e R := wt_of (PW.pt pw_W) fun σ H F S Q q => h σ H F S Q q
theorem wt_not {R : Bool → Prop} (h : WT X H0 ρ δ a fun k => R (!k)) : WT X H0 ρ δ (.UnaryOp .Not a pos) R :=
  wt_of (pt_not pt_T) fun σ H F S Q q => h σ H F S _ fun k H' r e1 => q _ H' r e1
theorem ww_and1 {R : Bool → Prop} (h : WT X H0 ρ δ a R) : WW X H0 ρ δ (.BoolOp .And [a] pos) R := fun σ H F S Q q => W_of (pw_and1 pt_T) (h σ H F S Q q)
theorem ww_or1 {R : Bool → Prop} (h : WT X H0 ρ δ a R) : WW X H0 ρ δ (.BoolOp .Or [a] pos) R := fun σ H F S Q q => W_of (pw_or1 pt_T) (h σ H F S Q q)
theorem ww_and {rest : List Expr} {R : Bool → Prop} (h : WT X H0 ρ δ a fun k => cond k (WW X H0 ρ δ (.BoolOp .And (b :: rest) pos) R) (R false)) : WW X H0 ρ δ (.BoolOp .And (a :: b :: rest) pos) R :=
  fun σ H F S Q q => W_of (pw_and pt_T pw_W) (h σ H F S _ fun k H1 r e1 => by
    cases k with
    | true => exact r σ H1 (F.step e1) (S.step e1) Q fun k H' r e2 => q k H' r (e1.trans e2)
    | false => exact q _ H1 r e1)
theorem ww_or {rest : List Expr} {R : Bool → Prop} (h : WT X H0 ρ δ a fun k => cond k (R true) (WW X H0 ρ δ (.BoolOp .Or (b :: rest) pos) R)) : WW X H0 ρ δ (.BoolOp .Or (a :: b :: rest) pos) R :=
  fun σ H F S Q q => W_of (pw_or pt_T pw_W) (h σ H F S _ fun k H1 r e1 => by
    cases k with
    | false => exact r σ H1 (F.step e1) (S.step e1) Q fun k H' r e2 => q k H' r (e1.trans e2)
    | true => exact q _ H1 r e1)
theorem wt_mono {R R' : Bool → Prop} (h : WT X H0 ρ δ e R) (k : ∀ b, R b → R' b) : WT X H0 ρ δ e R' := fun σ H F S Q q => h σ H F S Q fun b H' r => q b H' (k b r)
/-- a < b < c -/
theorem wt_chain {op op' : CmpOp} {R : Bool → Prop} (h : W X H0 ρ δ a fun da => W X H0 ρ δ b fun db => OpW X H0 ρ (compareOp op) da db fun d => ∃ k, d = .bl k ∧
      cond k (W X H0 ρ δ c fun dc => OpW X H0 ρ (compareOp op') db dc fun d => ∃ k, d = .bl k ∧ R k) (R false)) (hm : lastMarks [op, op'] [b, c] = false := by with_unfolding_all rfl) : WT X H0 ρ δ (.Compare a [op, op'] [b, c] pos) R :=
  wt_of (pt_chain op_F op_F pe_E pe_E pe_E hm) fun σ H F S Q q => h σ H F S _ fun x H1 da wb e1 ix => wb σ H1 (F.step e1) (S.step e1) _ fun y H2 db ow e2 iy =>
    ow H2 x y ((F.step e1).step e2) (ix.mono (.refl _) e2.tk) iy _ fun v H3 d ⟨k, ed, r⟩ e3 iv => by
      subst ed
      refine ⟨k, iv, ?_⟩
      have e13 := (e1.trans e2).trans e3
      cases k with
      | false => exact ⟨false, rfl, q _ H3 r e13⟩
      | true =>
        refine r σ H3 (F.step e13) (S.step e13) _ fun z H4 dc ow2 e4 iz => ?_
        refine ow2 H4 y z ((F.step e13).step e4) ((iy.mono (.refl _) e3.tk).mono (.refl _) e4.tk) iz _ fun v H5 d' rd e5 iv => ?_
        obtain ⟨k, ed, r⟩ := rd
        subst ed
        exact ⟨k, iv, q k H5 r ((e13.trans e4).trans e5)⟩

/-! ### operators -/
theorem opw_of {f : Value → Value → Sem Value} {r : R2} {dx dy : D} {R : D → Prop} (h : OpR X f r) (k : ∀ H x y, Fr X.K H0 H ρ → IsV X.K H0 H x dx → IsV X.K H0 H y dy → ∀ Q : VK, (∀ v H' d, R d → Ex H H' → IsV X.K H0 H' v d → Q v H') → r x y H Q) : OpW X H0 ρ f dx dy R :=
  fun H x y F ix iy Q q => F_of h (k H x y F ix iy Q q)
variable {i j : Int} {R : D → Prop} {x y : Str}
theorem opw_I0 {f : Value → Value → Sem Value} {g : Int → Int → V} {d : D} (h : OpR X f (rI0 g)) (hg : ∀ H0 H, IsV X.K H0 H (g i j) d) (r : R d) : OpW X H0 ρ f (.int i) (.int j) R :=
  opw_of h fun H x y F ix iy Q q => ⟨i, j, ix, iy, q _ H _ r (.refl H) (hg _ _)⟩
theorem opw_I {f : Value → Value → Sem Value} {C : Int → Int → Prop} {g : Int → Int → V} {d : D} (h : OpR X f (rI C g)) (hg : ∀ H0 H, IsV X.K H0 H (g i j) d) (hc : C i j) (r : R d) : OpW X H0 ρ f (.int i) (.int j) R :=
  opw_of h fun H x y F ix iy Q q => ⟨i, j, ix, iy, hc, q _ H _ r (.refl H) (hg _ _)⟩
theorem opw_add (r : R (.int (i + j))) : OpW X H0 ρ (binaryOp .Add) (.int i) (.int j) R := opw_I0 (d := .int (i + j)) op_add (fun _ _ => rfl) r
theorem opw_sub (r : R (.int (i - j))) : OpW X H0 ρ (binaryOp .Sub) (.int i) (.int j) R := opw_I0 (d := .int (i - j)) op_sub (fun _ _ => rfl) r
theorem opw_mul (hc : CMulW i j) (r : R (.int (i * j))) : OpW X H0 ρ (binaryOp .Mult) (.int i) (.int j) R := opw_I (d := .int (i * j)) op_mulW (fun _ _ => rfl) hc r
theorem opw_fdiv (hc : CDivW i j) (r : R (.int (i / j))) : OpW X H0 ρ (binaryOp .FloorDiv) (.int i) (.int j) R := opw_I (d := .int (i / j)) op_fdivW (fun _ _ => rfl) hc r
theorem opw_mod (hc : 0 < j) (r : R (.int (i % j))) : OpW X H0 ρ (binaryOp .Mod) (.int i) (.int j) R := opw_I (d := .int (i % j)) op_mod (fun _ _ => rfl) hc r
theorem opw_pow (hc : CPow i j) (r : R (.int (i ^ j.toNat))) : OpW X H0 ρ (binaryOp .Pow) (.int i) (.int j) R := opw_I (d := .int (i ^ j.toNat)) op_pow (fun _ _ => rfl) hc r
theorem opw_lt (r : R (.bl (decide (i < j)))) : OpW X H0 ρ (compareOp .Lt) (.int i) (.int j) R := opw_I0 (d := .bl (decide (i < j))) op_lt (fun _ _ => rfl) r
theorem opw_le (r : R (.bl (decide (i ≤ j)))) : OpW X H0 ρ (compareOp .LtE) (.int i) (.int j) R := opw_I0 (d := .bl (decide (i ≤ j))) op_le (fun _ _ => rfl) r
theorem opw_gt (r : R (.bl (decide (j < i)))) : OpW X H0 ρ (compareOp .Gt) (.int i) (.int j) R := opw_I0 (d := .bl (decide (j < i))) op_gt (fun _ _ => rfl) r
theorem opw_ge (r : R (.bl (decide (j ≤ i)))) : OpW X H0 ρ (compareOp .GtE) (.int i) (.int j) R := opw_I0 (d := .bl (decide (j ≤ i))) op_ge (fun _ _ => rfl) r
theorem opw_eqI (r : R (.bl (decide (i = j)))) : OpW X H0 ρ (compareOp .Eq) (.int i) (.int j) R := opw_of op_eq fun H x y F ix iy Q q => by
  cases ix; cases iy
  exact ⟨rfl, q _ H _ r (.refl H) (by show V.bl _ = V.bl _; rw [decide_eq_decide.mpr (show V.int i = V.int j ↔ i = j from ⟨fun h => V.int.inj h, fun h => by rw [h]⟩)])⟩
theorem opw_neI (r : R (.bl (!decide (i = j)))) : OpW X H0 ρ (compareOp .NotEq) (.int i) (.int j) R := opw_of op_ne fun H x y F ix iy Q q => by
  cases ix; cases iy
  exact ⟨rfl, q _ H _ r (.refl H) (by show V.bl _ = V.bl _; rw [decide_eq_decide.mpr (show V.int i = V.int j ↔ i = j from ⟨fun h => V.int.inj h, fun h => by rw [h]⟩)])⟩
theorem opw_eqS (r : R (.bl (decide (x = y)))) : OpW X H0 ρ (compareOp .Eq) (.str x) (.str y) R := opw_of op_eq fun H u v F ix iy Q q => by
  cases ix; cases iy
  exact ⟨rfl, q _ H _ r (.refl H) (by show V.bl _ = V.bl _; rw [decide_eq_decide.mpr (show V.str x = V.str y ↔ x = y from ⟨fun h => V.str.inj h, fun h => by rw [h]⟩)])⟩
theorem opw_neS (r : R (.bl (!decide (x = y)))) : OpW X H0 ρ (compareOp .NotEq) (.str x) (.str y) R := opw_of op_ne fun H u v F ix iy Q q => by
  cases ix; cases iy
  exact ⟨rfl, q _ H _ r (.refl H) (by show V.bl _ = V.bl _; rw [decide_eq_decide.mpr (show V.str x = V.str y ↔ x = y from ⟨fun h => V.str.inj h, fun h => by rw [h]⟩)])⟩
def D.isNon : D → Bool
  | .non => true
  | _ => false
theorem IsV.isNon {K : PySem.W.Frag} {H0 H : Hp} {v : V} {d : D} (h : IsV K H0 H v d) : decide (v = .non) = d.isNon := by
  cases d with
  | non => cases h; rfl
  | bl b => cases h; rfl
  | int b => cases h; rfl
  | str b => cases h; rfl
  | tup ds => obtain ⟨a, vs, rfl, _⟩ := h; rfl
  | lst ds => obtain ⟨a, vs, rfl, _⟩ := h; rfl
  | ro ds => obtain ⟨a, vs, rfl, _⟩ := h; rfl
  | obj b => cases h; rfl
  | e0 => obtain ⟨a, rfl, _⟩ := h; rfl
theorem opw_isN {d : D} (r : R (.bl d.isNon)) : OpW X H0 ρ (compareOp .Is) d .non R := opw_of op_isN fun H u v F ix iy Q q => ⟨iy, q _ H _ r (.refl H) (by show V.bl _ = V.bl _; rw [ix.isNon])⟩
theorem opw_notN {d : D} (r : R (.bl (!d.isNon))) : OpW X H0 ρ (compareOp .IsNot) d .non R := opw_of op_notN fun H u v F ix iy Q q => ⟨iy, q _ H _ r (.refl H) (by show V.bl _ = V.bl _; rw [ix.isNon])⟩

/-! ### sequences -/
def SeqD (ρ : Rho) (d : D) (xs : List D) : Prop := match d with
  | .tup ys => xs = ys
  | .lst ys => xs = ys
  | .ro ys => xs = ys
  | .obj p => ρ p = some (.L xs)
  | _ => False
theorem SeqD.at_ {K : PySem.W.Frag} {H : Hp} {v : V} {d : D} {xs : List D} (s : SeqD ρ d xs) (F : Fr K H0 H ρ) (h : IsV K H0 H v d) : ∃ a vs, v = .ref a ∧ (SqL K H a vs ∨ SqT K H a vs) ∧ IsVs K H0 H vs xs := by
  cases d with
  | tup ys => cases s; obtain ⟨a, vs, e, h1, h2⟩ := h; exact ⟨a, vs, e, .inr h1, h2⟩
  | lst ys => cases s; obtain ⟨a, vs, e, h1, h2⟩ := h; exact ⟨a, vs, e, .inl (F.ex.seq (.of h1)), h2⟩
  | ro ys => cases s; obtain ⟨a, vs, e, h1, h2⟩ := h; exact ⟨a, vs, e, .inl (F.ex.seq h1), h2⟩
  | obj p => obtain ⟨vs, h1, h2⟩ := (F.own p _ s).2; exact ⟨p, vs, h, .inl (.of h1), h2⟩
  | _ => exact s.elim
theorem IsVs.atI {K : PySem.W.Frag} {H : Hp} {vs : List V} {ds : List D} {n : Nat} {d : D} (h : IsVs K H0 H vs ds) (e : ds[n]? = some d) : ∃ v, L2.atI vs (n : Int) = some v ∧ IsV K H0 H v d := by
  obtain ⟨v, e1, q⟩ := h.get e
  exact ⟨v, atI_nat e1, q⟩
/-- a[b] of a tuple or a list, at a place from the start -/
theorem w_ix {R : D → Prop} (h : W X H0 ρ δ a fun da => W X H0 ρ δ b fun db => ∃ (n : Nat) (xs : List D) (d : D), db = .int (n : Int) ∧ SeqD ρ da xs ∧ xs[n]? = some d ∧ R d) (hs : PlainIx b := by intro _ _; rfl) : W X H0 ρ δ (.Subscript a b pos) R :=
  w_of (pe_ix ix_seq pe_E pe_E hs) fun σ H F S Q q => h σ H F S _ fun x H1 da wb e1 ix => wb σ H1 (F.step e1) (S.step e1) _ fun y H2 db ⟨n, xs, d, eb, sq, en, r⟩ e2 iy => by
    subst eb
    cases iy
    obtain ⟨l, vs, rfl, hl, iv⟩ := sq.at_ ((F.step e1).step e2) (ix.mono (.refl _) e2.tk)
    obtain ⟨v, ev, iv⟩ := iv.atI en
    rcases hl with hl | hl
    · exact .inl ⟨l, vs, (n : Int), v, rfl, rfl, hl, ev, q v H2 d r (e1.trans e2) iv⟩
    · exact .inr (.inl ⟨l, vs, (n : Int), v, rfl, rfl, hl, ev, q v H2 d r (e1.trans e2) iv⟩)
/-! ### built-ins by name -/
theorem w_callB {f : String} {R : D → Prop} {x : Str} {r : List V → Hp → VK → Prop} (hc : CallR X (.builtin f) r) (hm : X.mg x = none) (hv : bootBuiltins x = some (.builtin f)) (hg : Gl X x) {t : TA} (ha : PA X (e :: es) t)
    (k : ∀ σ H, Fr X.K H0 H ρ → Sl X.K H0 H σ δ → ∀ Q : VK, (∀ v H' d, R d → Ex H H' → IsV X.K H0 H' v d → Q v H') → t σ H fun vs H1 => r vs H1 Q)
    (hn : x ≠ "__name__" := by decide) (hdb : (x == ("__debug__" : Str)) = false := by decide)
    (he : starEach (e :: es) X.env = (false, eval e X.env) :: starEach es X.env := by rfl) (hpl : (backTo pos (starEach es X.env)).any (·.1) = false := by rfl) : W X H0 ρ δ (.Call (.Name x p) (e :: es) [] pos) R :=
  w_of (pe_callB hc hg hm hv ha hn hdb he hpl) k
theorem w_len {R : D → Prop} (h : W X H0 ρ δ e fun d => ∃ xs, SeqD ρ d xs ∧ R (.int (xs.length : Int))) (hm : X.mg "len" = none) (hg : Gl X "len" := by rfl)
    (he : starEach [e] X.env = (false, eval e X.env) :: starEach [] X.env := by rfl) : W X H0 ρ δ (.Call (.Name "len" p) [e] [] pos) R :=
  w_of (pe_callB call_len_seq hg hm boot_len (pa_cons pe_E pa_nil he) (by decide) (by decide) he rfl) fun σ H F S Q q => h σ H F S _ fun v H1 d ⟨xs, sq, r⟩ e1 iv => by
    obtain ⟨l, vs, rfl, hl, iv⟩ := sq.at_ (F.step e1) iv
    exact ⟨l, vs, rfl, hl, q _ H1 _ r e1 (by show V.int _ = V.int _; rw [iv.len])⟩
theorem w_abs {R : D → Prop} (h : W X H0 ρ δ e fun d => ∃ i, d = .int i ∧ R (.int (if i < 0 then -i else i))) (hm : X.mg "abs" = none) (hg : Gl X "abs" := by rfl)
    (he : starEach [e] X.env = (false, eval e X.env) :: starEach [] X.env := by rfl) : W X H0 ρ δ (.Call (.Name "abs" p) [e] [] pos) R :=
  w_of (pe_callB call_abs hg hm (by decide +kernel) (pa_cons pe_E pa_nil he) (by decide) (by decide) he rfl) fun σ H F S Q q => h σ H F S _ fun v H1 d ⟨i, ed, r⟩ e1 iv => by
    subst ed
    cases iv
    exact ⟨i, rfl, q _ H1 _ r e1 rfl⟩
/-- tuple(..) of a list -/
theorem w_tupO {R : D → Prop} (h : W X H0 ρ δ e fun d => ∃ xs, SeqD ρ d xs ∧ R (.tup xs)) (hm : X.mg "tuple" = none) (hg : Gl X "tuple" := by rfl)
    (he : starEach [e] X.env = (false, eval e X.env) :: starEach [] X.env := by rfl) : W X H0 ρ δ (.Call (.Name "tuple" p) [e] [] pos) R :=
  w_of (pe_callTy call_tuple_of hg hm (by decide +kernel) (pa_cons pe_E pa_nil he) (by decide) (by decide) he rfl) fun σ H F S Q q => h σ H F S _ fun v H1 d ⟨xs, sq, r⟩ e1 iv => by
    obtain ⟨l, vs, rfl, hl, iv⟩ := sq.at_ (F.step e1) iv
    rcases hl with hl | hl
    · exact ⟨l, vs, rfl, .inl ⟨hl, fun t ht => q _ _ _ r (e1.trans (.new ht)) ⟨t, vs, rfl, .of upd_same, iv.mono (.refl _) (Ex.new ht).tk⟩⟩⟩
    · exact ⟨l, vs, rfl, .inr ⟨hl, q _ H1 _ r e1 ⟨l, vs, rfl, hl, iv⟩⟩⟩
theorem w_tupL {R : D → Prop} (h : WL X H0 ρ δ e fun xs => R (.tup xs)) (hm : X.mg "tuple" = none) (hg : Gl X "tuple" := by rfl)
    (he : starEach [e] X.env = (false, eval e X.env) :: starEach [] X.env := by rfl) : W X H0 ρ δ (.Call (.Name "tuple" p) [e] [] pos) R :=
  w_of (pe_callTy call_tuple_of hg hm (by decide +kernel) (pa_cons pe_E pa_nil he) (by decide) (by decide) he rfl) fun σ H F S Q q => h σ H F S _ fun l H1 xs r hn e1 ⟨vs, hl, iv⟩ =>
    ⟨l, vs, rfl, .inl ⟨.of hl, fun t ht => q _ _ _ r (e1.trans (.new ht)) ⟨t, vs, rfl, .of upd_same, iv.mono (.refl _) (Ex.new ht).tk⟩⟩⟩
/-- list(..) -/
theorem wl_list {R : List D → Prop} (h : W X H0 ρ δ e fun d => ∃ xs, SeqD ρ d xs ∧ R xs) (hm : X.mg "list" = none) (hg : Gl X "list" := by rfl)
    (he : starEach [e] X.env = (false, eval e X.env) :: starEach [] X.env := by rfl) : WL X H0 ρ δ (.Call (.Name "list" p) [e] [] pos) R :=
  fun σ H F S Q q => E_of (pe_callTy call_list_of hg hm (by decide +kernel) (pa_cons pe_E pa_nil he) (by decide) (by decide) he rfl) (h σ H F S _ fun v H1 d ⟨xs, sq, r⟩ e1 iv => by
    obtain ⟨l, vs, rfl, hl, iv⟩ := sq.at_ (F.step e1) iv
    exact ⟨l, vs, rfl, hl, fun t ht => q _ _ _ r (e1.free ht) (e1.trans (.new ht)) ⟨vs, upd_same, iv.mono (.refl _) (Ex.new ht).tk⟩⟩)
/-! ### defs -/
/-- a def of the module keeps its promise -/
structure Def (P : Program) (w : World) (K : PySem.W.Frag) (mg : Str → Option Value) (base : Heap) (k : Nat) (x : Str) (ps : List Str) (sp : Sp) : Prop where
  is : ∃ (f : Addr) (fd : FuncData), FnOk P w K mg base CX0 k f fd ps sp ∧ mg x = some (.ref f) ∧ PySem.W.keepIn K (.ref f) = true ∧ Binds K fd ps []
theorem w_call {k : Nat} {x : Str} {ps : List Str} {Wf : List D → (D → Prop) → Prop} {R : D → Prop} (G : Def X.prog X.w X.K X.mg X.base k x ps (spD X.K Wf)) (hr : Room k X.A)
    (h : WA X H0 ρ δ (e :: es) fun ds => Wf ds R) (hg : Gl X x := by rfl) (hdb : (x == ("__debug__" : Str)) = false := by decide)
    (he : starEach (e :: es) X.env = (false, eval e X.env) :: starEach es X.env := by rfl) (hpl : (backTo pos (starEach es X.env)).any (·.1) = false := by rfl) : W X H0 ρ δ (.Call (.Name x p) (e :: es) [] pos) R := by
  obtain ⟨f, fd, F1, hm, hk, hb⟩ := G.is
  refine w_of (pe_call F1 hr hg hm hk hb .nil pass0 pa_A hdb he hpl) fun σ H F S Q q => h σ H F S _ fun vs H1 ds wf e1 iv => ?_
  show spD X.K Wf (vs ++ []) H1 Q E0
  rw [List.append_nil]
  exact ⟨ds, R, wf, iv, fun v H' d r fl e2 iv => q v H' d r (e1.trans e2) (iv.rebase _ fl)⟩
theorem wl_call {k : Nat} {x : Str} {ps : List Str} {Wf : List D → (List D → Prop) → Prop} {R : List D → Prop} (G : Def X.prog X.w X.K X.mg X.base k x ps (spL X.K Wf)) (hr : Room k X.A)
    (h : WA X H0 ρ δ (e :: es) fun ds => Wf ds R) (hg : Gl X x := by rfl) (hdb : (x == ("__debug__" : Str)) = false := by decide)
    (he : starEach (e :: es) X.env = (false, eval e X.env) :: starEach es X.env := by rfl) (hpl : (backTo pos (starEach es X.env)).any (·.1) = false := by rfl) : WL X H0 ρ δ (.Call (.Name x p) (e :: es) [] pos) R := by
  obtain ⟨f, fd, F1, hm, hk, hb⟩ := G.is
  refine fun σ H F S Q q => E_of (pe_call F1 hr hg hm hk hb .nil pass0 pa_A hdb he hpl) (h σ H F S _ fun vs H1 ds wf e1 iv => ?_)
  show spL X.K Wf (vs ++ []) H1 Q E0
  rw [List.append_nil]
  refine ⟨ds, R, wf, iv, fun p H' es r fl hn e2 oa => q p H' es r (e1.free hn) (e1.trans e2) ?_⟩
  obtain ⟨us, h1, h2⟩ := oa
  exact ⟨us, h1, h2.rebase _ fl⟩
end

/-! ### statements -/
section
variable {X : Cx} {H0 : Hp} {ρ : Rho} {δ : Del} {e c : Expr} {st : Stmt} {rest sts els : List Stmt} {pos pos' : Pos} {P : Post}
theorem bs_nil (h : P.nx ρ δ) : BS X H0 ρ δ [] P := fun σ H F S Dn o => B_of pss_nil (o.nx ρ δ σ H h F S (.refl H))
theorem PostOk.withNx {K : PySem.W.Frag} {H0 Hs : Hp} {P : Post} {Dn : Ends} {N : Rho → Del → Prop} {n : L2.St → Hp → Prop} (o : PostOk K H0 Hs P Dn) (h : ∀ ρ δ σ H, N ρ δ → Fr K H0 H ρ → Sl K H0 H σ δ → TK Hs H → n σ H) : PostOk K H0 Hs { P with nx := N } { Dn with nx := n } := ⟨h, o.rt, o.bk, o.ct⟩
theorem bs_cons (h : S1 X H0 ρ δ st { P with nx := fun ρ' δ' => BS X H0 ρ' δ' rest P }) : BS X H0 ρ δ (st :: rest) P :=
  fun σ H F S Dn o => B_of (pss_cons ps_S pss_B) (h σ H F S _ (o.withNx fun ρ' δ' σ' H' b F' S' k => b σ' H' F' S' Dn (o.from k)))
theorem s_set (i : Nat) {x : Str} (h : W X H0 ρ δ e fun d => P.nx ρ (δ.set i (some d))) (hN : X.N.Nodup) (hi : X.N[i]? = some x := by rfl) (hx : Loc X.env.scope x := by first | exact Or.inl rfl | exact Or.inr rfl)
    (hs : swapsWith e (some (.Name x pos')) pos.line X.env = pure false := by rfl) (hf : X.fn x = true ∨ X.env.scope.names.lookup x = some .local := by first | exact .inl rfl | exact .inr rfl) : S1 X H0 ρ δ (.Assign [.Name x pos'] e pos) P :=
  fun σ H F S Dn o => S_of (ps_set hN hi hx pe_E hs hf) (h σ H F S _ fun v H1 d r e1 iv => o.nx _ _ _ _ r (F.step e1) ((S.step e1).set iv) e1.tk)
theorem s_setL (i : Nat) {x : Str} (h : WL X H0 ρ δ e fun xs => ∀ p, ρ p = none → P.nx (put ρ p (.L xs)) (δ.set i (some (.obj p)))) (hN : X.N.Nodup) (hi : X.N[i]? = some x := by rfl) (hx : Loc X.env.scope x := by first | exact Or.inl rfl | exact Or.inr rfl)
    (hs : swapsWith e (some (.Name x pos')) pos.line X.env = pure false := by rfl) (hf : X.fn x = true ∨ X.env.scope.names.lookup x = some .local := by first | exact .inl rfl | exact .inr rfl) : S1 X H0 ρ δ (.Assign [.Name x pos'] e pos) P :=
  fun σ H F S Dn o => S_of (ps_set hN hi hx pe_E hs hf) (h σ H F S _ fun a H1 xs r hn e1 oa => o.nx _ _ _ _ (r a (F.free hn)) ((F.step e1).new (F.ex.free hn) oa) ((S.step e1).set rfl) e1.tk)
theorem s_ret (h : W X H0 ρ δ e fun d => P.rt (.d d)) : S1 X H0 ρ δ (.Return (some e) pos) P :=
  fun σ H F S Dn o => S_of (ps_ret pe_E) (h σ H F S _ fun v H1 d r e1 iv => o.rt (.d d) v H1 ρ r (F.step e1) iv)
theorem s_retL (h : WL X H0 ρ δ e fun xs => P.rt (.l xs)) : S1 X H0 ρ δ (.Return (some e) pos) P :=
  fun σ H F S Dn o => S_of (ps_ret pe_E) (h σ H F S _ fun a H1 xs r hn e1 oa => o.rt (.l xs) _ H1 _ r (F.step e1) ⟨a, rfl, F.ex.free hn, oa⟩)
/-- an owned list handed back -/
theorem s_retO (h : W X H0 ρ δ e fun d => ∃ q xs, d = .obj q ∧ ρ q = some (.L xs) ∧ P.rt (.l xs)) : S1 X H0 ρ δ (.Return (some e) pos) P :=
  fun σ H F S Dn o => S_of (ps_ret pe_E) (h σ H F S _ fun v H1 d ⟨q, xs, ed, hq, r⟩ e1 iv => by
    subst ed
    obtain ⟨h0, oa⟩ := (F.step e1).own q _ hq
    exact o.rt (.l xs) v H1 ρ r (F.step e1) ⟨q, iv, h0, oa⟩)
theorem s_if (h : WT X H0 ρ δ c fun k => cond k (BS X H0 ρ δ sts P) (BS X H0 ρ δ els P)) : S1 X H0 ρ δ (.If c sts els pos) P :=
  fun σ H F S Dn o => S_of (ps_if pt_T pss_B pss_B) (h σ H F S _ fun k H1 r e1 => by
    cases k with
    | true => exact r σ H1 (F.step e1) (S.step e1) Dn (o.from e1.tk)
    | false => exact r σ H1 (F.step e1) (S.step e1) Dn (o.from e1.tk))
theorem s_drop (h : W X H0 ρ δ e fun _ => P.nx ρ δ) (hs : swapsWith e none pos.line X.env = pure false := by rfl) : S1 X H0 ρ δ (.Expr e pos) P :=
  fun σ H F S Dn o => S_of (ps_expr pe_E hs) (h σ H F S _ fun v H1 d r e1 iv => o.nx _ _ _ _ r (F.step e1) (S.step e1) e1.tk)
theorem s_break (h : P.bk ρ δ) : S1 X H0 ρ δ (.Break pos) P := fun σ H F S Dn o => S_of ps_break (o.bk _ _ _ _ h F S (.refl H))
theorem s_continue (h : P.ct ρ δ) : S1 X H0 ρ δ (.Continue pos) P := fun σ H F S Dn o => S_of ps_continue (o.ct _ _ _ _ h F S (.refl H))
theorem s_pass (h : P.nx ρ δ) : S1 X H0 ρ δ (.Pass pos) P := fun σ H F S Dn o => S_of ps_pass (o.nx _ _ _ _ h F S (.refl H))
theorem s_never (h : False) : S1 X H0 ρ δ st P := h.elim
/-- a, b = x, y -/
theorem s_par (i j : Nat) {x y : Str} {a b : Expr} {px py pt pt2 : Pos} {kt k2 : Nat} (h : WI X H0 ρ δ [a, b] fun ds => ∃ d e, ds = [d, e] ∧ P.nx ρ ((δ.set i (some d)).set j (some e))) (hc : X.calm = true) (hN : X.N.Nodup) (hi : X.N[i]? = some x := by rfl) (hj : X.N[j]? = some y := by rfl) (hij : i ≠ j := by decide)
    (hx : X.env.scope.names.lookup x = some .local := by rfl) (hy : X.env.scope.names.lookup y = some .local := by rfl)
    (hw : swappedStores [.Tuple [.Name x px, .Name y py] kt pt] (.Tuple [a, b] k2 pt2) X.env = pure (some [x, y]) := by rfl)
    (hs : swapsWithSole [.Tuple [.Name x px, .Name y py] kt pt] (.Tuple [a, b] k2 pt2) pos.line X.env = pure false := by rfl) :
    S1 X H0 ρ δ (.Assign [.Tuple [.Name x px, .Name y py] kt pt] (.Tuple [a, b] k2 pt2) pos) P :=
  fun σ H F S Dn o => S_of (ps_par hc hN hi hj hij hx hy pa_A hw hs) (h σ H F S _ fun vs H1 ds ⟨d, e, eds, r⟩ e1 iv => by
    subst eds
    obtain ⟨v, r1, rfl, i1, w, r2, rfl, i2, rfl⟩ := iv
    exact ⟨v, w, rfl, o.nx _ _ _ _ r (F.step e1) (((S.step e1).set i1).set i2) e1.tk⟩)
/-! ### targets -/
theorem tg_name (i : Nat) {x : Str} {d : D} {R : Del → Prop} (r : R (δ.set i (some d))) (hN : X.N.Nodup) (hi : X.N[i]? = some x := by rfl) (hx : Loc X.env.scope x := by first | exact Or.inl rfl | exact Or.inr rfl)
    (hf : X.fn x = true ∨ X.env.scope.names.lookup x = some .local := by first | exact .inl rfl | exact .inr rfl) : TGd X H0 (.Name x pos) d δ R :=
  fun σ H v S iv Q q => G_of (pg_name hN hi hx hf) (q _ _ r (S.set iv))
theorem tgs_nil {R : Del → Prop} (r : R δ) : TGds X H0 [] [] δ R := fun σ H vs S iv Q q => Gs_of pgs_nil ⟨iv, q σ δ r S⟩
theorem tgs_cons {t : Expr} {ts : List Expr} {d : D} {ds : List D} {R : Del → Prop} (h : TGd X H0 t d δ fun δ' => TGds X H0 ts ds δ' R)
    (hs : (assignEach (t :: ts) X.env).map (·.2) = assign t X.env :: (assignEach ts X.env).map (·.2) := by rfl) : TGds X H0 (t :: ts) (d :: ds) δ R :=
  fun σ H vs S iv Q q => by
    obtain ⟨v, r, rfl, i1, i2⟩ := iv
    exact Gs_of (pgs_cons pg_G pgs_G hs) ⟨v, r, rfl, h σ H v S i1 _ fun σ' δ' h' S' => h' σ' H r S' i2 Q q⟩
theorem tg_tup {ts : List Expr} {ds : List D} {n k : Nat} {R : Del → Prop} (h : TGds X H0 ts ds δ R) (hl : ds.length = n) (hc : X.calm = true)
    (hn : (assignEach ts X.env).length = n := by rfl) (hst : (assignEach ts X.env).findIdx? (·.1) = none := by rfl) : TGd X H0 (.Tuple ts k pos) (.tup ds) δ R :=
  fun σ H v S iv Q q => by
    obtain ⟨a, vs, rfl, sq, iv⟩ := iv
    exact G_of (pg_tup hc pgs_G hn hst) ⟨a, vs, rfl, sq, by rw [iv.len]; exact hl, h σ H vs S iv Q q⟩
theorem s_asg {tg : Expr} (h : W X H0 ρ δ e fun d => TGd X H0 tg d δ fun δ' => P.nx ρ δ') (hs : swapsWithSole [tg] e pos.line X.env = pure false := by rfl) (hw : swappedStores [tg] e X.env = pure none := by rfl)
    (h1 : (assignEach [tg] X.env).map (·.2) = [assign tg X.env] := by rfl) : S1 X H0 ρ δ (.Assign [tg] e pos) P :=
  fun σ H F S Dn o => S_of (ps_asg pe_E pg_G hs hw h1) (h σ H F S _ fun v H1 d r e1 iv => r σ H1 v (S.step e1) iv _ fun σ' δ' r' S' => o.nx _ _ _ _ r' (F.step e1) S' e1.tk)
end
end LP
set_option maxRecDepth 100000
/-! Fw4: while, what is walked, for, list comprehensions, a def by its body. -/
namespace LP
open PySem PySem.Spec PyProof.Rows L2

/-! ### while -/
section
variable {X : Cx} {H0 : Hp} {ρ : Rho} {δ : Del} {e c : Expr} {st : Stmt} {rest sts body : List Stmt} {pos pos' : Pos} {P : Post}
theorem s_while (Iv : Nat → Rho → Del → Prop) (m0 : Nat) (h0 : Iv m0 ρ δ)
    (step : ∀ m ρ' δ', Iv m ρ' δ' → WT X H0 ρ' δ' c fun k => cond k (BS X H0 ρ' δ' body { P with nx := fun ρ2 δ2 => ∃ m', m' < m ∧ Iv m' ρ2 δ2, ct := fun ρ2 δ2 => ∃ m', m' < m ∧ Iv m' ρ2 δ2, bk := P.nx }) (P.nx ρ' δ'))
    (hp : PassesOwn (model X.prog X.w) X.A X.env X.xe) : S1 X H0 ρ δ (.While c body [] pos) P :=
  fun σ H F S Dn o => S_of (ps_while hp pt_T pss_B) (by
    refine ⟨fun m σ' H' => ∃ ρ' δ', Fr X.K H0 H' ρ' ∧ Sl X.K H0 H' σ' δ' ∧ TK H H' ∧ Iv m ρ' δ', ⟨m0, ρ, δ, F, S, .refl H, h0⟩, ?_⟩
    rintro m σ1 H1 ⟨ρ1, δ1, F1, S1', k1, iv⟩
    refine step m ρ1 δ1 iv σ1 H1 F1 S1' _ fun b H2 r e2 => ?_
    have F2 := F1.step e2
    have S2 := S1'.step e2
    have k2 := k1.trans e2.tk
    cases b with
    | false => exact iteF (o.nx _ _ _ _ r F2 S2 k2)
    | true =>
      refine iteT ⟨fun σ' H' => ∃ m', m' < m ∧ ∃ ρ' δ', Fr X.K H0 H' ρ' ∧ Sl X.K H0 H' σ' δ' ∧ TK H H' ∧ Iv m' ρ' δ', fun σ' H' h => h, ?_⟩
      refine r σ1 H2 F2 S2 _ ⟨?_, o.rt, ?_, ?_⟩
      · rintro ρ' δ' σ' H' ⟨m', hm, h⟩ F' S' k'
        exact ⟨m', hm, ρ', δ', F', S', k2.trans k', h⟩
      · exact fun ρ' δ' σ' H' h F' S' k' => o.nx _ _ _ _ h F' S' (k2.trans k')
      · rintro ρ' δ' σ' H' ⟨m', hm, h⟩ F' S' k'
        exact ⟨m', hm, ρ', δ', F', S', k2.trans k', h⟩)
end

/-! ### what is walked -/
def tI (X : Cx) (tg iter : Expr) : TI := fun σ H R => ∀ (pins : List (Addr × Obj)) (s : Shared), Inv X pins σ H s →
  wpAny (model X.prog X.w) X.A (eval iter X.env) (fun v s1 => wpAny (model X.prog X.w) X.A (pyIter v) (PIE X pins σ tg R) X.xe s1) X.xe s
structure Wlk (J : It) (K : PySem.W.Frag) (H0 : Hp) (G : Hp → Prop) (ds : List D) : Prop where
  go : ∀ i H, G H → i < ds.length → J.go i H
  yld : ∀ i H x H', G H → J.yld i H x H' → ∀ d, ds[i]? = some d → Ex H H' ∧ IsV K H0 H' x d
  stop : ∀ H, G H → J.stop ds.length H
def WIt (X : Cx) (H0 : Hp) (ρ : Rho) (δ : Del) (tg iter : Expr) (R : Rho → List D → (Rho → Prop) → Prop) : Prop :=
  ∀ σ H, Fr X.K H0 H ρ → Sl X.K H0 H σ δ → ∀ Q : It → Hp → Prop,
    (∀ J H' ρ' ds cl G, R ρ' ds cl → Fr X.K H0 H' ρ' → Ex H H' → Wlk J X.K H0 G ds → G H' → cl ρ' → (∀ Ha Hb ρb, G Ha → TK Ha Hb → Fr X.K H0 Hb ρb → cl ρb → G Hb) → Q J H') → tI X tg iter σ H Q
section
variable {X : Cx} {H0 : Hp} {ρ : Rho} {δ : Del} {e tg iter : Expr} {body : List Stmt} {pos p : Pos} {P : Post}
theorem pi_I : PI X tg iter (tI X tg iter) := ⟨fun pins s _ _ _ I h => h pins s I⟩
theorem I_of {wi : TI} {σ : L2.St} {H : Hp} {R : It → Hp → Prop} (h : PI X tg iter wi) (q : wi σ H R) : tI X tg iter σ H R := fun pins s I => h.run pins s σ H R I q

theorem it_tup {R : Rho → List D → (Rho → Prop) → Prop} (h : W X H0 ρ δ iter fun d => ∃ ds, d = .tup ds ∧ R ρ ds fun _ => True) : WIt X H0 ρ δ tg iter R :=
  fun σ H F S Q q => I_of (pi_tup pe_E) (h σ H F S _ fun v H1 d ⟨ds, ed, r⟩ e1 iv => by
    subst ed
    obtain ⟨a, vs, rfl, sq, iv⟩ := iv
    refine ⟨a, rfl, ⟨vs, sq⟩, q _ H1 ρ ds _ (fun H => SqT X.K H a vs ∧ IsVs X.K H0 H vs ds) r (F.step e1) e1 ⟨?_, ?_, ?_⟩ ⟨sq, iv⟩ trivial ?_⟩
    · rintro i H ⟨s, iv⟩ hi
      obtain ⟨x, hx, _⟩ := iv.get (List.getElem?_eq_getElem hi)
      exact ⟨vs, x, s, hx⟩
    · rintro i H x H' ⟨s, iv⟩ ⟨rfl, y⟩ d hd
      obtain ⟨x', hx, ix⟩ := iv.get hd
      have := y vs s
      rw [hx] at this
      cases this
      exact ⟨.refl _, ix⟩
    · rintro H ⟨s, iv⟩
      exact ⟨vs, s, Nat.le_of_eq iv.len⟩
    · rintro Ha Hb ρb ⟨s, iv⟩ t _ _
      exact ⟨t.seq s, iv.mono (.refl _) t⟩)
/-- over lists: G tells the list -/
theorem wlk_list {K : PySem.W.Frag} {a : Addr} {ds : List D} : Wlk (Itl K a) K H0 (fun H => ∃ vs, SqL K H a vs ∧ IsVs K H0 H vs ds) ds := by
  refine ⟨?_, ?_, ?_⟩
  · rintro i H ⟨vs, s, iv⟩ hi
    obtain ⟨x, hx, _⟩ := iv.get (List.getElem?_eq_getElem hi)
    exact ⟨vs, x, s, hx⟩
  · rintro i H x H' ⟨vs, s, iv⟩ ⟨rfl, y⟩ d hd
    obtain ⟨x', hx, ix⟩ := iv.get hd
    have := y vs s
    rw [hx] at this
    cases this
    exact ⟨.refl _, ix⟩
  · rintro H ⟨vs, s, iv⟩
    exact ⟨vs, s, Nat.le_of_eq iv.len⟩
theorem Wlk.sub {J : It} {K : PySem.W.Frag} {G G' : Hp → Prop} {ds : List D} (w : Wlk J K H0 G ds) (h : ∀ H, G' H → G H) : Wlk J K H0 G' ds :=
  ⟨fun i H g => w.go i H (h H g), fun i H x H' g => w.yld i H x H' (h H g), fun H g => w.stop H (h H g)⟩
theorem it_old {R : Rho → List D → (Rho → Prop) → Prop} (h : W X H0 ρ δ iter fun d => ∃ ds, (d = .lst ds ∨ d = .ro ds) ∧ R ρ ds fun _ => True) : WIt X H0 ρ δ tg iter R :=
  fun σ H F S Q q => I_of (pi_list pe_E) (h σ H F S _ fun v H1 d ⟨ds, ed, r⟩ e1 iv => by
    have iv' : IsV X.K H0 H1 v (.ro ds) := by
      rcases ed with rfl | rfl
      · obtain ⟨a, vs, rfl, sq, iv⟩ := iv
        exact ⟨a, vs, rfl, .of sq, iv⟩
      · exact iv
    obtain ⟨a, vs, rfl, sq, iv2⟩ := iv'
    refine ⟨a, rfl, ⟨vs, (F.step e1).ex.seq sq⟩, q _ H1 ρ ds _ (fun H => SqL X.K H a vs ∧ IsVs X.K H0 H vs ds) r (F.step e1) e1 (wlk_list.sub fun H g => ⟨vs, g⟩) ⟨(F.step e1).ex.seq sq, iv2⟩ trivial ?_⟩
    rintro Ha Hb ρb ⟨s, iu⟩ t Fb _
    exact ⟨Fb.ex.seq sq, iu.mono (.refl _) t⟩)
theorem keep_own {K : PySem.W.Frag} {a : Addr} {ds : List D} : ∀ Ha Hb ρb, (fun H => ∃ vs, SqL K H a vs ∧ IsVs K H0 H vs ds) Ha → TK Ha Hb → Fr K H0 Hb ρb → (fun ρ : Rho => ρ a = some (.L ds)) ρb → (fun H => ∃ vs, SqL K H a vs ∧ IsVs K H0 H vs ds) Hb := by
  rintro Ha Hb ρb _ _ Fb c
  obtain ⟨vs, h1, h2⟩ := (Fb.own a _ c).2
  exact ⟨vs, .of h1, h2⟩
theorem it_own {R : Rho → List D → (Rho → Prop) → Prop} (h : W X H0 ρ δ iter fun d => ∃ a ds, d = .obj a ∧ ρ a = some (.L ds) ∧ R ρ ds fun ρ' => ρ' a = some (.L ds)) : WIt X H0 ρ δ tg iter R :=
  fun σ H F S Q q => I_of (pi_list pe_E) (h σ H F S _ fun v H1 d ⟨a, ds, ed, ha, r⟩ e1 iv => by
    subst ed
    cases iv
    obtain ⟨vs, h1, h2⟩ := ((F.step e1).own a _ ha).2
    exact ⟨a, rfl, ⟨vs, .of h1⟩, q _ H1 ρ ds _ _ r (F.step e1) e1 wlk_list ⟨vs, .of h1, h2⟩ ha keep_own⟩)
/-- over a new list -/
theorem it_new {R : Rho → List D → (Rho → Prop) → Prop} (h : WL X H0 ρ δ iter fun ds => ∀ a, ρ a = none → R (put ρ a (.L ds)) ds fun ρ' => ρ' a = some (.L ds)) : WIt X H0 ρ δ tg iter R :=
  fun σ H F S Q q => I_of (pi_list pe_E) (h σ H F S _ fun a H1 ds r hn e1 oa => by
    obtain ⟨vs, h1, h2⟩ := id oa
    exact ⟨a, rfl, ⟨vs, .of h1⟩, q _ H1 (put ρ a (.L ds)) ds _ _ (r a (F.free hn)) ((F.step e1).new (F.ex.free hn) oa) e1 wlk_list ⟨vs, .of h1, h2⟩ put_same keep_own⟩)
/-- the numbers lo, lo + c, .. (n of them) -/
def nums (lo c : Int) : Nat → List D
  | 0 => []
  | n + 1 => .int lo :: nums (lo + c) c n
theorem nums_len (lo c : Int) : ∀ n, (nums lo c n).length = n := fun n => by
  induction n generalizing lo with
  | zero => rfl
  | succ n ih => rw [nums, List.length_cons, ih]
theorem nums_get (c : Int) : ∀ (n i : Nat) (lo : Int), i < n → (nums lo c n)[i]? = some (.int (lo + i * c))
  | n + 1, 0, lo, _ => by simp [nums]
  | n + 1, i + 1, lo, h => by
    rw [nums, List.getElem?_cons_succ, nums_get c n i (lo + c) (by omega)]
    have e : lo + c + (i : Int) * c = lo + ((i + 1 : Nat) : Int) * c := by
      rw [Int.natCast_add, Int.add_mul, Int.add_assoc, Int.add_comm c]
      simp
    rw [e]
theorem it_range1 {R : Rho → List D → (Rho → Prop) → Prop} (h : W X H0 ρ δ e fun d => ∃ n : Nat, d = .int (n : Int) ∧ (n : Int) < 2 ^ 62 ∧ R ρ (nums 0 1 n) fun _ => True) (hm : X.mg "range" = none) (hg : Gl X "range" := by rfl)
    (hs : starEach [e] X.env = (false, eval e X.env) :: starEach [] X.env := by rfl) : WIt X H0 ρ δ tg (.Call (.Name "range" p) [e] [] pos) R :=
  fun σ H F S Q q => I_of (pi_range1 hg hm (pa_cons pe_E pa_nil hs) hs) (h σ H F S _ fun v H1 d ⟨n, ed, hb, r⟩ e1 iv => by
    subst ed
    cases iv
    refine ⟨(n : Int), rfl, by omega, hb, q _ H1 ρ _ _ (fun _ => True) r (F.step e1) e1 ⟨?_, ?_, ?_⟩ trivial trivial fun _ _ _ _ _ _ _ => trivial⟩
    · intro i H _ hi
      rw [nums_len] at hi
      show i < (n : Int).toNat
      omega
    · rintro i H x H' _ ⟨rfl, rfl⟩ d hd
      have hi : i < n := by
        have := (List.getElem?_eq_some_iff.mp hd).1
        rw [nums_len] at this
        exact this
      rw [nums_get _ _ _ _ hi] at hd
      cases hd
      exact ⟨.refl _, by show V.int _ = V.int _; simp⟩
    · intro H _
      show (n : Int).toNat ≤ (nums 0 1 n).length
      rw [nums_len]
      omega)
theorem it_range3 {a b : Expr} {R : Rho → List D → (Rho → Prop) → Prop} (h : WI X H0 ρ δ [e, a, b] fun ds => ∃ (lo hi c : Int) (n : Nat), ds = [.int lo, .int hi, .int c] ∧ RgC lo hi c n ∧ R ρ (nums lo c n) fun _ => True) (hm : X.mg "range" = none) (hg : Gl X "range" := by rfl)
    (hs : starEach [e, a, b] X.env = (false, eval e X.env) :: starEach [a, b] X.env := by rfl) (hpl : (backTo pos (starEach [a, b] X.env)).any (·.1) = false := by rfl) : WIt X H0 ρ δ tg (.Call (.Name "range" p) [e, a, b] [] pos) R :=
  fun σ H F S Q q => I_of (pi_range3 hg hm pa_A hs hpl) (h σ H F S _ fun vs H1 ds ⟨lo, hi, c, n, ed, hb, r⟩ e1 iv => by
    subst ed
    obtain ⟨_, _, rfl, rfl, _, _, rfl, rfl, _, _, rfl, rfl, rfl⟩ := iv
    refine ⟨lo, hi, c, n, rfl, hb, q _ H1 ρ _ _ (fun _ => True) r (F.step e1) e1 ⟨?_, ?_, ?_⟩ trivial trivial fun _ _ _ _ _ _ _ => trivial⟩
    · intro i H _ hi
      rw [nums_len] at hi
      exact hi
    · rintro i H x H' _ ⟨rfl, rfl⟩ d hd
      have hi : i < n := by
        have := (List.getElem?_eq_some_iff.mp hd).1
        rw [nums_len] at this
        exact this
      rw [nums_get _ _ _ _ hi] at hd
      cases hd
      exact ⟨.refl _, rfl⟩
    · intro H _
      show n ≤ (nums lo c n).length
      rw [nums_len]
      exact Nat.le_refl _)
theorem it_rev {R : Rho → List D → (Rho → Prop) → Prop} (h : W X H0 ρ δ e fun d => ∃ a ds, d = .obj a ∧ ρ a = some (.L ds) ∧ R ρ ds.reverse fun ρ' => ρ' a = some (.L ds)) (hm : X.mg "reversed" = none) (hg : Gl X "reversed" := by rfl)
    (hs : starEach [e] X.env = (false, eval e X.env) :: starEach [] X.env := by rfl) : WIt X H0 ρ δ tg (.Call (.Name "reversed" p) [e] [] pos) R :=
  fun σ H F S Q q => I_of (pi_reversed hg hm (pa_cons pe_E pa_nil hs) hs) (h σ H F S _ fun v H1 d ⟨a, ds, ed, ha, r⟩ e1 iv => by
    subst ed
    cases iv
    obtain ⟨vs, h1, h2⟩ := ((F.step e1).own a _ ha).2
    have hl : vs.length = ds.length := h2.len
    refine ⟨a, vs, rfl, .of h1, q _ H1 ρ _ _ (fun H => ∃ vs, SqL X.K H a vs ∧ IsVs X.K H0 H vs ds) r (F.step e1) e1 ?_ ⟨vs, .of h1, h2⟩ ha keep_own⟩
    rw [hl]
    have at_ : ∀ {H : Hp} {i : Nat} {us : List V}, IsVs X.K H0 H us ds → i < ds.length → ∃ x, us[ds.length - 1 - i]? = some x ∧ ∀ d, ds.reverse[i]? = some d → IsV X.K H0 H x d := by
      intro H i us iu hi
      have e : ds.reverse[i]? = ds[ds.length - 1 - i]? := List.getElem?_reverse hi
      obtain ⟨x, hx, ix⟩ := iu.get (List.getElem?_eq_getElem (show ds.length - 1 - i < ds.length by omega))
      refine ⟨x, hx, fun d hd => ?_⟩
      rw [e, List.getElem?_eq_getElem (show ds.length - 1 - i < ds.length by omega)] at hd
      cases hd
      exact ix
    refine ⟨?_, ?_, ?_⟩
    · rintro i H ⟨us, s, iu⟩ hi
      rw [List.length_reverse] at hi
      obtain ⟨x, hx, _⟩ := at_ iu hi
      exact ⟨hi, us, x, s, hx⟩
    · rintro i H x H' ⟨us, s, iu⟩ ⟨rfl, y⟩ d hd
      have hi : i < ds.length := by
        have := (List.getElem?_eq_some_iff.mp hd).1
        rw [List.length_reverse] at this
        exact this
      obtain ⟨x', hx, ix⟩ := at_ iu hi
      have := y us s
      rw [hx] at this
      cases this
      exact ⟨.refl _, ix d hd⟩
    · rintro H _
      show ds.length ≤ ds.reverse.length
      rw [List.length_reverse]
      exact Nat.le_refl _)

/-! ### for -/
def forD (X : Cx) (H0 : Hp) (tg : Expr) (body : List Stmt) (P : Post) (cl : Rho → Prop) : List D → Rho → Del → Prop
  | [], ρ, δ => P.nx ρ δ
  | x :: xs, ρ, δ => TGd X H0 tg x δ fun δ1 => BS X H0 ρ δ1 body
      { P with nx := fun ρ2 δ2 => cl ρ2 ∧ forD X H0 tg body P cl xs ρ2 δ2, ct := fun ρ2 δ2 => cl ρ2 ∧ forD X H0 tg body P cl xs ρ2 δ2, bk := P.nx }
theorem s_for (h : WIt X H0 ρ δ tg iter fun ρ' ds cl => forD X H0 tg body P cl ds ρ' δ) (hc : X.calm = true) (hp : PassesOwn (model X.prog X.w) X.A X.env X.xe)
    (hs : ∀ x, foldedSetIterable iter X.env x = pure x := by intro _; rfl) : S1 X H0 ρ δ (.For tg iter body [] pos) P :=
  fun σ H F S Dn o => S_of (ps_for hp hc pi_I pg_G pss_B hs) (h σ H F S _ fun J H1 ρ1 ds cl G r F1 e1 w g c keep => by
    refine ⟨fun i m σ' H' => m = ds.length - i ∧ i ≤ ds.length ∧ ∃ ρ' δ', Fr X.K H0 H' ρ' ∧ Sl X.K H0 H' σ' δ' ∧ G H' ∧ cl ρ' ∧ TK H H' ∧ forD X H0 tg body P cl (ds.drop i) ρ' δ',
      ⟨ds.length, by simp, Nat.zero_le _, ρ1, δ, F1, S.step e1, g, c, e1.tk, by simpa using r⟩, ?_⟩
    rintro i m σ2 H2 ⟨rfl, hi, ρ2, δ2, F2, S2, g2, c2, t2, r2⟩
    by_cases hlt : i < ds.length
    · refine .inr ⟨w.go i H2 g2 hlt, fun σ' H' => i + 1 ≤ ds.length ∧ ∃ ρ' δ', Fr X.K H0 H' ρ' ∧ Sl X.K H0 H' σ' δ' ∧ G H' ∧ cl ρ' ∧ TK H H' ∧ forD X H0 tg body P cl (ds.drop (i + 1)) ρ' δ',
        fun σ' H' ⟨hi', hr⟩ => ⟨ds.length - (i + 1), by omega, rfl, hi', hr⟩, fun x H3 y => ?_⟩
      have hd := List.getElem?_eq_getElem hlt
      obtain ⟨e3, ix⟩ := w.yld i H2 x H3 g2 y _ hd
      have F3 := F2.step e3
      have g3 := keep H2 H3 ρ2 g2 e3.tk F3 c2
      rw [List.drop_eq_getElem_cons hlt] at r2
      refine r2 σ2 H3 x (S2.step e3) ix _ fun σ3 δ3 b S3 => ?_
      have t3 := t2.trans e3.tk
      refine b σ3 H3 F3 S3 _ ⟨?_, o.rt, ?_, ?_⟩
      · rintro ρ' δ' σ' H' ⟨c', r'⟩ F' S' k'
        exact ⟨hlt, ρ', δ', F', S', keep H3 H' ρ' g3 k' F' c', c', t3.trans k', r'⟩
      · exact fun ρ' δ' σ' H' h F' S' k' => o.nx _ _ _ _ h F' S' (t3.trans k')
      · rintro ρ' δ' σ' H' ⟨c', r'⟩ F' S' k'
        exact ⟨hlt, ρ', δ', F', S', keep H3 H' ρ' g3 k' F' c', c', t3.trans k', r'⟩
    · have e : i = ds.length := by omega
      subst e
      refine .inl ⟨w.stop H2 g2, ?_⟩
      rw [List.drop_length] at r2
      exact o.nx _ _ _ _ r2 F2 S2 t2)
end

/-! ### list comprehensions -/
def wipeD (δ : Del) : List Nat → Del
  | [] => δ
  | v :: vs => (wipeD δ vs).set v none
theorem wipe_get {α : Type} (w : List (Option α) → List Nat → List (Option α)) (h0 : ∀ l, w l [] = l) (h1 : ∀ l v vs, w l (v :: vs) = (w l vs).set v none) (l : List (Option α)) :
    ∀ (vs : List Nat) (j : Nat), (w l vs)[j]? = if j ∈ vs then l[j]?.map (fun _ => none) else l[j]?
  | [], j => by rw [h0]; simp
  | v :: vs, j => by
    rw [h1, List.getElem?_set, wipe_get w h0 h1 l vs]
    have hl : (w l vs).length = l.length := by
      have : ∀ vs, (w l vs).length = l.length := fun vs => by
        induction vs with
        | nil => rw [h0]
        | cons a r ih => rw [h1, List.length_set, ih]
      exact this vs
    by_cases e : v = j
    · subst e
      simp only [List.mem_cons, true_or, if_true]
      by_cases hv : v < (w l vs).length
      · rw [if_pos hv]
        rw [hl] at hv
        simp [List.getElem?_eq_getElem hv]
      · rw [if_neg hv]
        rw [hl] at hv
        simp [List.getElem?_eq_none (Nat.le_of_not_lt hv)]
    · rw [if_neg e]
      have : (j ∈ v :: vs) ↔ j ∈ vs := by simp [Ne.symm e]
      simp only [this]
theorem wipeS_get (σ : L2.St) (vs : List Nat) (j : Nat) : (wipe σ vs)[j]? = if j ∈ vs then σ[j]?.map (fun _ => none) else σ[j]? := wipe_get wipe (fun _ => rfl) (fun _ _ _ => rfl) σ vs j
theorem wipeD_get (δ : Del) (vs : List Nat) (j : Nat) : (wipeD δ vs)[j]? = if j ∈ vs then δ[j]?.map (fun _ => none) else δ[j]? := wipe_get wipeD (fun _ => rfl) (fun _ _ _ => rfl) δ vs j
/-- stores into the block's own names are wiped -/
theorem wipe_eq {σ τ : L2.St} {vs : List Nat} (h : ∀ j, j ∉ vs → τ[j]? = σ[j]?) (hl : τ.length = σ.length) : wipe τ vs = wipe σ vs := by
  apply List.ext_getElem?
  intro j
  rw [wipeS_get, wipeS_get]
  by_cases hj : j ∈ vs
  · rw [if_pos hj, if_pos hj]
    by_cases hs : j < σ.length
    · rw [List.getElem?_eq_getElem hs, List.getElem?_eq_getElem (by rw [hl]; exact hs)]
      rfl
    · rw [List.getElem?_eq_none (by omega), List.getElem?_eq_none (by omega)]
  · rw [if_neg hj, if_neg hj]
    exact h j hj
theorem wipe_wipe (σ : L2.St) (vs : List Nat) : wipe (wipe σ vs) vs = wipe σ vs := wipe_eq (fun j hj => by rw [wipeS_get, if_neg hj]) (wipe_length _ _)
theorem wipe_set {σ : L2.St} {vs : List Nat} {i : Nat} {v : V} (h : i ∈ vs) : wipe ((wipe σ vs).set i (some v)) vs = wipe σ vs := by
  refine (wipe_eq (fun j hj => ?_) (by simp)).trans (wipe_wipe σ vs)
  exact List.getElem?_set_ne (show ¬ i = j from fun e => hj (by rw [← e]; exact h))
theorem wipe_set2 {σ : L2.St} {vs : List Nat} {i j : Nat} {v w : V} (h : i ∈ vs) (h' : j ∈ vs) : wipe (((wipe σ vs).set i (some v)).set j (some w)) vs = wipe σ vs := by
  refine (wipe_eq (fun k hk => ?_) (by simp)).trans (wipe_wipe σ vs)
  rw [List.getElem?_set_ne (show ¬ j = k from fun e => hk (by rw [← e]; exact h')), List.getElem?_set_ne (show ¬ i = k from fun e => hk (by rw [← e]; exact h))]
theorem Sl.wipe {K : PySem.W.Frag} {H0 H : Hp} {σ : L2.St} {δ : Del} (S : Sl K H0 H σ δ) (vs : List Nat) : Sl K H0 H (L2.wipe σ vs) (wipeD δ vs) := by
  refine ⟨?_, fun i d h => ?_⟩
  · have : ∀ vs, (wipeD δ vs).length = δ.length := fun vs => by
      induction vs with
      | nil => rfl
      | cons a r ih => rw [wipeD, List.length_set, ih]
    rw [wipe_length, this]
    exact S.len
  · rw [wipeD_get] at h
    by_cases hi : i ∈ vs
    · rw [if_pos hi] at h
      cases q : δ[i]? with
      | none => rw [q] at h; cases h
      | some o => rw [q] at h; cases h
    · rw [if_neg hi] at h
      obtain ⟨v, h1, h2⟩ := S.at_ i d h
      exact ⟨v, by rw [wipeS_get, if_neg hi]; exact h1, h2⟩
/-- a property of every context in which the comprehension's block may run -/
def Blk (X : Cx) (scope : Scope) (f : Cx → Prop) : Prop := ∀ (s : Shared) (H : Hp) (C : Addr) (cl : List (Str × Addr)) (fp : List Addr), f (X.blk s H scope (compEnvC scope cl C X.env) fp)
section
variable {X : Cx} {H0 : Hp} {ρ : Rho} {δ : Del} {elt tg iter : Expr} {ifs : List Expr} {scope : Scope} {own : List (Str × Nat)} {pos p : Pos}
theorem wl_core {g : TG} {tt : TT} (hg : Blk X scope fun Y => PG Y tg g) (ht : Blk X scope fun Y => PTs Y ifs tt) (δ2 : D → Del) {R : List D → Prop}
    (h : WIt X H0 ρ δ tg iter fun ρ' ds cl => ds.length ≤ sizeLine ∧ ∃ (f : D → D) (b : D → Bool), (∀ d ∈ ds,
      (∀ σ H v, Sl X.K H0 H σ δ → IsV X.K H0 H v d → ∀ Q : L2.St → Hp → Prop, (∀ σ2, Sl X.K H0 H σ2 (δ2 d) → wipe σ2 (own.map (·.2)) = wipe σ (own.map (·.2)) → Q σ2 H) → g v (wipe σ (own.map (·.2))) H Q) ∧
      (∀ σ H, Fr X.K H0 H ρ' → Sl X.K H0 H σ (δ2 d) → ∀ Q : Bool → Hp → Prop, (∀ H', Ex H H' → Q (b d) H') → tt σ H Q) ∧
      (b d = true → Blk X scope fun Y => W Y H0 ρ' (δ2 d) elt (· = f d))) ∧ R ((ds.filter b).map f))
    (hc : X.calm = true) (hN : X.N.Nodup) (ok : BlkOk X.N X.env.scope scope own) (hs : ∀ x, foldedSetIterable iter X.env x = pure x := by intro _; rfl) :
    WL X H0 ρ δ (.ListComp elt [⟨tg, iter, ifs, 0⟩] scope pos) R := by
  intro σ H F S Q q
  let te : TE := fun σ H Q => Blk X scope fun Y => tE Y elt σ H Q
  have he : Blk X scope fun Y => PE Y elt te := fun s H C cl fp => ⟨fun pins s' σ' H' Q' I h' => h' s H C cl fp pins s' I⟩
  refine E_of (pe_lc hc hN pi_I ok hg ht he hs) (h σ H F S _ fun J H1 ρ1 ds cl G r F1 e1 w g1 c keep => ?_)
  obtain ⟨hlen, f, b, each, r⟩ := r
  intro A hA
  refine ⟨fun i m H' => m = ds.length - i ∧ i ≤ ds.length ∧ Ex H1 H' ∧ ∃ acc, H' A = some (.lst acc) ∧ acc.length ≤ i ∧ IsVs X.K H0 H' acc (((ds.take i).filter b).map f),
    ⟨ds.length, by simp, Nat.zero_le _, .new hA, [], upd_same, Nat.le_refl _, by simp [IsVs]⟩, ?_⟩
  rintro i m H2 ⟨rfl, hi, e2, acc, ha, hal, iacc⟩
  have F2 := F1.step e2
  have g2 := keep H1 H2 ρ1 g1 e2.tk F2 c
  by_cases hlt : i < ds.length
  · refine .inr ⟨w.go i H2 g2 hlt, fun H' => Ex H1 H' ∧ ∃ acc, H' A = some (.lst acc) ∧ acc.length ≤ i + 1 ∧ IsVs X.K H0 H' acc (((ds.take (i + 1)).filter b).map f),
      fun H' hr => ⟨ds.length - (i + 1), by omega, rfl, hlt, hr⟩, fun x H3 y => ?_⟩
    have hd := List.getElem?_eq_getElem hlt
    obtain ⟨e3, ix⟩ := w.yld i H2 x H3 g2 y _ hd
    obtain ⟨h1, h2, h3⟩ := each _ (List.getElem_mem hlt)
    have F3 := F2.step e3
    have S3 := ((S.step e1).step e2).step e3
    have etake : ds.take (i + 1) = ds.take i ++ [ds[i]] := by rw [List.take_append_getElem hlt]
    refine h1 σ H3 x S3 ix _ fun σ4 S4 hw => ⟨hw, h2 σ4 H3 F3 S4 _ fun H4 e4 => ?_⟩
    have e24 := e3.trans e4
    cases hb : b ds[i] with
    | false =>
      refine iteF ⟨e2.trans e24, acc, e24.get ha (fun _ z => by cases z), by omega, ?_⟩
      rw [etake, List.filter_append, List.filter_cons, hb]
      simpa using iacc.mono (.refl _) e24.tk
    | true =>
      refine iteT fun s Hb C cl' fp => ?_
      refine h3 hb s Hb C cl' fp σ4 H4 (F3.step e4) (S4.step e4) _ fun v H5 d ed e5 iv => ?_
      subst ed
      have e25 := e24.trans e5
      have ha5 := e25.get ha (fun _ z => by cases z)
      refine ⟨acc, ha5, by omega, (e2.trans e25).mut hA, acc ++ [v], upd_same, by rw [List.length_append]; simp; omega, ?_⟩
      rw [etake, List.filter_append, List.filter_cons, hb, List.map_append]
      have tk : TK H5 (upd H5 A (.lst (acc ++ [v]))) := TK.mut (.refl _) (ntup_lst ha5)
      simpa using IsVs.append ((iacc.mono (.refl _) e25.tk).mono (.refl _) tk) (.one (iv.mono (.refl _) tk))
  · have e : i = ds.length := by omega
    subst e
    rw [List.take_length] at iacc
    refine .inl ⟨w.stop H2 g2, q A H2 _ r (e1.free hA) (e1.trans e2) ⟨acc, ha, iacc⟩⟩
theorem blk_W {e : Expr} {R : D → Prop} {δ' : Del} (h : Blk X scope fun Y => W Y H0 ρ δ' e R) : Blk X scope fun Y => W Y H0 ρ δ' e R := h
/-- [elt for x in iter] -/
theorem wl_lc1 (i : Nat) {x : Str} {px : Pos} {R : List D → Prop} (h : WIt X H0 ρ δ (.Name x px) iter fun ρ' ds cl => ds.length ≤ sizeLine ∧ ∃ f : D → D,
      (∀ d ∈ ds, Blk X scope fun Y => W Y H0 ρ' ((wipeD δ (own.map (·.2))).set i (some d)) elt (· = f d)) ∧ R (ds.map f))
    (hc : X.calm = true) (hN : X.N.Nodup) (ok : BlkOk X.N X.env.scope scope own) (hi : i ∈ own.map (·.2)) (hg : Blk X scope fun Y => PG Y (.Name x px) (gName i)) (hs : ∀ x, foldedSetIterable iter X.env x = pure x := by intro _; rfl) :
    WL X H0 ρ δ (.ListComp elt [⟨.Name x px, iter, [], 0⟩] scope pos) R :=
  wl_core (own := own) hg (fun _ _ _ _ _ => pts_nil) (fun d => (wipeD δ (own.map (·.2))).set i (some d)) (fun σ H F S Q q => h σ H F S Q fun J H' ρ' ds cl G r => q J H' ρ' ds cl G (by
    obtain ⟨hl, f, each, r⟩ := r
    refine ⟨hl, f, fun _ => true, fun d hd => ⟨fun σ H v S iv Q q => q _ ((S.wipe _).set iv) (wipe_set hi), fun σ H F S Q q => q H (.refl H), fun _ => each d hd⟩, ?_⟩
    rw [List.filter_eq_self.mpr fun _ _ => rfl]
    exact r)) hc hN ok hs
/-- [elt for x in iter if c] -/
theorem wl_lcIf1 (i : Nat) {x : Str} {px : Pos} {c : Expr} {R : List D → Prop} (h : WIt X H0 ρ δ (.Name x px) iter fun ρ' ds cl => ds.length ≤ sizeLine ∧ ∃ (f : D → D) (b : D → Bool),
      (∀ d ∈ ds, (Blk X scope fun Y => WT Y H0 ρ' ((wipeD δ (own.map (·.2))).set i (some d)) c (· = b d)) ∧ (b d = true → Blk X scope fun Y => W Y H0 ρ' ((wipeD δ (own.map (·.2))).set i (some d)) elt (· = f d))) ∧ R ((ds.filter b).map f))
    (hc : X.calm = true) (hN : X.N.Nodup) (ok : BlkOk X.N X.env.scope scope own) (hi : i ∈ own.map (·.2)) (hg : Blk X scope fun Y => PG Y (.Name x px) (gName i)) (hs : ∀ x, foldedSetIterable iter X.env x = pure x := by intro _; rfl) :
    WL X H0 ρ δ (.ListComp elt [⟨.Name x px, iter, [c], 0⟩] scope pos) R :=
  wl_core (own := own) (tt := fun σ H Q => Blk X scope fun Y => tT Y c σ H Q) hg (fun s H C cl fp => pts_one ⟨fun pins s' σ' H' Q' I h' => h' s H C cl fp pins s' I⟩) (fun d => (wipeD δ (own.map (·.2))).set i (some d)) (fun σ H F S Q q => h σ H F S Q fun J H' ρ' ds cl G r => q J H' ρ' ds cl G (by
    obtain ⟨hl, f, b, each, r⟩ := r
    exact ⟨hl, f, b, fun d hd => ⟨fun σ H v S iv Q q => q _ ((S.wipe _).set iv) (wipe_set hi), fun σ H F S Q q s Hb C cl fp => (each d hd).1 s Hb C cl fp σ H F S Q fun k H' ek e => by rw [ek]; exact q H' e, (each d hd).2⟩, r⟩)) hc hN ok hs
/-- [elt for x, y in iter] -/
theorem wl_lc2 (i j : Nat) {x y : Str} {px py pt : Pos} {k : Nat} {R : List D → Prop} (h : WIt X H0 ρ δ (.Tuple [.Name x px, .Name y py] k pt) iter fun ρ' ds cl => ds.length ≤ sizeLine ∧ ∃ f : D → D,
      (∀ d ∈ ds, ∃ d1 d2, d = .tup [d1, d2] ∧ Blk X scope fun Y => W Y H0 ρ' (((wipeD δ (own.map (·.2))).set i (some d1)).set j (some d2)) elt (· = f d)) ∧ R (ds.map f))
    (hc : X.calm = true) (hN : X.N.Nodup) (ok : BlkOk X.N X.env.scope scope own) (hi : i ∈ own.map (·.2)) (hj : j ∈ own.map (·.2))
    (hg : Blk X scope fun Y => PG Y (.Tuple [.Name x px, .Name y py] k pt) (gTup X.K 2 (gCons (gName i) (gCons (gName j) gNil)))) (hs : ∀ x, foldedSetIterable iter X.env x = pure x := by intro _; rfl) :
    WL X H0 ρ δ (.ListComp elt [⟨.Tuple [.Name x px, .Name y py] k pt, iter, [], 0⟩] scope pos) R :=
  wl_core (own := own) hg (fun _ _ _ _ _ => pts_nil) (fun d => match d with | .tup [d1, d2] => ((wipeD δ (own.map (·.2))).set i (some d1)).set j (some d2) | _ => []) (fun σ H F S Q q => h σ H F S Q fun J H' ρ' ds cl G r => q J H' ρ' ds cl G (by
    obtain ⟨hl, f, each, r⟩ := r
    refine ⟨hl, f, fun _ => true, fun d hd => ?_, ?_⟩
    · obtain ⟨d1, d2, rfl, e⟩ := each d hd
      refine ⟨fun σ H v S iv Q q => ?_, fun σ H F S Q q => q H (.refl H), fun _ => e⟩
      obtain ⟨a, vs, rfl, sq, v1, r1, rfl, i1, v2, r2, rfl, i2, rfl⟩ := iv
      exact ⟨a, _, rfl, sq, rfl, v1, _, rfl, v2, _, rfl, rfl, q _ (((S.wipe _).set i1).set i2) (wipe_set2 hi hj)⟩
    · rw [List.filter_eq_self.mpr fun _ _ => rfl]
      exact r)) hc hN ok hs
end

/-! ### a def by its body -/
abbrev PD (R : D → Prop) : Post := { nx := fun _ _ => R .non, rt := fun r => ∃ d, r = .d d ∧ d.flat = true ∧ R d }
abbrev PL (R : List D → Prop) : Post := { nx := fun _ _ => False, rt := fun r => ∃ ds, r = .l ds ∧ D.flats ds = true ∧ R ds }
def startD (N : List Str) (ds : List D) : Del := ds.map some ++ List.replicate (N.length - ds.length) none
theorem sl_start {K : PySem.W.Frag} {H : Hp} {N : List Str} {vs : List V} {ds : List D} (h : IsVs K H H vs ds) : Sl K H H (L2.start N vs) (startD N ds) := by
  have hl := h.len
  refine ⟨by unfold L2.start startD; simp [hl], fun i d e => ?_⟩
  unfold startD at e
  have hi : i < ds.length := by
    by_cases hi : i < ds.length
    · exact hi
    · rw [List.getElem?_append_right (by simpa using hi), List.getElem?_replicate] at e
      split at e <;> cases e
  rw [List.getElem?_append_left (by simpa using hi), List.getElem?_map] at e
  obtain ⟨d', hd, e'⟩ := Option.map_eq_some_iff.mp e
  cases e'
  obtain ⟨v, hv, iv⟩ := h.get hd
  refine ⟨v, ?_, iv⟩
  unfold L2.start
  rw [List.getElem?_append_left (by rw [List.length_map, hl]; exact hi), List.getElem?_map, hv]
  rfl
section
variable {P : Program} {w : World} {K : PySem.W.Frag} {mg : Str → Option Value} {base : Heap} {x qual : Str} {st : Stmt} {f : Addr} {fd : FuncData} {N ps : List Str} {k : Nat}
theorem okD {Wf : List D → (D → Prop) → Prop} (F : Fun K x qual st f fd) (S : FnScope N ps (defScope st)) (len : ∀ ds R, Wf ds R → ds.length = ps.length)
    (body : ∀ (cdv : Value) (A : Around) (outer : List Env) (s : Shared) (H : Hp) (E : XK), Room k (A.deeper (envOfC qual (defScope st) s.heap.objs.size f cdv)) → ∀ ds R, Wf ds R →
      BS (cxOf CX0 P w K mg base N qual (defScope st) f cdv A outer s H E).nox H noR (startD N ds) (defBody st) (PD R)) : FnOk P w K mg base CX0 (k + 1) f fd ps (spD K Wf) := by
  refine F.ok S (fun vs H Q E h => ?_) fun cdv A outer s H vs Q E hr h => ?_
  · obtain ⟨ds, R, wf, iv, _⟩ := h
    rw [iv.len]
    exact len ds R wf
  · obtain ⟨ds, R, wf, iv, q⟩ := h
    refine ⟨_, pss_B, body cdv A outer s H E hr ds R wf _ H ⟨.refl H, fun _ _ e => by cases e⟩ (sl_start iv) _ ⟨?_, ?_, ?_, ?_⟩⟩
    · exact fun ρ δ σ H' r F' S' t => q .non H' .non r rfl F'.ex rfl
    · rintro r v H' ρ ⟨d, rfl, fl, r⟩ F' iv'
      exact q v H' d r fl F'.ex (iv'.rebase _ fl)
    · exact fun _ _ _ _ z => z.elim
    · exact fun _ _ _ _ z => z.elim
theorem okL {Wf : List D → (List D → Prop) → Prop} (F : Fun K x qual st f fd) (S : FnScope N ps (defScope st)) (len : ∀ ds R, Wf ds R → ds.length = ps.length)
    (body : ∀ (cdv : Value) (A : Around) (outer : List Env) (s : Shared) (H : Hp) (E : XK), Room k (A.deeper (envOfC qual (defScope st) s.heap.objs.size f cdv)) → ∀ ds R, Wf ds R →
      BS (cxOf CX0 P w K mg base N qual (defScope st) f cdv A outer s H E).nox H noR (startD N ds) (defBody st) (PL R)) : FnOk P w K mg base CX0 (k + 1) f fd ps (spL K Wf) := by
  refine F.ok S (fun vs H Q E h => ?_) fun cdv A outer s H vs Q E hr h => ?_
  · obtain ⟨ds, R, wf, iv, _⟩ := h
    rw [iv.len]
    exact len ds R wf
  · obtain ⟨ds, R, wf, iv, q⟩ := h
    refine ⟨_, pss_B, body cdv A outer s H E hr ds R wf _ H ⟨.refl H, fun _ _ e => by cases e⟩ (sl_start iv) _ ⟨?_, ?_, ?_, ?_⟩⟩
    · exact fun ρ δ σ H' r F' S' t => r.elim
    · rintro r v H' ρ ⟨d, rfl, fl, r⟩ F' ⟨p, rfl, hn, us, h1, h2⟩
      exact q p H' d r fl hn F'.ex ⟨us, h1, h2.rebase _ fl⟩
    · exact fun _ _ _ _ z => z.elim
    · exact fun _ _ _ _ z => z.elim
end
end LP
/-! Siz: sizes in bits; numbers are Rat. -/
namespace LP
open L2
/-- n has at most k bits -/
def Bt (k n : Nat) : Prop := n < 2 ^ k
theorem Bt.mono {j k n : Nat} (h : Bt j n) (e : j ≤ k) : Bt k n := Nat.lt_of_lt_of_le h (Nat.pow_le_pow_right (by decide) e)
theorem Bt.le {k m n : Nat} (h : Bt k n) (e : m ≤ n) : Bt k m := Nat.lt_of_le_of_lt e h
theorem Bt.mul {j k a b : Nat} (h : Bt j a) (g : Bt k b) : Bt (j + k) (a * b) := by
  unfold Bt
  rw [Nat.pow_add]
  exact Nat.mul_lt_mul'' h g
theorem Bt.add {j k a b : Nat} (h : Bt j a) (g : Bt k b) : Bt (max j k + 1) (a + b) := by
  have h1 := h.mono (Nat.le_max_left j k)
  have h2 := g.mono (Nat.le_max_right j k)
  unfold Bt at *
  rw [Nat.pow_succ]
  omega
theorem Bt.one : Bt 1 1 := by unfold Bt; decide
theorem Bt.log {k n : Nat} (h : Bt k n) : n.log2 ≤ k := by
  by_cases h0 : n = 0
  · subst h0; simp
  · exact Nat.le_of_lt ((Nat.log2_lt h0).mpr h)
theorem Bt.wide {j k : Nat} {a b : Int} (h : Bt j a.natAbs) (g : Bt k b.natAbs) (e : j + k < 1000000) : CMulW a b := by
  have h1 := h.log
  have h2 := g.log
  unfold CMulW
  omega
theorem Bt.wdiv {k : Nat} {a b : Int} (g : Bt k b.natAbs) (h : 0 < b) (e : k < 9000) : CDivW a b := ⟨h, by have := g.log; omega⟩
theorem Bt.dvd {k m n : Nat} (h : Bt k n) (n0 : n ≠ 0) (e : m ∣ n) : Bt k m := h.le (Nat.le_of_dvd (Nat.pos_of_ne_zero n0) e)
/-- top and bottom of a number -/
structure Sz (n d : Nat) (q : Rat) : Prop where
  n : Bt n q.num.natAbs
  d : Bt d q.den
theorem Sz.mono {n d n' d' : Nat} {q : Rat} (h : Sz n d q) (e : n ≤ n') (f : d ≤ d') : Sz n' d' q := ⟨h.n.mono e, h.d.mono f⟩
theorem den_ne (q : Rat) : (q.den : Int) ≠ 0 := by have := q.den_nz; omega
theorem den_pos (q : Rat) : 0 < (q.den : Int) := by have := q.den_nz; omega
/-- a quotient in any form is at least as great as the reduced one -/
theorem sz_divInt {n d : Nat} {t b : Int} (h : Bt n t.natAbs) (g : Bt d b.natAbs) (hb : b ≠ 0) : Sz n d (Rat.divInt t b) := by
  have hg : Int.gcd b t ≠ 0 := fun z => hb (Int.gcd_eq_zero_iff.mp z).1
  refine ⟨h.le ?_, g.le ?_⟩
  · rw [Rat.num_divInt]
    refine Nat.le_trans (Int.natAbs_ediv_le_natAbs _ _) ?_
    rw [Int.natAbs_mul]
    have : b.sign.natAbs ≤ 1 := by
      rcases Int.lt_trichotomy b 0 with h | h | h
      · simp [Int.sign_eq_neg_one_of_neg h]
      · exact absurd h hb
      · simp [Int.sign_eq_one_of_pos h]
    calc b.sign.natAbs * t.natAbs ≤ 1 * t.natAbs := Nat.mul_le_mul_right _ this
      _ = t.natAbs := Nat.one_mul _
  · rw [Rat.den_divInt, if_neg hb]
    exact Nat.div_le_self _ _
theorem add_divInt (a b : Rat) : a + b = Rat.divInt (a.num * b.den + b.num * a.den) (a.den * b.den : Int) := by
  rw [Rat.add_def', ← Rat.divInt_ofNat]; simp
theorem sub_divInt (a b : Rat) : a - b = Rat.divInt (a.num * b.den - b.num * a.den) (a.den * b.den : Int) := by
  rw [Rat.sub_def', ← Rat.divInt_ofNat]; simp
theorem mul_divInt (a b : Rat) : a * b = Rat.divInt (a.num * b.num) (a.den * b.den : Int) := by
  rw [Rat.mul_def', ← Rat.divInt_ofNat]; simp
theorem div_divInt (a b : Rat) : a / b = Rat.divInt (a.num * b.den) (a.den * b.num) := by
  rw [Rat.div_def, Rat.inv_def]
  conv => lhs; lhs; rw [← Rat.num_divInt_den a]
  rw [Rat.divInt_mul_divInt]
theorem nAbs_add (a b : Int) : (a + b).natAbs ≤ a.natAbs + b.natAbs := Int.natAbs_add_le a b
section
variable {a b : Rat} {n d m e : Nat}
theorem Sz.mul (h : Sz n d a) (g : Sz m e b) : Sz (n + m) (d + e) (a * b) := by
  rw [mul_divInt]
  exact sz_divInt (by rw [Int.natAbs_mul]; exact h.n.mul g.n) (by rw [Int.natAbs_mul]; exact h.d.mul g.d) (Int.mul_ne_zero (den_ne a) (den_ne b))
theorem Sz.add (h : Sz n d a) (g : Sz m e b) : Sz (max (n + e) (m + d) + 1) (d + e) (a + b) := by
  rw [add_divInt]
  refine sz_divInt (Bt.le ?_ (nAbs_add _ _)) (by rw [Int.natAbs_mul]; exact h.d.mul g.d) (Int.mul_ne_zero (den_ne a) (den_ne b))
  rw [Int.natAbs_mul, Int.natAbs_mul]
  exact (h.n.mul g.d).add (g.n.mul h.d)
theorem Sz.neg (h : Sz n d a) : Sz n d (-a) := ⟨by rw [Rat.neg_num, Int.natAbs_neg]; exact h.n, by rw [Rat.neg_den]; exact h.d⟩
theorem Sz.sub (h : Sz n d a) (g : Sz m e b) : Sz (max (n + e) (m + d) + 1) (d + e) (a - b) := by
  rw [Rat.sub_eq_add_neg]
  exact h.add g.neg
theorem Sz.div (h : Sz n d a) (g : Sz m e b) (hb : b ≠ 0) : Sz (n + e) (d + m) (a / b) := by
  rw [div_divInt]
  refine sz_divInt (by rw [Int.natAbs_mul]; exact h.n.mul g.d) (by rw [Int.natAbs_mul]; exact h.d.mul g.n) (Int.mul_ne_zero (den_ne a) fun z => hb (Rat.num_eq_zero.mp z))
theorem Sz.zero : Sz 1 1 0 := ⟨by unfold Bt; decide, by unfold Bt; decide⟩
theorem Sz.one : Sz 1 1 1 := ⟨by unfold Bt; decide, by unfold Bt; decide⟩
end
/-- the reduced quotient as it is reckoned -/
theorem divInt_num {t b : Int} (hb : 0 < b) : (Rat.divInt t b).num = t / ((Nat.gcd t.natAbs b.natAbs : Nat) : Int) := by
  rw [Rat.num_divInt, Int.sign_eq_one_of_pos hb, Int.one_mul, Int.gcd_comm]; rfl
theorem divInt_den {t b : Int} (hb : 0 < b) : ((Rat.divInt t b).den : Int) = b / ((Nat.gcd t.natAbs b.natAbs : Nat) : Int) := by
  rw [Rat.den_divInt, if_neg (by omega), Int.gcd_comm]
  have : b = (b.natAbs : Int) := by omega
  rw [Int.natCast_ediv]
  conv => rhs; rw [this]
  rfl
theorem divInt_flip {t b : Int} : Rat.divInt t b = Rat.divInt (-t) (-b) := (Rat.neg_divInt_neg t b).symm
end LP
set_option maxRecDepth 100000
/-! Txt: where each def stands in the text, its names by slot. -/
namespace LP
open PySem PySem.Spec PyProof.Rows L2
def top (i : Nat) : Stmt := PySem.Challenge.pw_linpapers_k50_whole_a_point_or_a_proof.main.body.getD i (.Pass ⟨0, 0, 0, 0⟩)
abbrev s_FormulaError_init : Stmt := inClass (top 3) 0
abbrev s_common_divisor : Stmt := top 10
abbrev N_common_divisor : List Str := ["first", "second"]
abbrev P_common_divisor : List Str := ["first", "second"]
theorem sc_common_divisor : FnScope N_common_divisor P_common_divisor (defScope s_common_divisor) := ⟨rfl, rfl, rfl, by decide +kernel, rfl, by decide +kernel, by decide +kernel⟩
abbrev s_number : Stmt := top 11
abbrev N_number : List Str := ["top", "bottom", "divisor"]
abbrev P_number : List Str := ["top", "bottom"]
theorem sc_number : FnScope N_number P_number (defScope s_number) := ⟨rfl, rfl, rfl, by decide +kernel, rfl, by decide +kernel, by decide +kernel⟩
abbrev s_plus : Stmt := top 12
abbrev N_plus : List Str := ["first", "second"]
abbrev P_plus : List Str := ["first", "second"]
theorem sc_plus : FnScope N_plus P_plus (defScope s_plus) := ⟨rfl, rfl, rfl, by decide +kernel, rfl, by decide +kernel, by decide +kernel⟩
abbrev s_minus : Stmt := top 13
abbrev N_minus : List Str := ["first", "second"]
abbrev P_minus : List Str := ["first", "second"]
theorem sc_minus : FnScope N_minus P_minus (defScope s_minus) := ⟨rfl, rfl, rfl, by decide +kernel, rfl, by decide +kernel, by decide +kernel⟩
abbrev s_times : Stmt := top 14
abbrev N_times : List Str := ["first", "second"]
abbrev P_times : List Str := ["first", "second"]
theorem sc_times : FnScope N_times P_times (defScope s_times) := ⟨rfl, rfl, rfl, by decide +kernel, rfl, by decide +kernel, by decide +kernel⟩
abbrev s_over : Stmt := top 15
abbrev N_over : List Str := ["first", "second"]
abbrev P_over : List Str := ["first", "second"]
theorem sc_over : FnScope N_over P_over (defScope s_over) := ⟨rfl, rfl, rfl, by decide +kernel, rfl, by decide +kernel, by decide +kernel⟩
abbrev s_opposite : Stmt := top 16
abbrev N_opposite : List Str := ["value"]
abbrev P_opposite : List Str := ["value"]
theorem sc_opposite : FnScope N_opposite P_opposite (defScope s_opposite) := ⟨rfl, rfl, rfl, by decide +kernel, rfl, by decide +kernel, by decide +kernel⟩
abbrev s_compare : Stmt := top 17
abbrev N_compare : List Str := ["first", "second", "left", "right"]
abbrev P_compare : List Str := ["first", "second"]
theorem sc_compare : FnScope N_compare P_compare (defScope s_compare) := ⟨rfl, rfl, rfl, by decide +kernel, rfl, by decide +kernel, by decide +kernel⟩
abbrev s_is_below : Stmt := top 18
abbrev N_is_below : List Str := ["value", "upper", "upper_in", "order"]
abbrev P_is_below : List Str := ["value", "upper", "upper_in"]
theorem sc_is_below : FnScope N_is_below P_is_below (defScope s_is_below) := ⟨rfl, rfl, rfl, by decide +kernel, rfl, by decide +kernel, by decide +kernel⟩
abbrev s_is_above : Stmt := top 19
abbrev N_is_above : List Str := ["value", "lower", "lower_in", "order"]
abbrev P_is_above : List Str := ["value", "lower", "lower_in"]
theorem sc_is_above : FnScope N_is_above P_is_above (defScope s_is_above) := ⟨rfl, rfl, rfl, by decide +kernel, rfl, by decide +kernel, by decide +kernel⟩
abbrev s_simplest_above : Stmt := top 20
abbrev N_simplest_above : List Str := ["lower", "lower_in", "upper", "upper_in", "floors", "floor", "whole", "gap", "turned_top", "rest"]
abbrev P_simplest_above : List Str := ["lower", "lower_in", "upper", "upper_in"]
theorem sc_simplest_above : FnScope N_simplest_above P_simplest_above (defScope s_simplest_above) := ⟨rfl, rfl, rfl, by decide +kernel, rfl, by decide +kernel, by decide +kernel⟩
abbrev s_above_floors : Stmt := top 21
abbrev N_above_floors : List Str := ["floors", "value", "floor"]
abbrev P_above_floors : List Str := ["floors", "value"]
theorem sc_above_floors : FnScope N_above_floors P_above_floors (defScope s_above_floors) := ⟨rfl, rfl, rfl, by decide +kernel, rfl, by decide +kernel, by decide +kernel⟩
abbrev s_can_lie_between : Stmt := top 22
abbrev N_can_lie_between : List Str := ["lower", "lower_in", "upper", "upper_in", "order"]
abbrev P_can_lie_between : List Str := ["lower", "lower_in", "upper", "upper_in"]
theorem sc_can_lie_between : FnScope N_can_lie_between P_can_lie_between (defScope s_can_lie_between) := ⟨rfl, rfl, rfl, by decide +kernel, rfl, by decide +kernel, by decide +kernel⟩
abbrev s_simplest_between : Stmt := top 23
abbrev N_simplest_between : List Str := ["lower", "lower_in", "upper", "upper_in", "mirrored"]
abbrev P_simplest_between : List Str := ["lower", "lower_in", "upper", "upper_in"]
theorem sc_simplest_between : FnScope N_simplest_between P_simplest_between (defScope s_simplest_between) := ⟨rfl, rfl, rfl, by decide +kernel, rfl, by decide +kernel, by decide +kernel⟩
abbrev s_gathered : Stmt := top 25
abbrev N_gathered : List Str := ["pairs", "sums", "unknown", "value"]
abbrev P_gathered : List Str := ["pairs"]
theorem sc_gathered : FnScope N_gathered P_gathered (defScope s_gathered) := ⟨rfl, rfl, rfl, by decide +kernel, rfl, by decide +kernel, by decide +kernel⟩
abbrev s_multiplied : Stmt := top 26
abbrev N_multiplied : List Str := ["parts", "factor", "unknown", "value"]
abbrev P_multiplied : List Str := ["parts", "factor"]
theorem sc_multiplied : FnScope N_multiplied P_multiplied (defScope s_multiplied) := ⟨rfl, rfl, rfl, by decide +kernel, rfl, by decide +kernel, by decide +kernel⟩
abbrev s_factor_of : Stmt := top 27
abbrev N_factor_of : List Str := ["some_row", "parts", "sign", "bound", "size", "bottom", "_", "value", "top"]
abbrev P_factor_of : List Str := ["some_row"]
theorem sc_factor_of : FnScope N_factor_of P_factor_of (defScope s_factor_of) := ⟨rfl, rfl, rfl, by decide +kernel, rfl, by decide +kernel, by decide +kernel⟩
abbrev s_normal : Stmt := top 28
abbrev N_normal : List Str := ["some_row", "parts", "sign", "bound", "factor"]
abbrev P_normal : List Str := ["some_row"]
theorem sc_normal : FnScope N_normal P_normal (defScope s_normal) := ⟨rfl, rfl, rfl, by decide +kernel, rfl, by decide +kernel, by decide +kernel⟩
abbrev s_row : Stmt := top 29
abbrev N_row : List Str := ["pairs", "sign", "bound", "parts"]
abbrev P_row : List Str := ["pairs", "sign", "bound"]
theorem sc_row : FnScope N_row P_row (defScope s_row) := ⟨rfl, rfl, rfl, by decide +kernel, rfl, by decide +kernel, by decide +kernel⟩
abbrev s_unknowns : Stmt := top 30
abbrev N_unknowns : List Str := ["system", "parts", "sign", "bound", "unknown", "value"]
abbrev P_unknowns : List Str := ["system"]
theorem sc_unknowns : FnScope N_unknowns P_unknowns (defScope s_unknowns) := ⟨rfl, rfl, rfl, by decide +kernel, rfl, by decide +kernel, by decide +kernel⟩
abbrev s_sum_at : Stmt := top 31
abbrev N_sum_at : List Str := ["parts", "point", "values", "total", "unknown", "value"]
abbrev P_sum_at : List Str := ["parts", "point"]
theorem sc_sum_at : FnScope N_sum_at P_sum_at (defScope s_sum_at) := ⟨rfl, rfl, rfl, by decide +kernel, rfl, by decide +kernel, by decide +kernel⟩
abbrev s_holds : Stmt := top 32
abbrev N_holds : List Str := ["some_row", "point", "parts", "sign", "bound", "order"]
abbrev P_holds : List Str := ["some_row", "point"]
theorem sc_holds : FnScope N_holds P_holds (defScope s_holds) := ⟨rfl, rfl, rfl, by decide +kernel, rfl, by decide +kernel, by decide +kernel⟩
abbrev s_opposites : Stmt := top 33
abbrev N_opposites : List Str := ["some_row", "parts", "sign", "bound", "pairs"]
abbrev P_opposites : List Str := ["some_row"]
theorem sc_opposites : FnScope N_opposites P_opposites (defScope s_opposites) := ⟨rfl, rfl, rfl, by decide +kernel, rfl, by decide +kernel, by decide +kernel⟩
abbrev s_denied : Stmt := top 36
abbrev N_denied : List Str := ["formula", "kind", "rows", "other", "part"]
abbrev P_denied : List Str := ["formula"]
theorem sc_denied : FnScope N_denied P_denied (defScope s_denied) := ⟨rfl, rfl, rfl, by decide +kernel, rfl, by decide +kernel, by decide +kernel⟩
abbrev s_plain : Stmt := top 37
abbrev N_plain : List Str := ["formula", "kind", "part"]
abbrev P_plain : List Str := ["formula"]
theorem sc_plain : FnScope N_plain P_plain (defScope s_plain) := ⟨rfl, rfl, rfl, by decide +kernel, rfl, by decide +kernel, by decide +kernel⟩
abbrev s_is_multiplier : Stmt := top 39
abbrev N_is_multiplier : List Str := ["value", "sign"]
abbrev P_is_multiplier : List Str := ["value", "sign"]
theorem sc_is_multiplier : FnScope N_is_multiplier P_is_multiplier (defScope s_is_multiplier) := ⟨rfl, rfl, rfl, by decide +kernel, rfl, by decide +kernel, by decide +kernel⟩
abbrev s_is_paper : Stmt := top 40
abbrev N_is_paper : List Str := ["system", "paper", "before", "index", "multiplier"]
abbrev P_is_paper : List Str := ["system", "paper"]
theorem sc_is_paper : FnScope N_is_paper P_is_paper (defScope s_is_paper) := ⟨rfl, rfl, rfl, by decide +kernel, rfl, by decide +kernel, by decide +kernel⟩
abbrev s_sign_of : Stmt := top 41
abbrev N_sign_of : List Str := ["signs", "sign"]
abbrev P_sign_of : List Str := ["signs"]
theorem sc_sign_of : FnScope N_sign_of P_sign_of (defScope s_sign_of) := ⟨rfl, rfl, rfl, by decide +kernel, rfl, by decide +kernel, by decide +kernel⟩
abbrev s_sum_of : Stmt := top 42
abbrev N_sum_of : List Str := ["system", "paper", "pairs", "bound", "index", "multiplier", "parts", "_", "limit", "unknown", "value"]
abbrev P_sum_of : List Str := ["system", "paper"]
theorem sc_sum_of : FnScope N_sum_of P_sum_of (defScope s_sum_of) := ⟨rfl, rfl, rfl, by decide +kernel, rfl, by decide +kernel, by decide +kernel⟩
abbrev s_refutes : Stmt := top 43
abbrev N_refutes : List Str := ["system", "paper", "total"]
abbrev P_refutes : List Str := ["system", "paper"]
theorem sc_refutes : FnScope N_refutes P_refutes (defScope s_refutes) := ⟨rfl, rfl, rfl, by decide +kernel, rfl, by decide +kernel, by decide +kernel⟩
abbrev s_derived : Stmt := top 45
abbrev N_derived : List Str := ["system", "k"]
abbrev P_derived : List Str := ["system"]
theorem sc_derived : FnScope N_derived P_derived (defScope s_derived) := ⟨rfl, rfl, rfl, by decide +kernel, rfl, by decide +kernel, by decide +kernel⟩
abbrev s_number_in : Stmt := top 46
abbrev N_number_in : List Str := ["some_row", "unknown", "other", "value"]
abbrev P_number_in : List Str := ["some_row", "unknown"]
theorem sc_number_in : FnScope N_number_in P_number_in (defScope s_number_in) := ⟨rfl, rfl, rfl, by decide +kernel, rfl, by decide +kernel, by decide +kernel⟩
abbrev s_scaled_paper : Stmt := top 47
abbrev N_scaled_paper : List Str := ["paper", "factor", "index", "value"]
abbrev P_scaled_paper : List Str := ["paper", "factor"]
theorem sc_scaled_paper : FnScope N_scaled_paper P_scaled_paper (defScope s_scaled_paper) := ⟨rfl, rfl, rfl, by decide +kernel, rfl, by decide +kernel, by decide +kernel⟩
abbrev s_added_papers : Stmt := top 48
abbrev N_added_papers : List Str := ["first", "second", "sums", "index", "value"]
abbrev P_added_papers : List Str := ["first", "second"]
theorem sc_added_papers : FnScope N_added_papers P_added_papers (defScope s_added_papers) := ⟨rfl, rfl, rfl, by decide +kernel, rfl, by decide +kernel, by decide +kernel⟩
abbrev s_combined : Stmt := top 49
abbrev N_combined : List Str := ["first", "one", "second", "other", "pairs", "bound", "total", "paper", "unknown", "value"]
abbrev P_combined : List Str := ["first", "one", "second", "other"]
theorem sc_combined : FnScope N_combined P_combined (defScope s_combined) := ⟨rfl, rfl, rfl, by decide +kernel, rfl, by decide +kernel, by decide +kernel⟩
abbrev s_is_weaker : Stmt := top 50
abbrev N_is_weaker : List Str := ["some_row", "other", "order"]
abbrev P_is_weaker : List Str := ["some_row", "other"]
theorem sc_is_weaker : FnScope N_is_weaker P_is_weaker (defScope s_is_weaker) := ⟨rfl, rfl, rfl, by decide +kernel, rfl, by decide +kernel, by decide +kernel⟩
abbrev s_stays : Stmt := top 51
abbrev N_stays : List Str := ["rows", "place", "parts", "sign", "_", "k", "other"]
abbrev P_stays : List Str := ["rows", "place"]
theorem sc_stays : FnScope N_stays P_stays (defScope s_stays) := ⟨rfl, rfl, rfl, by decide +kernel, rfl, by decide +kernel, by decide +kernel⟩
abbrev s_cleaned : Stmt := top 52
abbrev N_cleaned : List Str := ["rows", "k"]
abbrev P_cleaned : List Str := ["rows"]
theorem sc_cleaned : FnScope N_cleaned P_cleaned (defScope s_cleaned) := ⟨rfl, rfl, rfl, by decide +kernel, rfl, by decide +kernel, by decide +kernel⟩
abbrev s_first_equation : Stmt := top 53
abbrev N_first_equation : List Str := ["rows", "unknown", "k"]
abbrev P_first_equation : List Str := ["rows", "unknown"]
theorem sc_first_equation : FnScope N_first_equation P_first_equation (defScope s_first_equation) := ⟨rfl, rfl, rfl, by decide +kernel, rfl, by decide +kernel, by decide +kernel⟩
abbrev s_by_equation : Stmt := top 54
abbrev N_by_equation : List Str := ["rows", "unknown", "place", "equation", "base", "made", "k", "value"]
abbrev P_by_equation : List Str := ["rows", "unknown", "place"]
theorem sc_by_equation : FnScope N_by_equation P_by_equation (defScope s_by_equation) := ⟨rfl, rfl, rfl, by decide +kernel, rfl, by decide +kernel, by decide +kernel⟩
abbrev s_eliminated : Stmt := top 55
abbrev N_eliminated : List Str := ["rows", "unknown", "place", "made", "above", "below", "first", "second", "one", "other", "some"]
abbrev P_eliminated : List Str := ["rows", "unknown"]
theorem sc_eliminated : FnScope N_eliminated P_eliminated (defScope s_eliminated) := ⟨rfl, rfl, rfl, by decide +kernel, rfl, by decide +kernel, by decide +kernel⟩
abbrev s_false_row : Stmt := top 56
abbrev N_false_row : List Str := ["rows", "some"]
abbrev P_false_row : List Str := ["rows"]
theorem sc_false_row : FnScope N_false_row P_false_row (defScope s_false_row) := ⟨rfl, rfl, rfl, by decide +kernel, rfl, by decide +kernel, by decide +kernel⟩
abbrev s_limits_for : Stmt := top 57
abbrev N_limits_for : List Str := ["rows", "unknown", "point", "lower", "lower_in", "upper", "upper_in", "values", "some_row", "_", "parts", "sign", "bound", "own", "rest", "other", "value", "limit", "inside"]
abbrev P_limits_for : List Str := ["rows", "unknown", "point"]
theorem sc_limits_for : FnScope N_limits_for P_limits_for (defScope s_limits_for) := ⟨rfl, rfl, rfl, by decide +kernel, rfl, by decide +kernel, by decide +kernel⟩
abbrev s_tighter : Stmt := top 58
abbrev N_tighter : List Str := ["old", "old_in", "limit", "inside", "side", "order"]
abbrev P_tighter : List Str := ["old", "old_in", "limit", "inside", "side"]
theorem sc_tighter : FnScope N_tighter P_tighter (defScope s_tighter) := ⟨rfl, rfl, rfl, by decide +kernel, rfl, by decide +kernel, by decide +kernel⟩
abbrev s_whole_paper : Stmt := top 60
abbrev N_whole_paper : List Str := ["paper", "bottom", "_", "value", "top", "factor", "index"]
abbrev P_whole_paper : List Str := ["paper"]
theorem sc_whole_paper : FnScope N_whole_paper P_whole_paper (defScope s_whole_paper) := ⟨rfl, rfl, rfl, by decide +kernel, rfl, by decide +kernel, by decide +kernel⟩
abbrev s_back_from : Stmt := top 61
abbrev N_back_from : List Str := ["stages", "names", "point", "found", "k", "lower", "lower_in", "upper", "upper_in"]
abbrev P_back_from : List Str := ["stages", "names", "point"]
theorem sc_back_from : FnScope N_back_from P_back_from (defScope s_back_from) := ⟨rfl, rfl, rfl, by decide +kernel, rfl, by decide +kernel, by decide +kernel⟩
abbrev s_solve : Stmt := top 62
abbrev N_solve : List Str := ["system", "names", "rows", "stages", "wrong", "unknown"]
abbrev P_solve : List Str := ["system"]
theorem sc_solve : FnScope N_solve P_solve (defScope s_solve) := ⟨rfl, rfl, rfl, by decide +kernel, rfl, by decide +kernel, by decide +kernel⟩
abbrev s_numbers_of : Stmt := top 65
abbrev N_numbers_of : List Str := ["proof", "number", "factor"]
abbrev P_numbers_of : List Str := ["proof"]
theorem sc_numbers_of : FnScope N_numbers_of P_numbers_of (defScope s_numbers_of) := ⟨rfl, rfl, rfl, by decide +kernel, rfl, by decide +kernel, by decide +kernel⟩
abbrev s_step_fault : Stmt := top 66
abbrev N_step_fault : List Str := ["assumed", "proof", "wanted", "number", "rows", "formula"]
abbrev P_step_fault : List Str := ["assumed", "proof"]
theorem sc_step_fault : FnScope N_step_fault P_step_fault (defScope s_step_fault) := ⟨rfl, rfl, rfl, by decide +kernel, rfl, by decide +kernel, by decide +kernel⟩
abbrev s_flaw_under : Stmt := top 67
abbrev N_flaw_under : List Str := ["assumed", "proof", "what", "parts", "choices", "k", "flaw"]
abbrev P_flaw_under : List Str := ["assumed", "proof"]
theorem sc_flaw_under : FnScope N_flaw_under P_flaw_under (defScope s_flaw_under) := ⟨rfl, rfl, rfl, by decide +kernel, rfl, by decide +kernel, by decide +kernel⟩
abbrev s_flaw_of_proof : Stmt := top 68
abbrev N_flaw_of_proof : List Str := ["formulas", "proof", "formula"]
abbrev P_flaw_of_proof : List Str := ["formulas", "proof"]
theorem sc_flaw_of_proof : FnScope N_flaw_of_proof P_flaw_of_proof (defScope s_flaw_of_proof) := ⟨rfl, rfl, rfl, by decide +kernel, rfl, by decide +kernel, by decide +kernel⟩
abbrev s_first_of : Stmt := top 69
abbrev N_first_of : List Str := ["assumed", "kind", "taken", "number"]
abbrev P_first_of : List Str := ["assumed", "kind", "taken"]
theorem sc_first_of : FnScope N_first_of P_first_of (defScope s_first_of) := ⟨rfl, rfl, rfl, by decide +kernel, rfl, by decide +kernel, by decide +kernel⟩
abbrev s_Search_init : Stmt := inClass (top 70) 0
abbrev N_Search_init : List Str := ["self"]
abbrev P_Search_init : List Str := ["self"]
theorem sc_Search_init : FnScope N_Search_init P_Search_init (defScope s_Search_init) := ⟨rfl, rfl, rfl, by decide +kernel, rfl, by decide +kernel, by decide +kernel⟩
abbrev s_Search_look : Stmt := inClass (top 70) 1
abbrev N_Search_look : List Str := ["self", "assumed", "taken", "number", "numbers", "system", "wrong", "word", "found", "index", "factor"]
abbrev P_Search_look : List Str := ["self", "assumed", "taken"]
theorem sc_Search_look : FnScope N_Search_look P_Search_look (defScope s_Search_look) := ⟨rfl, rfl, rfl, by decide +kernel, rfl, by decide +kernel, by decide +kernel⟩
abbrev s_Search_take_and : Stmt := inClass (top 70) 2
abbrev N_Search_take_and : List Str := ["self", "assumed", "taken", "number", "word", "found"]
abbrev P_Search_take_and : List Str := ["self", "assumed", "taken", "number"]
theorem sc_Search_take_and : FnScope N_Search_take_and P_Search_take_and (defScope s_Search_take_and) := ⟨rfl, rfl, rfl, by decide +kernel, rfl, by decide +kernel, by decide +kernel⟩
abbrev s_Search_take_or : Stmt := inClass (top 70) 3
abbrev N_Search_take_or : List Str := ["self", "assumed", "taken", "number", "proofs", "part", "word", "found"]
abbrev P_Search_take_or : List Str := ["self", "assumed", "taken", "number"]
theorem sc_Search_take_or : FnScope N_Search_take_or P_Search_take_or (defScope s_Search_take_or) := ⟨rfl, rfl, rfl, by decide +kernel, rfl, by decide +kernel, by decide +kernel⟩
abbrev s_decide : Stmt := top 71
abbrev N_decide : List Str := ["formulas", "formula"]
abbrev P_decide : List Str := ["formulas"]
theorem sc_decide : FnScope N_decide P_decide (defScope s_decide) := ⟨rfl, rfl, rfl, by decide +kernel, rfl, by decide +kernel, by decide +kernel⟩
abbrev s__law_cell : Stmt := top 73
abbrev N__law_cell : List Str := ["_law_script", "_law_k"]
abbrev P__law_cell : List Str := ["_law_script", "_law_k"]
theorem sc__law_cell : FnScope N__law_cell P__law_cell (defScope s__law_cell) := ⟨rfl, rfl, rfl, by decide +kernel, rfl, by decide +kernel, by decide +kernel⟩
abbrev s__law_draw : Stmt := top 74
abbrev N__law_draw : List Str := ["_law_script", "_law_k", "_law_sizes", "_law_cell_here", "_law_drawn", "_law_size", "_law_mixed", "_law_j"]
abbrev P__law_draw : List Str := ["_law_script", "_law_k", "_law_sizes"]
theorem sc__law_draw : FnScope N__law_draw P__law_draw (defScope s__law_draw) := ⟨rfl, rfl, rfl, by decide +kernel, rfl, by decide +kernel, by decide +kernel⟩
abbrev s__law_row : Stmt := top 75
abbrev N__law_row : List Str := ["_law_digits", "_law_at", "_law_names", "_law_pairs", "_law_k", "_law_number_here", "_law_bound", "_law_sign"]
abbrev P__law_row : List Str := ["_law_digits", "_law_at"]
theorem sc__law_row : FnScope N__law_row P__law_row (defScope s__law_row) := ⟨rfl, rfl, rfl, by decide +kernel, rfl, by decide +kernel, by decide +kernel⟩
abbrev s__law_formula : Stmt := top 76
abbrev N__law_formula : List Str := ["_law_digits", "_law_at", "_law_depth", "_law_kind", "_law_first", "_law_parts"]
abbrev P__law_formula : List Str := ["_law_digits", "_law_at", "_law_depth"]
theorem sc__law_formula : FnScope N__law_formula P__law_formula (defScope s__law_formula) := ⟨rfl, rfl, rfl, by decide +kernel, rfl, by decide +kernel, by decide +kernel⟩
abbrev s__law_some : Stmt := top 77
abbrev N__law_some : List Str := ["_law_script", "_law_k", "_law_depth"]
abbrev P__law_some : List Str := ["_law_script", "_law_k", "_law_depth"]
theorem sc__law_some : FnScope N__law_some P__law_some (defScope s__law_some) := ⟨rfl, rfl, rfl, by decide +kernel, rfl, by decide +kernel, by decide +kernel⟩
abbrev s__law_number : Stmt := top 78
abbrev N__law_number : List Str := ["_law_top", "_law_bottom", "_law_one", "_law_other"]
abbrev P__law_number : List Str := ["_law_top", "_law_bottom"]
theorem sc__law_number : FnScope N__law_number P__law_number (defScope s__law_number) := ⟨rfl, rfl, rfl, by decide +kernel, rfl, by decide +kernel, by decide +kernel⟩
abbrev s__law_holds : Stmt := top 79
abbrev N__law_holds : List Str := ["_law_one", "_law_point_here", "_law_values", "_law_name", "_law_value", "_law_top", "_law_bottom", "_law_number_here", "_law_left", "_law_right"]
abbrev P__law_holds : List Str := ["_law_one", "_law_point_here"]
theorem sc__law_holds : FnScope N__law_holds P__law_holds (defScope s__law_holds) := ⟨rfl, rfl, rfl, by decide +kernel, rfl, by decide +kernel, by decide +kernel⟩
abbrev s__law_true : Stmt := top 80
abbrev N__law_true : List Str := ["_law_formula_here", "_law_point_here", "_law_kind", "_law_told", "_law_part"]
abbrev P__law_true : List Str := ["_law_formula_here", "_law_point_here"]
theorem sc__law_true : FnScope N__law_true P__law_true (defScope s__law_true) := ⟨rfl, rfl, rfl, by decide +kernel, rfl, by decide +kernel, by decide +kernel⟩
abbrev s__law_point : Stmt := top 81
abbrev N__law_point : List Str := ["_law_script", "_law_k", "_law_digits", "_law_names", "_law_point_here", "_law_j"]
abbrev P__law_point : List Str := ["_law_script", "_law_k"]
theorem sc__law_point : FnScope N__law_point P__law_point (defScope s__law_point) := ⟨rfl, rfl, rfl, by decide +kernel, rfl, by decide +kernel, by decide +kernel⟩
abbrev s__law_formulas : Stmt := top 82
abbrev N__law_formulas : List Str := ["_law_script", "_law_k", "_law_many", "_law_depth", "_law_formulas_here", "_law_j"]
abbrev P__law_formulas : List Str := ["_law_script", "_law_k", "_law_many", "_law_depth"]
theorem sc__law_formulas : FnScope N__law_formulas P__law_formulas (defScope s__law_formulas) := ⟨rfl, rfl, rfl, by decide +kernel, rfl, by decide +kernel, by decide +kernel⟩
abbrev s__law_decided : Stmt := top 83
abbrev N__law_decided : List Str := ["_law_formulas_here", "e"]
abbrev P__law_decided : List Str := ["_law_formulas_here"]
theorem sc__law_decided : FnScope N__law_decided P__law_decided (defScope s__law_decided) := ⟨rfl, rfl, rfl, by decide +kernel, rfl, by decide +kernel, by decide +kernel⟩
abbrev s_law : Stmt := top 84
abbrev N_law : List Str := ["_law_script", "_law_w", "_law_formulas_here", "_law_word", "_law_found", "_law_j", "_law_point_here", "_law_formula_here"]
abbrev P_law : List Str := ["_law_script"]
theorem sc_law : FnScope N_law P_law (defScope s_law) := ⟨rfl, rfl, rfl, by decide +kernel, rfl, by decide +kernel, by decide +kernel⟩
end LP
set_option maxRecDepth 100000
set_option maxHeartbeats 4000000
/-! Pn1: common_divisor, number, plus .. compare. -/
namespace LP
open PySem PySem.Spec PyProof.Rows L2
def dQ (q : Rat) : D := .tup [.int q.num, .int (q.den : Int)]
theorem dQ_flat (q : Rat) : (dQ q).flat = true := rfl

def wCd : List D → (D → Prop) → Prop := fun ds R => ∃ a b : Nat, ds = [.int a, .int b] ∧ R (.int (Nat.gcd a b : Nat))
def wNum : List D → (D → Prop) → Prop := fun ds R => ∃ (t b : Int) (k : Nat), ds = [.int t, .int b] ∧ b ≠ 0 ∧ Bt k b.natAbs ∧ k < 9000 ∧ R (dQ (Rat.divInt t b))
section
variable {P : Program} {w : World} {K : PySem.W.Frag} {mg : Str → Option Value} {base : Heap} {f : Addr} {fd : FuncData}
theorem ok_cd (F : Fun K "common_divisor" "common_divisor" s_common_divisor f fd) : FnOk P w K mg base CX0 1 f fd P_common_divisor (spD K wCd) := by
  refine okD F sc_common_divisor (fun ds R h => by obtain ⟨a, b, rfl, _⟩ := h; rfl) fun cdv A outer s H E hr ds R h => ?_
  obtain ⟨a, b, rfl, r⟩ := h
  refine bs_cons (s_while (fun m ρ δ => ∃ x : Nat, ρ = noR ∧ δ = [some (.int x), some (.int m)] ∧ Nat.gcd x m = Nat.gcd a b) b ⟨a, rfl, rfl, rfl⟩ ?_ PassesOwn.never)
  rintro y ρ δ ⟨x, rfl, rfl, e⟩
  refine wt_cmp <| w_var 1 rfl <| w_int <| opw_neI ⟨_, rfl, ?_⟩
  by_cases hy : (y : Int) = 0
  · rw [decide_eq_true hy]
    have hy' : y = 0 := by omega
    subst hy'
    refine bs_cons <| s_ret <| w_var 0 rfl ⟨_, rfl, rfl, ?_⟩
    rw [← e] at r
    simpa using r
  · rw [decide_eq_false hy]
    have hp : 0 < y := by omega
    refine bs_cons (s_par 0 1 (wi_cons <| w_var 1 rfl <| wi_cons <| w_bin <| w_var 0 rfl <| w_var 1 rfl <| opw_mod (by omega) <| wi_nil ⟨_, _, rfl, ?_⟩) rfl sc_common_divisor.nd)
    refine bs_nil ⟨x % y, Nat.mod_lt _ hp, y, rfl, ?_, ?_⟩
    · rw [Int.natCast_emod]; rfl
    · rw [← e, Nat.gcd_comm x y, Nat.gcd_rec y x, Nat.gcd_comm]
theorem ok_num (F : Fun K "number" "number" s_number f fd) (G : Def P w K mg base 1 "common_divisor" P_common_divisor (spD K wCd)) (hA : mg "abs" = none) : FnOk P w K mg base CX0 2 f fd P_number (spD K wNum) := by
  refine okD F sc_number (fun ds R h => by obtain ⟨a, b, k, rfl, _⟩ := h; rfl) fun cdv A outer s H E hr ds R h => ?_
  obtain ⟨t, b, k, rfl, hb, hk, k9, r⟩ := h
  refine bs_cons <| s_if <| wt_cmp <| w_var 1 rfl <| w_int <| opw_eqI ⟨_, rfl, ?_⟩
  rw [decide_eq_false hb]
  refine bs_nil ?_
  -- from here on with a positive bottom
  have main : ∀ (t b : Int), 0 < b → Bt k b.natAbs → R (dQ (Rat.divInt t b)) → BS (cxOf CX0 P w K mg base N_number "number" (defScope s_number) f cdv A outer s H E).nox H noR [some (.int t), some (.int b), none] ((defBody s_number).drop 2) (PD R) := by
    intro t b hb hk r
    have ht : (if t < 0 then -t else t) = (t.natAbs : Int) := by split <;> omega
    have e : b = (b.natAbs : Int) := by omega
    have gb : Bt k (Nat.gcd t.natAbs b.natAbs) := hk.dvd (by omega) (Nat.gcd_dvd_right _ _)
    have gp : 0 < ((Nat.gcd t.natAbs b.natAbs : Nat) : Int) := by
      have := Nat.gcd_pos_of_pos_right t.natAbs (show 0 < b.natAbs by omega)
      omega
    refine bs_cons (s_set 2 (w_call G hr <| wa_v <| w_abs (w_var 0 rfl ⟨_, rfl, wa_v <| w_var 1 rfl <| wa_nil ⟨t.natAbs, b.natAbs, ?_, ?_⟩⟩) hA) sc_number.nd)
    · rw [ht, ← e]
    · refine bs_cons <| s_ret <| w_tup <| wi_cons <| w_bin <| w_var 0 rfl <| w_var 2 rfl <| opw_fdiv (gb.wdiv gp k9) <| wi_cons <| w_bin <| w_var 1 rfl <| w_var 2 rfl <| opw_fdiv (gb.wdiv gp k9) <| wi_nil ⟨by show 2 ≤ sizeLine; decide, _, rfl, rfl, ?_⟩
      rw [← divInt_num hb, ← divInt_den hb]
      exact r
  refine bs_cons <| s_if <| wt_cmp <| w_var 1 rfl <| w_int <| opw_lt ⟨_, rfl, ?_⟩
  by_cases hn : b < 0
  · rw [decide_eq_true hn]
    refine bs_cons (s_set 0 (w_neg <| w_var 0 rfl ⟨_, rfl, ?_⟩) sc_number.nd)
    refine bs_cons (s_set 1 (w_neg <| w_var 1 rfl ⟨_, rfl, ?_⟩) sc_number.nd)
    refine bs_nil (main (-t) (-b) (by omega) (by rw [Int.natAbs_neg]; exact hk) ?_)
    rw [← divInt_flip]
    exact r
  · rw [decide_eq_false hn]
    exact bs_nil (main t b (by omega) hk r)
end
end LP
set_option maxRecDepth 100000
set_option maxHeartbeats 4000000
/-! Pn2: plus .. compare, bounds. -/
namespace LP
open PySem PySem.Spec PyProof.Rows L2
theorem bs_If {X : Cx} {H0 : Hp} {ρ : Rho} {δ : Del} {c : Expr} {sts els rest : List Stmt} {pos : Pos} {P : Post}
    (h : WT X H0 ρ δ c fun k => cond k (BS X H0 ρ δ sts { P with nx := fun ρ' δ' => BS X H0 ρ' δ' rest P }) (BS X H0 ρ δ els { P with nx := fun ρ' δ' => BS X H0 ρ' δ' rest P })) : BS X H0 ρ δ (.If c sts els pos :: rest) P := bs_cons (s_if h)

/-- plus, minus, times -/
def wOp (g : Rat → Rat → Rat) : List D → (D → Prop) → Prop := fun ds R => ∃ (a b : Rat) (n d m e : Nat), ds = [dQ a, dQ b] ∧ Sz n d a ∧ Sz m e b ∧ d + e < 9000 ∧ n ≤ 90000 ∧ m ≤ 90000 ∧ R (dQ (g a b))
def wOver : List D → (D → Prop) → Prop := fun ds R => ∃ (a b : Rat) (n d m e : Nat), ds = [dQ a, dQ b] ∧ Sz n d a ∧ Sz m e b ∧ b ≠ 0 ∧ d + m < 9000 ∧ n ≤ 90000 ∧ e ≤ 90000 ∧ R (dQ (a / b))
def wOpp : List D → (D → Prop) → Prop := fun ds R => ∃ a : Rat, ds = [dQ a] ∧ R (dQ (-a))
def cmpQ (a b : Rat) : Int := if a < b then -1 else if b < a then 1 else 0
theorem cmpQ_lt (a b : Rat) : cmpQ a b < 0 ↔ a < b := by
  unfold cmpQ
  split
  · rename_i h; exact ⟨fun _ => h, fun _ => by decide⟩
  · rename_i h
    split <;> exact ⟨fun z => absurd z (by decide), fun z => absurd z h⟩
theorem cmpQ_gt (a b : Rat) : 0 < cmpQ a b ↔ b < a := by
  unfold cmpQ
  split
  · rename_i h
    exact ⟨fun z => absurd z (by decide), fun z => absurd (Rat.le_of_lt z) (Rat.not_le.mpr h)⟩
  · split
    · rename_i h; exact ⟨fun _ => h, fun _ => by decide⟩
    · rename_i h; exact ⟨fun z => absurd z (by decide), fun z => absurd z h⟩
theorem cmpQ_eq (a b : Rat) : cmpQ a b = 0 ↔ a = b := by
  unfold cmpQ
  split
  · rename_i h
    exact ⟨fun z => absurd z (by decide), fun z => by subst z; exact absurd h Rat.lt_irrefl⟩
  · rename_i h1
    split
    · rename_i h
      exact ⟨fun z => absurd z (by decide), fun z => by subst z; exact absurd h Rat.lt_irrefl⟩
    · rename_i h2
      exact ⟨fun _ => Rat.le_antisymm (Rat.not_lt.mp h2) (Rat.not_lt.mp h1), fun _ => rfl⟩
def wCmp : List D → (D → Prop) → Prop := fun ds R => ∃ (a b : Rat) (k : Nat), ds = [dQ a, dQ b] ∧ Sz k k a ∧ Sz k k b ∧ k ≤ 90000 ∧ R (.int (cmpQ a b))
/-- a bound or none -/
def dO : Option Rat → D
  | none => .non
  | some q => dQ q
def SzO (k : Nat) : Option Rat → Prop
  | none => True
  | some q => Sz k k q
def below (v : Rat) (u : Option Rat) (i : Bool) : Bool := match u with
  | none => true
  | some u => decide (v < u) || (decide (v = u) && i)
def above (v : Rat) (l : Option Rat) (i : Bool) : Bool := match l with
  | none => true
  | some l => decide (l < v) || (decide (v = l) && i)
/-- can_lie_between -/
def gapOk (l : Option Rat) (li : Bool) (u : Option Rat) (ui : Bool) : Bool := match l, u with
  | some l, some u => decide (l < u) || (decide (l = u) && li && ui)
  | _, _ => true
def wBel (g : Rat → Option Rat → Bool → Bool) : List D → (D → Prop) → Prop := fun ds R => ∃ (v : Rat) (u : Option Rat) (i : Bool) (k : Nat), ds = [dQ v, dO u, .bl i] ∧ Sz k k v ∧ SzO k u ∧ k ≤ 90000 ∧ R (.bl (g v u i))
def wGap : List D → (D → Prop) → Prop := fun ds R => ∃ (l : Option Rat) (li : Bool) (u : Option Rat) (ui : Bool) (k : Nat), ds = [dO l, .bl li, dO u, .bl ui] ∧ SzO k l ∧ SzO k u ∧ k ≤ 90000 ∧ R (.bl (gapOk l li u ui))

/-- x[n] of a tuple at a name -/
theorem w_ixT {X : Cx} {H0 : Hp} {ρ : Rho} {δ : Del} {x : Str} {p p1 p2 : Pos} {j : Nat} {z : Int} (i n : Nat) {xs : List D} {d : D} {R : D → Prop} (hδ : δ[i]? = some (some (.tup xs))) (hz : z = (n : Int) := by rfl) (hx : xs[n]? = some d := by rfl) (r : R d) (hN : X.N[i]? = some x := by rfl) (hv : Vis X.env.scope x := by first | exact Or.inl rfl | exact Or.inr (Or.inl rfl) | exact Or.inr (Or.inr rfl))
    (hd : (x == ("__debug__" : Str)) = false := by decide) (hcd : (x == ("__classdict__" : Str)) = false := by decide) : W X H0 ρ δ (.Subscript (.Name x p1) (.Constant (.int z) j p2) p) R :=
  w_ix <| w_var i hδ (w_int ⟨n, xs, d, by rw [hz], rfl, hx, r⟩) hN hv hd hcd
theorem dQ_ix0 (q : Rat) : SeqD noR (dQ q) [.int q.num, .int (q.den : Int)] := rfl

section
variable {P : Program} {w : World} {K : PySem.W.Frag} {mg : Str → Option Value} {base : Heap} {f : Addr} {fd : FuncData}
/-- the numbers' defs -/
theorem ok_plus (F : Fun K "plus" "plus" s_plus f fd) (G : Def P w K mg base 2 "number" P_number (spD K wNum)) : FnOk P w K mg base CX0 3 f fd P_plus (spD K (wOp (· + ·))) := by
  refine okD F sc_plus (fun ds R h => by obtain ⟨a, b, n, d, m, e, rfl, _⟩ := h; rfl) fun cdv A outer s H E hr ds R h => ?_
  obtain ⟨a, b, n, d, m, e, rfl, ha, hb, h1, h2, h3, r⟩ := h
  refine bs_cons <| s_ret <| w_call G hr <| wa_v <| w_bin <| w_bin <| w_ixT 0 0 rfl (r := w_ixT 1 1 rfl (r := opw_mul (ha.n.wide hb.d (by omega)) <| w_bin <| w_ixT 1 0 rfl (r := w_ixT 0 1 rfl (r := opw_mul (hb.n.wide ha.d (by omega)) <| opw_add <| wa_v <| w_bin <| w_ixT 0 1 rfl (r := w_ixT 1 1 rfl (r := opw_mul (ha.d.wide hb.d (by omega)) <| wa_nil ?_))))))
  refine ⟨_, _, d + e, rfl, Int.mul_ne_zero (den_ne a) (den_ne b), ?_, h1, _, rfl, rfl, ?_⟩
  · rw [Int.natAbs_mul]; exact ha.d.mul hb.d
  · rw [← add_divInt]; exact r
theorem ok_minus (F : Fun K "minus" "minus" s_minus f fd) (G : Def P w K mg base 2 "number" P_number (spD K wNum)) : FnOk P w K mg base CX0 3 f fd P_minus (spD K (wOp (· - ·))) := by
  refine okD F sc_minus (fun ds R h => by obtain ⟨a, b, n, d, m, e, rfl, _⟩ := h; rfl) fun cdv A outer s H E hr ds R h => ?_
  obtain ⟨a, b, n, d, m, e, rfl, ha, hb, h1, h2, h3, r⟩ := h
  refine bs_cons <| s_ret <| w_call G hr <| wa_v <| w_bin <| w_bin <| w_ixT 0 0 rfl (r := w_ixT 1 1 rfl (r := opw_mul (ha.n.wide hb.d (by omega)) <| w_bin <| w_ixT 1 0 rfl (r := w_ixT 0 1 rfl (r := opw_mul (hb.n.wide ha.d (by omega)) <| opw_sub <| wa_v <| w_bin <| w_ixT 0 1 rfl (r := w_ixT 1 1 rfl (r := opw_mul (ha.d.wide hb.d (by omega)) <| wa_nil ?_))))))
  refine ⟨_, _, d + e, rfl, Int.mul_ne_zero (den_ne a) (den_ne b), ?_, h1, _, rfl, rfl, ?_⟩
  · rw [Int.natAbs_mul]; exact ha.d.mul hb.d
  · rw [← sub_divInt]; exact r
theorem ok_times (F : Fun K "times" "times" s_times f fd) (G : Def P w K mg base 2 "number" P_number (spD K wNum)) : FnOk P w K mg base CX0 3 f fd P_times (spD K (wOp (· * ·))) := by
  refine okD F sc_times (fun ds R h => by obtain ⟨a, b, n, d, m, e, rfl, _⟩ := h; rfl) fun cdv A outer s H E hr ds R h => ?_
  obtain ⟨a, b, n, d, m, e, rfl, ha, hb, h1, h2, h3, r⟩ := h
  refine bs_cons <| s_ret <| w_call G hr <| wa_v <| w_bin <| w_ixT 0 0 rfl (r := w_ixT 1 0 rfl (r := opw_mul (ha.n.wide hb.n (by omega)) <| wa_v <| w_bin <| w_ixT 0 1 rfl (r := w_ixT 1 1 rfl (r := opw_mul (ha.d.wide hb.d (by omega)) <| wa_nil ?_))))
  refine ⟨_, _, d + e, rfl, Int.mul_ne_zero (den_ne a) (den_ne b), ?_, h1, _, rfl, rfl, ?_⟩
  · rw [Int.natAbs_mul]; exact ha.d.mul hb.d
  · rw [← mul_divInt]; exact r
theorem ok_over (F : Fun K "over" "over" s_over f fd) (G : Def P w K mg base 2 "number" P_number (spD K wNum)) : FnOk P w K mg base CX0 3 f fd P_over (spD K wOver) := by
  refine okD F sc_over (fun ds R h => by obtain ⟨a, b, n, d, m, e, rfl, _⟩ := h; rfl) fun cdv A outer s H E hr ds R h => ?_
  obtain ⟨a, b, n, d, m, e, rfl, ha, hb, hb0, h1, h2, h3, r⟩ := h
  refine bs_cons <| s_ret <| w_call G hr <| wa_v <| w_bin <| w_ixT 0 0 rfl (r := w_ixT 1 1 rfl (r := opw_mul (ha.n.wide hb.d (by omega)) <| wa_v <| w_bin <| w_ixT 0 1 rfl (r := w_ixT 1 0 rfl (r := opw_mul (ha.d.wide hb.n (by omega)) <| wa_nil ?_))))
  refine ⟨_, _, d + m, rfl, Int.mul_ne_zero (den_ne a) fun z => hb0 (Rat.num_eq_zero.mp z), ?_, h1, _, rfl, rfl, ?_⟩
  · rw [Int.natAbs_mul]; exact ha.d.mul hb.n
  · rw [← div_divInt]; exact r
theorem ok_opposite (F : Fun K "opposite" "opposite" s_opposite f fd) : FnOk P w K mg base CX0 1 f fd P_opposite (spD K wOpp) := by
  refine okD F sc_opposite (fun ds R h => by obtain ⟨a, rfl, _⟩ := h; rfl) fun cdv A outer s H E hr ds R h => ?_
  obtain ⟨a, rfl, r⟩ := h
  exact bs_cons <| s_ret <| w_tup <| wi_cons <| w_neg <| w_ixT 0 0 rfl (r := ⟨_, rfl, wi_cons <| w_ixT 0 1 rfl (r := wi_nil ⟨by show 2 ≤ sizeLine; decide, _, rfl, rfl, r⟩)⟩)
theorem ok_compare (F : Fun K "compare" "compare" s_compare f fd) : FnOk P w K mg base CX0 1 f fd P_compare (spD K wCmp) := by
  refine okD F sc_compare (fun ds R h => by obtain ⟨a, b, k, rfl, _⟩ := h; rfl) fun cdv A outer s H E hr ds R h => ?_
  obtain ⟨a, b, k, rfl, ha, hb, hk, r⟩ := h
  refine bs_cons (s_set 2 (w_bin <| w_ixT 0 0 rfl (r := w_ixT 1 1 rfl (r := opw_mul (ha.n.wide hb.d (by omega)) ?_))) sc_compare.nd)
  refine bs_cons (s_set 3 (w_bin <| w_ixT 1 0 rfl (r := w_ixT 0 1 rfl (r := opw_mul (hb.n.wide ha.d (by omega)) ?_))) sc_compare.nd)
  refine bs_If <| wt_cmp <| w_var 2 rfl <| w_var 3 rfl <| opw_lt ⟨_, rfl, ?_⟩
  unfold cmpQ at r
  rw [decide_eq_decide.mpr (Rat.lt_iff a b).symm]
  by_cases h : a < b
  · rw [if_pos h] at r
    rw [decide_eq_true h]
    exact bs_cons <| s_ret <| w_neg <| w_int ⟨_, rfl, _, rfl, rfl, r⟩
  · rw [if_neg h] at r
    rw [decide_eq_false h]
    refine bs_nil <| bs_If <| wt_cmp <| w_var 2 rfl <| w_var 3 rfl <| opw_gt ⟨_, rfl, ?_⟩
    rw [decide_eq_decide.mpr (Rat.lt_iff b a).symm]
    by_cases h' : b < a
    · rw [if_pos h'] at r
      rw [decide_eq_true h']
      exact bs_cons <| s_ret <| w_int ⟨_, rfl, rfl, r⟩
    · rw [if_neg h'] at r
      rw [decide_eq_false h']
      exact bs_nil <| bs_cons <| s_ret <| w_int ⟨_, rfl, rfl, r⟩
end
end LP
set_option maxRecDepth 100000
/-! Sb: the simplest number between two bounds, in plain Lean. -/
namespace LP
open L2
def fl (q : Rat) : Int := q.num / (q.den : Int)
theorem gap_iff {l v : Rat} {li ui : Bool} : gapOk (some l) li (some v) ui = true ↔ l < v ∨ (l = v ∧ li = true ∧ ui = true) := by simp [gapOk, and_assoc]
theorem below_iff {x v : Rat} {i : Bool} : below x (some v) i = true ↔ x < v ∨ (x = v ∧ i = true) := by simp [below]
theorem above_iff {x v : Rat} {i : Bool} : above x (some v) i = true ↔ v < x ∨ (x = v ∧ i = true) := by simp [above]
theorem eq_of_den1 {q : Rat} (h : q.den = 1) : (q.num : Rat) = q := Rat.ext (by simp) (by simp [h])
theorem fl_le (q : Rat) : (fl q : Rat) ≤ q := by
  rw [Rat.le_iff]
  simp only [Rat.num_intCast, Rat.den_intCast]
  have := den_pos q
  have h := Int.ediv_mul_le q.num (show (q.den : Int) ≠ 0 by omega)
  unfold fl
  simpa using h
theorem lt_fl (q : Rat) : q < (fl q : Rat) + 1 := by
  have e : (fl q : Rat) + 1 = ((fl q + 1 : Int) : Rat) := by simp
  rw [e, Rat.lt_iff]
  simp only [Rat.num_intCast, Rat.den_intCast]
  have := den_pos q
  have h := Int.lt_ediv_add_one_mul_self q.num this
  unfold fl
  simpa using h
theorem sub_int_eq (q : Rat) (f : Int) : q - f = Rat.divInt (q.num - f * q.den) q.den := by
  rw [sub_divInt]
  simp [Rat.num_intCast, Rat.den_intCast]
theorem sub_int_nd (q : Rat) (f : Int) : (q - f).num = q.num - f * q.den ∧ (q - f).den = q.den := by
  have hc : Nat.gcd (q.num - f * q.den).natAbs ((q.den : Int)).natAbs = 1 := by
    have : Int.gcd (q.num - f * q.den) q.den = 1 := by
      rw [Int.gcd_sub_mul_right_left]
      exact q.reduced
    exact this
  rw [sub_int_eq]
  have h1 := divInt_num (t := q.num - f * q.den) (den_pos q)
  have h2 := divInt_den (t := q.num - f * q.den) (den_pos q)
  rw [hc] at h1 h2
  simp at h1 h2
  exact ⟨h1, by first | exact h2 | exact_mod_cast h2⟩
theorem inv_nd {q : Rat} (h : 0 < q) : (1 / q).num = q.den ∧ ((1 / q).den : Int) = q.num := by
  have hp : 0 < q.num := by
    have := (Rat.lt_iff 0 q).mp h
    simpa using this
  have hc : Nat.gcd ((q.den : Int)).natAbs (q.num).natAbs = 1 := by
    rw [Nat.gcd_comm]; exact q.reduced
  have e : 1 / q = Rat.divInt q.den q.num := by
    rw [div_divInt]; simp
  rw [e]
  have h1 := divInt_num (t := (q.den : Int)) hp
  have h2 := divInt_den (t := (q.den : Int)) hp
  rw [hc] at h1 h2
  simp at h1 h2
  exact ⟨h1, h2⟩
theorem add_int_nd (q : Rat) (f : Int) : ((f : Rat) + q).num = f * q.den + q.num ∧ ((f : Rat) + q).den = q.den := by
  have h := sub_int_nd q (-f)
  have e : q - ((-f : Int) : Rat) = (f : Rat) + q := by
    rw [Rat.intCast_neg]; grind
  rw [e] at h
  refine ⟨by rw [h.1, Int.neg_mul]; omega, h.2⟩
theorem inv_le {x z : Rat} (hx : 0 < x) (hz : 0 < z) : x ≤ 1 / z ↔ z ≤ 1 / x := by
  have e1 : x * (1 / x) = 1 := by rw [Rat.div_def, Rat.one_mul, Rat.mul_inv_cancel x (Rat.ne_of_gt hx)]
  have e2 : z * (1 / z) = 1 := by rw [Rat.div_def, Rat.one_mul, Rat.mul_inv_cancel z (Rat.ne_of_gt hz)]
  have p1 : 0 < 1 / x := by rw [Rat.div_def, Rat.one_mul]; exact Rat.inv_pos.mpr hx
  have p2 : 0 < 1 / z := by rw [Rat.div_def, Rat.one_mul]; exact Rat.inv_pos.mpr hz
  constructor
  · intro h
    have := Rat.mul_le_mul_of_nonneg_left h (Rat.le_of_lt (Rat.mul_pos hz p1))
    have a1 : z * (1 / x) * x = z := by rw [Rat.mul_assoc, Rat.mul_comm (1 / x), e1, Rat.mul_one]
    have a2 : z * (1 / x) * (1 / z) = 1 / x := by rw [Rat.mul_comm z, Rat.mul_assoc, e2, Rat.mul_one]
    rw [a1, a2] at this
    exact this
  · intro h
    have := Rat.mul_le_mul_of_nonneg_left h (Rat.le_of_lt (Rat.mul_pos hx p2))
    have a1 : x * (1 / z) * z = x := by rw [Rat.mul_assoc, Rat.mul_comm (1 / z), e2, Rat.mul_one]
    have a2 : x * (1 / z) * (1 / x) = 1 / z := by rw [Rat.mul_comm x, Rat.mul_assoc, e1, Rat.mul_one]
    rw [a1, a2] at this
    exact this
theorem inv_inv {x : Rat} (hx : 0 < x) : 1 / (1 / x) = x := by
  rw [Rat.div_def, Rat.one_mul, Rat.div_def, Rat.one_mul, Rat.inv_inv]
theorem inv_p {x : Rat} (hx : 0 < x) : 0 < 1 / x := by rw [Rat.div_def, Rat.one_mul]; exact Rat.inv_pos.mpr hx

def ups : List Int → Rat → Rat
  | [], x => x
  | f :: fs, x => (f : Rat) + 1 / ups fs x
def whl (l : Rat) (li : Bool) : Int := if l.den ≠ 1 ∨ li = false then fl l + 1 else fl l
def topD (l v : Rat) : Option Rat := if v - l = 0 then none else some (1 / (v - l))
inductive Sim (s : Nat) : Rat → Bool → Option Rat → Bool → List Int → Rat → Prop
  | done {l : Rat} {li : Bool} {u : Option Rat} {ui : Bool} (h0 : 0 ≤ l) (sl : Sz s s l) (su : SzO s u) (g : gapOk l li u ui = true) (b : below (whl l li : Int) u ui = true) : Sim s l li u ui [] (whl l li : Int)
  | more {l v : Rat} {li ui : Bool} {fs : List Int} {x : Rat} (h0 : 0 ≤ l) (sl : Sz s s l) (su : Sz s s v) (g : gapOk l li (some v) ui = true) (b : below (whl l li : Int) (some v) ui = false)
      (hv : (fl l : Rat) < v) (t : Sim s (1 / (v - (fl l : Rat))) ui (topD (fl l : Rat) l) li fs x) : Sim s l li (some v) ui (fl l :: fs) x
def cN : Option Rat → Int
  | none => 1
  | some v => v.num
def cD : Option Rat → Int
  | none => 0
  | some v => v.den
theorem nn_num {q : Rat} (h : 0 ≤ q) : 0 ≤ q.num := Rat.num_nonneg.mpr h
theorem pos_num {q : Rat} (h : 0 < q) : 0 < q.num := by
  have := (Rat.lt_iff 0 q).mp h
  simpa using this
theorem fl_nn {l : Rat} (h : 0 ≤ l) : 0 ≤ fl l := Int.ediv_nonneg (nn_num h) (by have := den_pos l; omega)
/-- there is always one -/
theorem sim_ex (s : Nat) : ∀ (m : Nat) (l : Rat) (li : Bool) (u : Option Rat) (ui : Bool), (l.den : Int) + cD u ≤ m → 0 ≤ l → Sz s s l → SzO s u → gapOk l li u ui = true → ∃ fs x, Sim s l li u ui fs x := by
  intro m
  induction m with
  | zero =>
    intro l li u ui hm
    have := den_pos l
    exfalso
    cases u with
    | none => simp [cD] at hm; omega
    | some v => have := den_pos v; simp [cD] at hm; omega
  | succ m ih =>
    intro l li u ui hm h0 sl su g
    cases b : below (whl l li : Int) u ui with
    | true => exact ⟨_, _, .done h0 sl su g b⟩
    | false =>
      cases u with
      | none => simp [below] at b
      | some v =>
        -- the upper bound is above the floor
        have hlv : l ≤ v := by
          rcases gap_iff.mp g with h | ⟨h, _, _⟩
          · exact Rat.le_of_lt h
          · rw [h]; exact Rat.le_refl
        have hf := fl_le l
        have hl1 := lt_fl l
        have b' : ¬ ((whl l li : Int) : Rat) < v := by
          intro h
          have : below (whl l li : Int) (some v) ui = true := by
            show (decide _ || _) = true
            rw [decide_eq_true h]; rfl
          rw [b] at this; cases this
        have hin : ¬ (l.den = 1 ∧ li = true) := by
          rintro ⟨d1, rfl⟩
          have hw : whl l true = fl l := by unfold whl; rw [if_neg (by simp [d1])]
          have hlf : l = ((fl l : Int) : Rat) := by
            unfold fl; rw [d1]
            simp
            exact (eq_of_den1 d1).symm
          rw [hw] at b b'
          have hvl : v = l := Rat.le_antisymm (by rw [hlf]; exact Rat.not_lt.mp b') hlv
          subst hvl
          have g' := gap_iff.mp g
          simp [Rat.lt_irrefl] at g'
          subst g'
          have : below (fl v : Int) (some v) true = true := by
            show (decide _ || (decide _ && true)) = true
            rw [decide_eq_true hlf.symm]; simp
          rw [b] at this; cases this
        have hw : whl l li = fl l + 1 := by
          unfold whl; rw [if_pos]
          by_cases d1 : l.den = 1
          · right
            cases li with
            | true => exact absurd ⟨d1, rfl⟩ hin
            | false => rfl
          · exact .inl d1
        have hv1 : v ≤ (fl l : Rat) + 1 := by
          have := Rat.not_lt.mp b'
          rw [hw] at this
          simpa using this
        have hvf : (fl l : Rat) < v := by
          rcases Rat.le_iff_lt_or_eq.mp (Rat.le_trans hf hlv) with h | h
          · exact h
          · exfalso
            have hle : l = (fl l : Rat) := Rat.le_antisymm (by rw [h]; exact hlv) hf
            have d1 : l.den = 1 := by rw [hle]; simp
            have li' : li = true := by
              have := gap_iff.mp g
              have e : l = v := by rw [← h]; exact hle
              subst e
              simp [Rat.lt_irrefl] at this
              exact this.1
            exact hin ⟨d1, li'⟩
        obtain ⟨vn, vd⟩ := sub_int_nd v (fl l)
        obtain ⟨ln, ld⟩ := sub_int_nd l (fl l)
        have hvp : 0 < v - (fl l : Rat) := by grind
        obtain ⟨rn, rd⟩ := inv_nd hvp
        have hlp : 0 ≤ l - (fl l : Rat) := by grind
        have hv1' : v - (fl l : Rat) ≤ 1 := by grind
        have hl1' : l - (fl l : Rat) < 1 := by grind
        have n1 : (v - (fl l : Rat)).num ≤ v.den := by
          have := (Rat.le_iff _ _).mp hv1'
          rw [vd] at this
          simpa using this
        have n2 : (l - (fl l : Rat)).num < l.den := by
          have := Rat.lt_iff _ _ |>.mp hl1'
          rw [ld] at this
          simpa using this
        have n3 := pos_num hvp
        have n4 := nn_num hlp
        have sz1 : Sz s s (1 / (v - (fl l : Rat))) := by
          refine ⟨?_, ?_⟩
          · rw [rn, vd]; exact su.d
          · exact su.d.le (by omega)
        have g2 : SzO s (topD (fl l : Rat) l) ∧ gapOk (some (1 / (v - (fl l : Rat)))) ui (topD (fl l : Rat) l) li = true ∧ cD (topD (fl l : Rat) l) ≤ (l - (fl l : Rat)).num := by
          unfold topD
          split
          · exact ⟨trivial, by simp [gapOk], n4⟩
          · rename_i hne
            have hpos : 0 < l - (fl l : Rat) := by grind
            obtain ⟨un, ud⟩ := inv_nd hpos
            refine ⟨⟨by rw [un, ld]; exact sl.d, sl.d.le (by omega)⟩, ?_, by show (((1 / (l - (fl l : Rat)) : Rat).den : Nat) : Int) ≤ _; omega⟩
            rw [gap_iff]
            rcases gap_iff.mp g with h | ⟨h, a1, a2⟩
            · left
              refine Rat.not_le.mp fun z => ?_
              have := (inv_le (inv_p hpos) hvp).mp z
              rw [inv_inv hpos] at this
              grind
            · right
              subst h
              exact ⟨rfl, a2, a1⟩
        obtain ⟨g3, g4, g5⟩ := g2
        obtain ⟨fs, x, t⟩ := ih (1 / (v - (fl l : Rat))) ui (topD (fl l : Rat) l) li (by simp only [cD] at hm; omega) (Rat.le_of_lt (inv_p hvp)) sz1 g3 g4
        exact ⟨_, _, .more h0 sl su g b hvf t⟩
/-- it lies between, and is small -/
theorem sim_in {s : Nat} {l : Rat} {li : Bool} {u : Option Rat} {ui : Bool} {fs : List Int} {x : Rat} (h : Sim s l li u ui fs x) : (u = none → l.den = 1 ∨ True) →
    above (ups fs x) (some l) li = true ∧ below (ups fs x) u ui = true ∧ 0 ≤ ups fs x ∧ (ups fs x).num ≤ l.num + cN u ∧ ((ups fs x).den : Int) ≤ l.den + cD u := by
  induction h with
  | @done l li u ui h0 sl su g b =>
    intro _
    have hf := fl_le l
    have hl1 := lt_fl l
    have hd := den_pos l
    have hw : ((whl l li : Int) : Rat) = (fl l : Rat) ∨ ((whl l li : Int) : Rat) = (fl l : Rat) + 1 := by
      unfold whl; split
      · right; simp
      · left; rfl
    have f0 := fl_nn h0
    have ab : above ((whl l li : Int) : Rat) (some l) li = true := by
      show (decide _ || (decide _ && li)) = true
      unfold whl
      by_cases c : l.den ≠ 1 ∨ li = false
      · rw [if_pos c]
        rw [decide_eq_true (show l < ((fl l + 1 : Int) : Rat) by simpa using hl1)]; rfl
      · rw [if_neg c]
        have d1 : l.den = 1 := Decidable.byContradiction fun z => c (.inl z)
        have li1 : li = true := by cases li with | true => rfl | false => exact absurd (.inr rfl) c
        have hlf : ((fl l : Int) : Rat) = l := by
          unfold fl; rw [d1]
          simp
          exact eq_of_den1 d1
        rw [decide_eq_true hlf, li1]; simp
    refine ⟨ab, b, ?_, ?_, ?_⟩
    · show (0 : Rat) ≤ ((whl l li : Int) : Rat)
      have : (0 : Rat) ≤ ((fl l : Int) : Rat) := by exact_mod_cast Rat.intCast_nonneg.mpr f0
      rcases hw with e | e <;> rw [e] <;> grind
    · show ((whl l li : Int) : Rat).num ≤ _
      rw [Rat.num_intCast]
      have hfn : fl l ≤ l.num := by
        unfold fl
        exact Int.ediv_le_self _ (nn_num h0)
      have hw1 : whl l li ≤ fl l + 1 := by unfold whl; split <;> omega
      cases u with
      | none => simp only [cN]; omega
      | some v =>
        simp only [cN]
        -- v is at least the whole
        have hv : ((whl l li : Int) : Rat) ≤ v := by
          have : (decide (((whl l li : Int) : Rat) < v) || (decide (((whl l li : Int) : Rat) = v) && ui)) = true := b
          rw [Bool.or_eq_true, Bool.and_eq_true, decide_eq_true_eq, decide_eq_true_eq] at this
          rcases this with h | ⟨h, _⟩
          · exact Rat.le_of_lt h
          · rw [h]; exact Rat.le_refl
        by_cases c : whl l li = fl l
        · have : (0 : Rat) ≤ v := Rat.le_trans (by rw [c]; exact Rat.intCast_nonneg.mpr f0) hv
          have := nn_num this
          omega
        · have c' : whl l li = fl l + 1 := by unfold whl at c ⊢; split at c <;> simp_all
          have : (0 : Rat) < v := by
            have h1 : (0 : Rat) < ((whl l li : Int) : Rat) := by
              rw [c']
              exact Rat.intCast_pos.mpr (by omega)
            grind
          have := pos_num this
          omega
    · show (((whl l li : Int) : Rat).den : Int) ≤ _
      rw [Rat.den_intCast]
      cases u with
      | none => simp only [cD]; omega
      | some v => have := den_pos v; simp only [cD]; omega
  | @more l v li ui fs x h0 sl su g b hv t ih =>
    intro _
    obtain ⟨i1, i2, i3, i4, i5⟩ := ih (fun _ => .inr trivial)
    have hf := fl_le l
    have hd := den_pos l
    have f0 := fl_nn h0
    have hvp : 0 < v - (fl l : Rat) := by grind
    obtain ⟨vn, vd⟩ := sub_int_nd v (fl l)
    obtain ⟨ln, ld⟩ := sub_int_nd l (fl l)
    obtain ⟨rn, rd⟩ := inv_nd hvp
    have hlp : 0 ≤ l - (fl l : Rat) := by grind
    have i1' : 1 / (v - (fl l : Rat)) < ups fs x ∨ (ups fs x = 1 / (v - (fl l : Rat)) ∧ ui = true) := by
      have : (decide (1 / (v - (fl l : Rat)) < ups fs x) || (decide (ups fs x = 1 / (v - (fl l : Rat))) && ui)) = true := i1
      rw [Bool.or_eq_true, Bool.and_eq_true, decide_eq_true_eq, decide_eq_true_eq] at this
      exact this
    have xp : 0 < ups fs x := by
      have := inv_p hvp
      rcases i1' with h | ⟨h, _⟩
      · grind
      · rw [h]; exact this
    have yp := inv_p xp
    obtain ⟨xn, xd⟩ := inv_nd xp
    obtain ⟨an, ad⟩ := add_int_nd (1 / ups fs x) (fl l)
    have ev : 1 / (1 / (v - (fl l : Rat))) = v - (fl l : Rat) := inv_inv hvp
    show above ((fl l : Rat) + 1 / ups fs x) (some l) li = true ∧ below ((fl l : Rat) + 1 / ups fs x) (some v) ui = true ∧ 0 ≤ (fl l : Rat) + 1 / ups fs x ∧ ((fl l : Rat) + 1 / ups fs x).num ≤ _ ∧ ((((fl l : Rat) + 1 / ups fs x).den : Nat) : Int) ≤ _
    refine ⟨?_, ?_, ?_, ?_, ?_⟩
    · show (decide _ || (decide _ && li)) = true
      rw [Bool.or_eq_true, Bool.and_eq_true, decide_eq_true_eq, decide_eq_true_eq]
      unfold topD at i2
      split at i2
      · left
        rename_i e
        grind
      · rename_i hne
        have hpos : 0 < l - (fl l : Rat) := by grind
        have i2' : (decide (ups fs x < 1 / (l - (fl l : Rat))) || (decide (ups fs x = 1 / (l - (fl l : Rat))) && li)) = true := i2
        rw [Bool.or_eq_true, Bool.and_eq_true, decide_eq_true_eq, decide_eq_true_eq] at i2'
        rcases i2' with h | ⟨h, a⟩
        · left
          have : l - (fl l : Rat) < 1 / ups fs x := by
            refine Rat.not_le.mp fun z => ?_
            have := (inv_le yp hpos |>.mpr · ) |> fun k => (inv_le hpos yp)
            have k := (inv_le (inv_p xp) (inv_p hpos)).mp (by rw [inv_inv hpos]; exact z)
            rw [inv_inv xp] at k
            grind
          grind
        · right
          refine ⟨?_, a⟩
          rw [h, inv_inv hpos]
          grind
    · show (decide _ || (decide _ && ui)) = true
      rw [Bool.or_eq_true, Bool.and_eq_true, decide_eq_true_eq, decide_eq_true_eq]
      rcases i1' with h | ⟨h, a⟩
      · left
        have : 1 / ups fs x < v - (fl l : Rat) := by
          refine Rat.not_le.mp fun z => ?_
          have k := (inv_le hvp xp).mp z
          grind
        grind
      · right
        refine ⟨?_, a⟩
        rw [h, ev]
        grind
    · have : (0 : Rat) ≤ ((fl l : Int) : Rat) := Rat.intCast_nonneg.mpr f0
      grind
    · rw [an, xn, xd]
      simp only [cN]
      rw [rn, vd] at i4
      have k4 : (1 / (v - (fl l : Rat))).den = (v.num - fl l * v.den) := by rw [rd, vn]
      rw [k4] at i5
      have hfn : fl l * (ups fs x).num ≤ fl l * (v.den + cN (topD (fl l : Rat) l)) := Int.mul_le_mul_of_nonneg_left i4 f0
      have key : fl l * cN (topD (fl l : Rat) l) + cD (topD (fl l : Rat) l) ≤ l.num := by
        unfold topD
        split
        · rename_i e
          simp only [cN, cD]
          have : (l - (fl l : Rat)).num = 0 := by rw [e]; rfl
          rw [ln] at this
          have h1 : fl l * 1 ≤ fl l * (l.den : Int) := Int.mul_le_mul_of_nonneg_left (by omega) f0
          omega
        · rename_i hne
          have hpos : 0 < l - (fl l : Rat) := by grind
          obtain ⟨un, ud⟩ := inv_nd hpos
          simp only [cN, cD]
          rw [un, ud, ln, ld]
          omega
      rw [Int.mul_add] at hfn
      omega
    · rw [ad, xd]
      simp only [cD]
      rw [rn, vd] at i4
      have : cN (topD (fl l : Rat) l) ≤ l.den := by
        unfold topD
        split
        · simp only [cN]; omega
        · rename_i hne
          have hpos : 0 < l - (fl l : Rat) := by grind
          obtain ⟨un, ud⟩ := inv_nd hpos
          simp only [cN]
          rw [un, ld]
          omega
      omega
end LP
set_option maxRecDepth 100000
set_option maxHeartbeats 2000000
/-! Fw5: deep == and !=, in, lists that grow, +, *, dicts, sorted, int, min. -/
namespace LP
open PySem PySem.Spec PyProof.Rows L2

/-! ### data as the model's data -/
mutual
def D.py : D → PyData
  | .non => .none
  | .bl b => .bool b
  | .int i => .int i
  | .str x => .str x
  | .tup ds => .tuple (D.pys ds)
  | .lst ds => .list (D.pys ds)
  | .ro ds => .list (D.pys ds)
  | .obj _ => .none
  | .e0 => .none
def D.pys : List D → List PyData
  | [] => []
  | d :: ds => d.py :: D.pys ds
end
mutual
/-- tuples of ints, texts, none; n bounds the nesting -/
def D.sm : Nat → D → Bool
  | _, .non => true
  | _, .int _ => true
  | _, .str _ => true
  | n + 1, .tup ds => D.sms n ds
  | _, _ => false
def D.sms : Nat → List D → Bool
  | _, [] => true
  | n, d :: ds => D.sm n d && D.sms n ds
end
mutual
theorem sm_eqv : ∀ (n m : Nat) (d e : D), d.sm n = true → e.sm m = true → (PyData.eqv d.py e.py = true ↔ d = e)
  | _, _, .non, .non, _, _ => by simp [D.py, PyData.eqv]
  | _, _, .non, .int _, _, _ => by simp [D.py, PyData.eqv]
  | _, _, .non, .str _, _, _ => by simp [D.py, PyData.eqv]
  | _, _, .non, .tup _, _, _ => by simp [D.py, PyData.eqv]
  | _, _, .int _, .non, _, _ => by simp [D.py, PyData.eqv]
  | _, _, .int _, .int _, _, _ => by simp [D.py, PyData.eqv]
  | _, _, .int _, .str _, _, _ => by simp [D.py, PyData.eqv]
  | _, _, .int _, .tup _, _, _ => by simp [D.py, PyData.eqv]
  | _, _, .str _, .non, _, _ => by simp [D.py, PyData.eqv]
  | _, _, .str _, .int _, _, _ => by simp [D.py, PyData.eqv]
  | _, _, .str _, .str _, _, _ => by simp [D.py, PyData.eqv]
  | _, _, .str _, .tup _, _, _ => by simp [D.py, PyData.eqv]
  | _, _, .tup _, .non, _, _ => by simp [D.py, PyData.eqv]
  | _, _, .tup _, .int _, _, _ => by simp [D.py, PyData.eqv]
  | _, _, .tup _, .str _, _, _ => by simp [D.py, PyData.eqv]
  | n + 1, m + 1, .tup ds, .tup es, h, g => by
    rw [D.py, D.py, PyData.eqv, sms_eqv n m ds es h g]
    simp
theorem sms_eqv : ∀ (n m : Nat) (d e : List D), D.sms n d = true → D.sms m e = true → (PyData.eqvAll (D.pys d) (D.pys e) = true ↔ d = e)
  | _, _, [], [], _, _ => by simp [D.pys, PyData.eqvAll]
  | _, _, [], _ :: _, _, _ => by simp [D.pys, PyData.eqvAll]
  | _, _, _ :: _, [], _, _ => by simp [D.pys, PyData.eqvAll]
  | n, m, d :: ds, e :: es, h, g => by
    rw [D.sms, Bool.and_eq_true] at h g
    rw [D.pys, D.pys, PyData.eqvAll, Bool.and_eq_true, sm_eqv n m d e h.1 g.1, sms_eqv n m ds es h.2 g.2]
    simp
end
mutual
theorem sm_plain : ∀ (n : Nat) (d : D), d.sm n = true → d.py.plain = true ∧ d.py.depth ≤ n
  | _, .non, _ => by simp [D.py, PyData.plain, PyData.depth]
  | _, .int _, _ => by simp [D.py, PyData.plain, PyData.depth]
  | _, .str _, _ => by simp [D.py, PyData.plain, PyData.depth]
  | n + 1, .tup ds, h => by
    obtain ⟨h1, h2⟩ := sms_plain n ds h
    rw [D.py, PyData.plain, PyData.depth]
    exact ⟨h1, by omega⟩
theorem sms_plain : ∀ (n : Nat) (d : List D), D.sms n d = true → PyData.plainAll (D.pys d) = true ∧ PyData.depthAll (D.pys d) ≤ n
  | _, [], _ => by simp [D.pys, PyData.plainAll, PyData.depthAll]
  | n, d :: ds, h => by
    rw [D.sms, Bool.and_eq_true] at h
    obtain ⟨h1, h2⟩ := sm_plain n d h.1
    obtain ⟨h3, h4⟩ := sms_plain n ds h.2
    rw [D.pys, PyData.plainAll, PyData.depthAll, h1, h3]
    exact ⟨rfl, by omega⟩
end
mutual
theorem sm_dp {K : PySem.W.Frag} {H0 H : Hp} : ∀ (n : Nat) (d : D) (v : V), d.sm n = true → IsV K H0 H v d → Dp K H v d.py
  | _, .non, _, _, h => by cases h; exact .non
  | _, .int _, _, _, h => by cases h; exact .int _
  | _, .str _, _, _, h => by cases h; exact .str _
  | n + 1, .tup ds, v, f, h => by
    obtain ⟨a, vs, rfl, hs, hv⟩ := h
    exact .tup hs (sms_dp n ds vs f hv)
theorem sms_dp {K : PySem.W.Frag} {H0 H : Hp} : ∀ (n : Nat) (d : List D) (v : List V), D.sms n d = true → IsVs K H0 H v d → DpAll K H v (D.pys d)
  | _, [], _, _, h => by cases h; exact .nil
  | n, d :: ds, vs, f, h => by
    obtain ⟨v, r, rfl, h1, h2⟩ := h
    rw [D.sms, Bool.and_eq_true] at f
    exact .cons (sm_dp n d v f.1 h1) (sms_dp n ds r f.2 h2)
end
theorem sms_all (n : Nat) : ∀ (ds : List D), (∀ d ∈ ds, d.sm n = true) → D.sms n ds = true
  | [], _ => by simp [D.sms]
  | d :: ds, h => by
    rw [D.sms, h d (List.mem_cons_self ..), sms_all n ds fun e he => h e (List.mem_cons_of_mem _ he)]
    rfl
section
variable {X : Cx} {H0 : Hp} {ρ : Rho} {δ : Del} {e a b c o : Expr} {es : List Expr} {pos p apos : Pos} {P : Post}
theorem bool_of_iff {a b : Bool} {p : Prop} (h : a = true ↔ p) (g : b = true ↔ p) : a = b := by
  cases a <;> cases b <;> simp_all
theorem opw_eqT {d e : D} {k : Bool} {R : D → Prop} (hu : X.A.units + 64 < cLine) (hk : k = true ↔ d = e) (r : R (.bl k)) (hd : d.sm 8 = true := by rfl) (he : e.sm 8 = true := by rfl) : OpW X H0 ρ (compareOp .Eq) d e R := fun H x y F ix iy Q q pins s σ v u I rx ry => by
  obtain ⟨as, r1⟩ := Dp.reads I d.py x v (sm_dp 8 d x hd ix) rx
  obtain ⟨bs, r2⟩ := Dp.reads I e.py y u (sm_dp 8 e y he iy) ry
  obtain ⟨p1, d1⟩ := sm_plain 8 d hd
  obtain ⟨p2, d2⟩ := sm_plain 8 e he
  refine SeqAt.eq_plain r1 r2 p1 p2 (by omega) ⟨.bl k, H, I, ?_, q _ H _ r (.refl H) rfl⟩
  rw [bool_of_iff (sm_eqv 8 8 d e hd he) hk]
  exact rfl
theorem opw_neT {d e : D} {k : Bool} {R : D → Prop} (hu : X.A.units + 64 < cLine) (hk : k = true ↔ d = e) (r : R (.bl (!k))) (hd : d.sm 8 = true := by rfl) (he : e.sm 8 = true := by rfl) : OpW X H0 ρ (compareOp .NotEq) d e R := fun H x y F ix iy Q q pins s σ v u I rx ry => by
  obtain ⟨as, r1⟩ := Dp.reads I d.py x v (sm_dp 8 d x hd ix) rx
  obtain ⟨bs, r2⟩ := Dp.reads I e.py y u (sm_dp 8 e y he iy) ry
  obtain ⟨p1, d1⟩ := sm_plain 8 d hd
  obtain ⟨p2, d2⟩ := sm_plain 8 e he
  refine SeqAt.ne_plain r1 r2 p1 p2 (by omega) ⟨.bl (!k), H, I, ?_, q _ H _ r (.refl H) rfl⟩
  rw [bool_of_iff (sm_eqv 8 8 d e hd he) hk]
  exact rfl
theorem anyp {d : D} : ∀ (xs : List D), (∀ x ∈ xs, x.sm 8 = true) → d.sm 8 = true → ((D.pys xs).any (fun y => PyData.eqv y d.py) = true ↔ d ∈ xs)
  | [], _, _ => by simp [D.pys]
  | x :: xs, h, hd => by
    rw [D.pys, List.any_cons, Bool.or_eq_true, sm_eqv 8 8 x d (h x (List.mem_cons_self ..)) hd, anyp xs (fun y hy => h y (List.mem_cons_of_mem _ hy)) hd, List.mem_cons]
    exact ⟨fun z => z.imp (fun q => q.symm) id, fun z => z.imp (fun q => q.symm) id⟩
theorem opw_inT {d e : D} {xs : List D} {k : Bool} {R : D → Prop} (hu : X.A.units + 64 < cLine) (hs : SeqD ρ e xs) (hk : k = true ↔ d ∈ xs) (r : R (.bl k)) (hx : ∀ x ∈ xs, x.sm 8 = true) (hd : d.sm 8 = true := by rfl) : OpW X H0 ρ (compareOp .In) d e R := fun H x y F ix iy Q q pins s σ v u I rx ry => by
  obtain ⟨l, vs, rfl, hl, iv⟩ := hs.at_ F iy
  obtain ⟨as, r1⟩ := Dp.reads I d.py x v (sm_dp 8 d x hd ix) rx
  have hxs := sms_all 8 xs hx
  obtain ⟨p1, d1⟩ := sm_plain 8 d hd
  obtain ⟨p2, d2⟩ := sms_plain 8 xs hxs
  have dp := sms_dp 8 xs vs hxs iv
  have fin : RelV (.bl k) (.bool ((D.pys xs).any fun y => PyData.eqv y d.py)) := by
    rw [bool_of_iff (anyp xs hx hd) hk]
    exact rfl
  rcases hl with hl | hl
  · obtain ⟨bs, r2⟩ := Dp.reads I (.list (D.pys xs)) _ u (.lst hl dp) ry
    exact SeqAt.in_list_data r2 r1 p2 p1 (by omega) ⟨.bl k, H, I, fin, q _ H _ r (.refl H) rfl⟩
  · obtain ⟨bs, r2⟩ := Dp.reads I (.tuple (D.pys xs)) _ u (.tup hl dp) ry
    exact SeqAt.in_tuple_data r2 r1 p2 p1 (by omega) ⟨.bl k, H, I, fin, q _ H _ r (.refl H) rfl⟩
theorem opw_notInT {d e : D} {xs : List D} {k : Bool} {R : D → Prop} (hu : X.A.units + 64 < cLine) (hs : SeqD ρ e xs) (hk : k = true ↔ d ∈ xs) (r : R (.bl (!k))) (hx : ∀ x ∈ xs, x.sm 8 = true) (hd : d.sm 8 = true := by rfl) : OpW X H0 ρ (compareOp .NotIn) d e R := fun H x y F ix iy Q q pins s σ v u I rx ry => by
  obtain ⟨l, vs, rfl, hl, iv⟩ := hs.at_ F iy
  obtain ⟨as, r1⟩ := Dp.reads I d.py x v (sm_dp 8 d x hd ix) rx
  have hxs := sms_all 8 xs hx
  obtain ⟨p1, d1⟩ := sm_plain 8 d hd
  obtain ⟨p2, d2⟩ := sms_plain 8 xs hxs
  have dp := sms_dp 8 xs vs hxs iv
  have fin : RelV (.bl (!k)) (.bool (!(D.pys xs).any fun y => PyData.eqv y d.py)) := by
    rw [bool_of_iff (anyp xs hx hd) hk]
    exact rfl
  rcases hl with hl | hl
  · obtain ⟨bs, r2⟩ := Dp.reads I (.list (D.pys xs)) _ u (.lst hl dp) ry
    exact SeqAt.notIn_list_data r2 r1 p2 p1 (by omega) ⟨.bl (!k), H, I, fin, q _ H _ r (.refl H) rfl⟩
  · obtain ⟨bs, r2⟩ := Dp.reads I (.tuple (D.pys xs)) _ u (.tup hl dp) ry
    exact SeqAt.notIn_tuple_data r2 r1 p2 p1 (by omega) ⟨.bl (!k), H, I, fin, q _ H _ r (.refl H) rfl⟩
/-- in a list of truth values -/
theorem isVs_bl {K : PySem.W.Frag} {H : Hp} : ∀ {bs : List Bool} {vs : List V}, IsVs K H0 H vs (bs.map D.bl) → vs = bs.map V.bl
  | [], _, h => h
  | b :: bs, vs, h => by
    obtain ⟨v, r, rfl, h1, h2⟩ := h
    cases h1
    rw [isVs_bl h2]
    rfl
theorem inV_bl (k : Bool) : ∀ bs : List Bool, inV (.bl k) (bs.map V.bl) = bs.contains k
  | [] => rfl
  | b :: bs => by
    have := inV_bl k bs
    rw [inV] at this
    rw [inV, List.map_cons, List.any_cons, this, List.contains_cons, eqV, Bool.beq_comm]
theorem all_bl : ∀ bs : List Bool, (bs.map V.bl).all flatV = true
  | [] => rfl
  | b :: bs => by rw [List.map_cons, List.all_cons, all_bl bs]; rfl
theorem opw_inB {e : D} {bs : List Bool} {k : Bool} {R : D → Prop} (hs : SeqD ρ e (bs.map .bl)) (r : R (.bl (bs.contains k))) : OpW X H0 ρ (compareOp .In) (.bl k) e R := opw_of op_in_seq fun H x y F ix iy Q q => by
  obtain ⟨l, vs, rfl, hl, iv⟩ := hs.at_ F iy
  cases ix
  cases isVs_bl iv
  exact ⟨l, _, rfl, hl, rfl, all_bl bs, q _ H _ r (.refl H) (by show V.bl (inV _ _) = V.bl _; rw [inV_bl])⟩
theorem opw_notInB {e : D} {bs : List Bool} {k : Bool} {R : D → Prop} (hs : SeqD ρ e (bs.map .bl)) (r : R (.bl (!bs.contains k))) : OpW X H0 ρ (compareOp .NotIn) (.bl k) e R := opw_of op_notIn_seq fun H x y F ix iy Q q => by
  obtain ⟨l, vs, rfl, hl, iv⟩ := hs.at_ F iy
  cases ix
  cases isVs_bl iv
  exact ⟨l, _, rfl, hl, rfl, all_bl bs, q _ H _ r (.refl H) (by show V.bl (!inV _ _) = V.bl _; rw [inV_bl])⟩
/-- in of a new list: the list is made behind the other operand -/
theorem w_cmpL {op : CmpOp} {R : D → Prop} (h : W X H0 ρ δ a fun da => WL X H0 ρ δ b fun xs => ∀ q, ρ q = none → OpW X H0 (put ρ q (.L xs)) (compareOp op) da (.obj q) R) (hm : behindInMarks op b = false := by first | exact nomark _ | with_unfolding_all rfl) : W X H0 ρ δ (.Compare a [op] [b] pos) R :=
  w_of (pe_cmpR op_F pe_E pe_E hm) fun σ H F S Q q => h σ H F S _ fun x H1 da wb e1 ix => wb σ H1 (F.step e1) (S.step e1) _ fun l H2 xs ow hn e2 oa =>
    ow l ((F.step e1).free hn) H2 x (.ref l) (((F.step e1).step e2).new (F.ex.free (e1.free hn)) oa) (ix.mono (.refl _) e2.tk) rfl Q fun v H' d r e3 iv => q v H' d r ((e1.trans e2).trans e3) iv
theorem wt_cmpL {op : CmpOp} {R : Bool → Prop} (h : W X H0 ρ δ a fun da => WL X H0 ρ δ b fun xs => ∀ q, ρ q = none → OpW X H0 (put ρ q (.L xs)) (compareOp op) da (.obj q) fun d => ∃ k, d = .bl k ∧ R k) (hm : behindInMarks op b = false := by first | exact nomark _ | with_unfolding_all rfl) : WT X H0 ρ δ (.Compare a [op] [b] pos) R :=
  wt_of (pt_cmpR op_F pe_E pe_E hm) fun σ H F S Q q => h σ H F S _ fun x H1 da wb e1 ix => wb σ H1 (F.step e1) (S.step e1) _ fun l H2 xs ow hn e2 oa =>
    ow l ((F.step e1).free hn) H2 x (.ref l) (((F.step e1).step e2).new (F.ex.free (e1.free hn)) oa) (ix.mono (.refl _) e2.tk) rfl _ fun v H' d ⟨k, ed, r⟩ e3 iv => by
      subst ed
      exact ⟨k, iv, q k H' r ((e1.trans e2).trans e3)⟩

/-! ### lists -/
theorem ty_lst {K : PySem.W.Frag} {H : Hp} {q : Addr} {vs : List V} (h : H q = some (.lst vs)) : tyV K "list" (.ref q) H := Or.inl ⟨rfl, _, Or.inl (Or.inl h)⟩
/-- x.append(e) -/
theorem s_append {m : List D} {q : Addr} (ho : W X H0 ρ δ o (· = .obj q)) (hq : ρ q = some (.L m)) (h : W X H0 ρ δ e fun d => m.length < sizeLine ∧ P.nx (put ρ q (.L (m ++ [d]))) δ)
    (hs : starEach [e] X.env = (false, eval e X.env) :: starEach [] X.env := by rfl)
    (hbase : attributeBase o "append" X.env (eval o X.env) = eval o X.env := by rfl)
    (hfew : ((backTo p (starEach [e] X.env)).all (fun x => !x.1) && (backToKw p (keywordEach [] X.env)).all (fun x => x.1.isSome)
      && decide ([e].length + ([] : List Keyword).length + (if ([] : List Keyword).isEmpty then 0 else 1) < 30)) = true := by rfl)
    (hline : (apos.endLine == p.line) = true := by rfl)
    (hsw : swapsWith (.Call (.Attribute o "append" apos) [e] [] p) none pos.line X.env = pure false := by rfl) : S1 X H0 ρ δ (.Expr (.Call (.Attribute o "append" apos) [e] [] p) pos) P :=
  fun σ H F S Dn od => S_of (ps_expr (pe_bm PySem.F.plainAttrs_list PySem.F.slot_list_append PySem.F.type_list_append mt_append pe_E (pa_cons pe_E pa_nil hs) hbase hfew hline hs rfl) hsw) (ho σ H F S _ fun v H1 d1 e0 e1 ix => by
    subst e0
    cases ix
    obtain ⟨us, hu, iu⟩ := ((F.step e1).own q _ hq).2
    refine ⟨ty_lst hu, h σ H1 (F.step e1) (S.step e1) _ fun v H2 d ⟨hl, r⟩ e2 iv => ?_⟩
    have F2 := (F.step e1).step e2
    have S2 := (S.step e1).step e2
    have hu2 := e2.get hu (fun _ z => by cases z)
    have iu2 := iu.mono (.refl _) e2.tk
    refine ⟨q, us, v, rfl, rfl, hu2, by rw [iu2.len]; exact hl, ?_⟩
    obtain ⟨F3, tk⟩ := F2.upd (o' := .L (m ++ [d])) (u := .lst (us ++ [v])) hq (ntup_lst hu2) ⟨_, upd_same, (IsVs.append iu2 (.one iv)).mono (.refl _) (TK.mut (.refl _) (ntup_lst hu2))⟩
    exact od.nx _ _ _ _ r F3 (S2.tk tk) ((e1.trans e2).tk.trans tk))
/-- x.extend(new list) -/
theorem s_extend {m : List D} {q : Addr} (ho : W X H0 ρ δ o (· = .obj q)) (hq : ρ q = some (.L m)) (h : WL X H0 ρ δ e fun xs => m.length + xs.length ≤ sizeLine ∧ P.nx (put ρ q (.L (m ++ xs))) δ)
    (hs : starEach [e] X.env = (false, eval e X.env) :: starEach [] X.env := by rfl)
    (hbase : attributeBase o "extend" X.env (eval o X.env) = eval o X.env := by rfl)
    (hfew : ((backTo p (starEach [e] X.env)).all (fun x => !x.1) && (backToKw p (keywordEach [] X.env)).all (fun x => x.1.isSome)
      && decide ([e].length + ([] : List Keyword).length + (if ([] : List Keyword).isEmpty then 0 else 1) < 30)) = true := by rfl)
    (hline : (apos.endLine == p.line) = true := by rfl)
    (hsw : swapsWith (.Call (.Attribute o "extend" apos) [e] [] p) none pos.line X.env = pure false := by rfl) : S1 X H0 ρ δ (.Expr (.Call (.Attribute o "extend" apos) [e] [] p) pos) P :=
  fun σ H F S Dn od => S_of (ps_expr (pe_bm PySem.F.plainAttrs_list PySem.F.slot_list_extend PySem.F.type_list_extend mt_extend pe_E (pa_cons pe_E pa_nil hs) hbase hfew hline hs rfl) hsw) (ho σ H F S _ fun v H1 d1 e0 e1 ix => by
    subst e0
    cases ix
    obtain ⟨us, hu, iu⟩ := ((F.step e1).own q _ hq).2
    refine ⟨ty_lst hu, h σ H1 (F.step e1) (S.step e1) _ fun l H2 xs ⟨hl, r⟩ hn e2 ⟨ws, hw, iw⟩ => ?_⟩
    have F2 := (F.step e1).step e2
    have S2 := (S.step e1).step e2
    have hu2 := e2.get hu (fun _ z => by cases z)
    have iu2 := iu.mono (.refl _) e2.tk
    refine ⟨q, l, us, ws, rfl, rfl, hu2, hw, by rw [iu2.len, iw.len]; exact hl, ?_⟩
    obtain ⟨F3, tk⟩ := F2.upd (o' := .L (m ++ xs)) (u := .lst (us ++ ws)) hq (ntup_lst hu2) ⟨_, upd_same, (IsVs.append iu2 iw).mono (.refl _) (TK.mut (.refl _) (ntup_lst hu2))⟩
    exact od.nx _ _ _ _ r F3 (S2.tk tk) ((e1.trans e2).tk.trans tk))
/-- a list that + takes -/
def LstD (ρ : Rho) (d : D) (xs : List D) : Prop := d = .lst xs ∨ ∃ q, d = .obj q ∧ ρ q = some (.L xs)
theorem LstD.at_ {K : PySem.W.Frag} {H : Hp} {v : V} {d : D} {xs : List D} (s : LstD ρ d xs) (F : Fr K H0 H ρ) (h : IsV K H0 H v d) : ∃ a vs, v = .ref a ∧ H a = some (.lst vs) ∧ IsVs K H0 H vs xs := by
  rcases s with rfl | ⟨q, rfl, hq⟩
  · obtain ⟨a, vs, rfl, h1, h2⟩ := h
    exact ⟨a, vs, rfl, F.ex.get h1 (fun _ z => by cases z), h2⟩
  · cases h
    obtain ⟨vs, h1, h2⟩ := (F.own q _ hq).2
    exact ⟨q, vs, rfl, h1, h2⟩
theorem wl_cat {R : List D → Prop} (h : W X H0 ρ δ a fun d => ∃ xs, LstD ρ d xs ∧ W X H0 ρ δ b fun d' => ∃ ys, LstD ρ d' ys ∧ xs.length + ys.length ≤ sizeLine ∧ R (xs ++ ys)) : WL X H0 ρ δ (.BinOp a .Add b pos) R :=
  fun σ H F S Q q => E_of (pe_op op_cat pe_E pe_E) (h σ H F S _ fun x H1 d ⟨xs, ld, wb⟩ e1 ix => wb σ H1 (F.step e1) (S.step e1) _ fun y H2 d' ⟨ys, ld', hl, r⟩ e2 iy => by
    have F2 := (F.step e1).step e2
    obtain ⟨l, us, rfl, hu, iu⟩ := ld.at_ F2 (ix.mono (.refl _) e2.tk)
    obtain ⟨l', ws, rfl, hw, iw⟩ := ld'.at_ F2 iy
    exact ⟨l, l', us, ws, rfl, rfl, hu, hw, by rw [iu.len, iw.len]; exact hl, fun t ht => q _ _ _ r ((e1.trans e2).free ht) ((e1.trans e2).trans (.new ht)) ⟨_, upd_same, (IsVs.append iu iw).mono (.refl _) (Ex.new ht).tk⟩⟩)
theorem wl_catL {R : List D → Prop} (h : W X H0 ρ δ a fun d => ∃ xs, LstD ρ d xs ∧ WL X H0 ρ δ b fun ys => xs.length + ys.length ≤ sizeLine ∧ R (xs ++ ys)) : WL X H0 ρ δ (.BinOp a .Add b pos) R :=
  fun σ H F S Q q => E_of (pe_op op_cat pe_E pe_E) (h σ H F S _ fun x H1 d ⟨xs, ld, wb⟩ e1 ix => wb σ H1 (F.step e1) (S.step e1) _ fun l' H2 ys ⟨hl, r⟩ hn e2 ⟨ws, hw, iw⟩ => by
    have F2 := (F.step e1).step e2
    obtain ⟨l, us, rfl, hu, iu⟩ := ld.at_ F2 (ix.mono (.refl _) e2.tk)
    exact ⟨l, l', us, ws, rfl, rfl, hu, hw, by rw [iu.len, iw.len]; exact hl, fun t ht => q _ _ _ r ((e1.trans e2).free ht) ((e1.trans e2).trans (.new ht)) ⟨_, upd_same, (IsVs.append iu iw).mono (.refl _) (Ex.new ht).tk⟩⟩)
theorem isVs_rep {K : PySem.W.Frag} {H : Hp} {vs : List V} {ds : List D} (h : IsVs K H0 H vs ds) : ∀ n : Nat, IsVs K H0 H (List.replicate n vs).flatten (List.replicate n ds).flatten
  | 0 => rfl
  | n + 1 => by
    rw [List.replicate_succ, List.replicate_succ, List.flatten_cons, List.flatten_cons]
    exact IsVs.append h (isVs_rep h n)
theorem wl_rep {R : List D → Prop} (h : WL X H0 ρ δ a fun xs => W X H0 ρ δ b fun d => ∃ n : Nat, d = .int (n : Int) ∧ (n : Int) < 2 ^ 62 ∧ xs.length * n ≤ sizeLine ∧ R (List.replicate n xs).flatten) : WL X H0 ρ δ (.BinOp a .Mult b pos) R :=
  fun σ H F S Q q => E_of (pe_op op_rep pe_E pe_E) (h σ H F S _ fun l H1 xs wb hn e1 oa => wb σ H1 (F.step e1) (S.step e1) _ fun y H2 d ⟨n, ed, h1, h2, r⟩ e2 iy => by
    subst ed
    cases iy
    obtain ⟨us, hu, iu⟩ := oa.ex e2
    refine ⟨l, (n : Int), us, rfl, rfl, hu, by omega, by omega, by rw [iu.len]; simpa using h2, fun t ht => q _ _ _ r ((e1.trans e2).free ht) ((e1.trans e2).trans (.new ht)) ⟨_, upd_same, ?_⟩⟩
    exact (isVs_rep iu n).mono (.refl _) (Ex.new ht).tk)
/-- tuple + tuple -/
theorem opw_catT {xs ys : List D} {R : D → Prop} (hl : xs.length + ys.length ≤ sizeLine) (r : R (.tup (xs ++ ys))) : OpW X H0 ρ (binaryOp .Add) (.tup xs) (.tup ys) R := opw_of op_catA fun H x y F ix iy Q q => by
  obtain ⟨a, vs, rfl, h1, i1⟩ := ix
  obtain ⟨b, ws, rfl, h2, i2⟩ := iy
  refine ⟨a, b, vs, ws, rfl, rfl, h1, h2, by rw [i1.len, i2.len]; exact hl, fun e => ?_, fun _ e => ?_, fun _ _ t ht => ?_⟩
  · have : xs = [] := List.eq_nil_of_length_eq_zero (by rw [← i1.len, e]; rfl)
    subst this
    exact q _ H _ r (.refl H) ⟨b, ws, rfl, h2, i2⟩
  · have : ys = [] := List.eq_nil_of_length_eq_zero (by rw [← i2.len, e]; rfl)
    subst this
    rw [List.append_nil] at r
    exact q _ H _ r (.refl H) ⟨a, vs, rfl, h1, i1⟩
  · exact q _ _ _ r (.new ht) ⟨t, _, rfl, .of upd_same, (IsVs.append i1 i2).mono (.refl _) (Ex.new ht).tk⟩
/-- [..][i] of a new list -/
theorem w_ixL {R : D → Prop} (h : WL X H0 ρ δ a fun xs => W X H0 ρ δ b fun db => ∃ (n : Nat) (d : D), db = .int (n : Int) ∧ xs[n]? = some d ∧ R d) (hs : PlainIx b := by intro _ _; rfl) : W X H0 ρ δ (.Subscript a b pos) R :=
  w_of (pe_ix ix_seq pe_E pe_E hs) fun σ H F S Q q => h σ H F S _ fun l H1 xs wb hn e1 oa => wb σ H1 (F.step e1) (S.step e1) _ fun y H2 db ⟨n, d, eb, en, r⟩ e2 iy => by
    subst eb
    cases iy
    obtain ⟨us, hu, iu⟩ := oa.ex e2
    obtain ⟨v, ev, iv⟩ := iu.atI en
    exact .inl ⟨l, us, (n : Int), v, rfl, rfl, .of hu, ev, q v H2 d r (e1.trans e2) iv⟩
theorem w_int1 {R : D → Prop} (h : W X H0 ρ δ e fun d => ∃ i, d = .int i ∧ R (.int i)) (hm : X.mg "int" = none) (hg : Gl X "int" := by rfl)
    (he : starEach [e] X.env = (false, eval e X.env) :: starEach [] X.env := by rfl) : W X H0 ρ δ (.Call (.Name "int" p) [e] [] pos) R :=
  w_of (pe_callTy call_int1 hg hm (by decide +kernel) (pa_cons pe_E pa_nil he) (by decide) (by decide) he rfl) fun σ H F S Q q => h σ H F S _ fun v H1 d ⟨i, ed, r⟩ e1 iv => by
    subst ed
    exact .inl ⟨i, by rw [show v = .int i from iv], q _ H1 _ r e1 rfl⟩
theorem w_min {R : D → Prop} (hc : X.calm = true) (h : W X H0 ρ δ a fun d => ∃ i, d = .int i ∧ W X H0 ρ δ b fun d' => ∃ j, d' = .int j ∧ R (.int (if j < i then j else i))) (hm : X.mg "min" = none) (hg : Gl X "min" := by rfl)
    (he : starEach [a, b] X.env = (false, eval a X.env) :: starEach [b] X.env := by rfl) (he2 : starEach [b] X.env = (false, eval b X.env) :: starEach [] X.env := by rfl) (hpl : (backTo pos (starEach [b] X.env)).any (·.1) = false := by rfl) : W X H0 ρ δ (.Call (.Name "min" p) [a, b] [] pos) R :=
  w_of (pe_callB (call_min2 hc) hg hm (by decide +kernel) (pa_cons pe_E (pa_cons pe_E pa_nil he2) he) (by decide) (by decide) he hpl) fun σ H F S Q q => h σ H F S _ fun v H1 d ⟨i, ed, wb⟩ e1 iv => wb σ H1 (F.step e1) (S.step e1) _ fun v2 H2 d2 ⟨j, ed2, r⟩ e2 iv2 => by
    subst ed ed2
    cases iv; cases iv2
    exact ⟨i, j, rfl, q _ H2 _ r (e1.trans e2) rfl⟩
end
end LP
set_option maxRecDepth 100000
set_option maxHeartbeats 2000000
/-! Fw6: dicts. -/
namespace LP
open PySem PySem.Spec PyProof.Rows L2

abbrev KD' := List (Key × D)
def valD (kvs : KD') (k : Key) : Option D := (kvs.find? fun kv => decide (kv.1 = k)).map (·.2)
def putD (kvs : KD') (k : Key) (v : D) : KD' :=
  if (kvs.any fun kv => decide (kv.1 = k)) = true then kvs.map (fun kv => if kv.1 = k then (kv.1, v) else kv) else kvs ++ [(k, v)]
section
variable {K : PySem.W.Frag} {H0 H : Hp}
theorem kvs_val {k : Key} : ∀ {kws : List (Key × V)} {kvs : KD'}, KVs K H0 H kws kvs → (valV kws k = none ∧ valD kvs k = none) ∨ ∃ v d, valV kws k = some v ∧ valD kvs k = some d ∧ IsV K H0 H v d
  | _, _, .nil => .inl ⟨rfl, rfl⟩
  | p :: ps, q :: qs, .cons h t => by
    by_cases e : q.1 = k
    · refine .inr ⟨p.2, q.2, ?_, ?_, h.2⟩
      · simp [valV, List.find?_cons, h.1, e]
      · simp [valD, List.find?_cons, e]
    · have := kvs_val (k := k) t
      rw [valV, valD, List.find?_cons, List.find?_cons, decide_eq_false e, decide_eq_false (show ¬ p.1 = k by rw [h.1]; exact e)]
      exact this
theorem kvs_any {k : Key} : ∀ {kws : List (Key × V)} {kvs : KD'}, KVs K H0 H kws kvs → (kws.any fun kv => decide (kv.1 = k)) = (kvs.any fun kv => decide (kv.1 = k))
  | _, _, .nil => rfl
  | p :: ps, q :: qs, .cons h t => by rw [List.any_cons, List.any_cons, h.1, kvs_any t]
theorem kvs_map {k : Key} {v : V} {d : D} (i : IsV K H0 H v d) : ∀ {kws : List (Key × V)} {kvs : KD'}, KVs K H0 H kws kvs → KVs K H0 H (kws.map fun kv => if kv.1 = k then (kv.1, v) else kv) (kvs.map fun kv => if kv.1 = k then (kv.1, d) else kv)
  | _, _, .nil => .nil
  | p :: ps, q :: qs, .cons h t => by
    refine .cons ?_ (kvs_map i t)
    by_cases e : q.1 = k
    · have e' : p.1 = k := h.1.trans e
      simp only [e, e', if_true]
      exact ⟨trivial, i⟩
    · have e' : ¬ p.1 = k := fun z => e (h.1.symm.trans z)
      simp only [e, e', if_false]
      exact h
theorem kvs_app : ∀ {a : List (Key × V)} {b : KD'} {a' : List (Key × V)} {b' : KD'}, KVs K H0 H a b → KVs K H0 H a' b' → KVs K H0 H (a ++ a') (b ++ b')
  | _, _, _, _, .nil, g => g
  | _, _, _, _, .cons h t, g => .cons h (kvs_app t g)
theorem kvs_put {k : Key} {v : V} {d : D} {kws : List (Key × V)} {kvs : KD'} (h : KVs K H0 H kws kvs) (i : IsV K H0 H v d) : KVs K H0 H (putK kws k v) (putD kvs k d) := by
  unfold putK putD
  rw [kvs_any h]
  split
  · exact kvs_map i h
  · exact kvs_app h (.cons ⟨rfl, i⟩ .nil)
theorem kvs_len : ∀ {kws : List (Key × V)} {kvs : KD'}, KVs K H0 H kws kvs → kws.length = kvs.length
  | _, _, .nil => rfl
  | _, _, .cons _ t => by rw [List.length_cons, List.length_cons, kvs_len t]
theorem kvs_keys : ∀ {kws : List (Key × V)} {kvs : KD'}, KVs K H0 H kws kvs → kws.map (·.1) = kvs.map (·.1)
  | _, _, .nil => rfl
  | _, _, .cons h t => by rw [List.map_cons, List.map_cons, kvs_keys t, h.1]
end
theorem valD_put (kvs : KD') (k j : Key) (y : D) : valD (putD kvs k y) j = if j = k then some y else valD kvs j := by
  have hmap : ∀ kvs : KD', valD (kvs.map fun kv => if kv.1 = k then (kv.1, y) else kv) j = (valD kvs j).map fun x => if j = k then y else x := by
    intro kvs
    induction kvs with
    | nil => rfl
    | cons p r ih =>
      rw [List.map_cons]
      by_cases e : p.1 = k
      · rw [if_pos e]
        by_cases e2 : p.1 = j
        · simp [valD, List.find?_cons, e2, ← e]
        · have : valD ((p.1, y) :: (r.map fun kv => if kv.1 = k then (kv.1, y) else kv)) j = valD (r.map fun kv => if kv.1 = k then (kv.1, y) else kv) j := by
            simp [valD, List.find?_cons, e2]
          rw [this, ih]
          simp [valD, List.find?_cons, e2]
      · rw [if_neg e]
        by_cases e2 : p.1 = j
        · subst e2
          simp [valD, List.find?_cons, e]
        · have : valD (p :: (r.map fun kv => if kv.1 = k then (kv.1, y) else kv)) j = valD (r.map fun kv => if kv.1 = k then (kv.1, y) else kv) j := by
            simp [valD, List.find?_cons, e2]
          rw [this, ih]
          simp [valD, List.find?_cons, e2]
  have hany : ∀ kvs : KD', (kvs.any fun kv => decide (kv.1 = k)) = (valD kvs k).isSome := by
    intro kvs
    induction kvs with
    | nil => rfl
    | cons p r ih =>
      rw [List.any_cons, ih]
      by_cases e : p.1 = k
      · simp [valD, List.find?_cons, e]
      · simp [valD, List.find?_cons, e]
  have happ : ∀ kvs : KD', valD kvs k = none → valD (kvs ++ [(k, y)]) j = if j = k then some y else valD kvs j := by
    intro kvs
    induction kvs with
    | nil =>
      intro _
      by_cases e : k = j
      · simp [valD, List.find?_cons, e]
      · simp [valD, List.find?_cons, e, Ne.symm e]
    | cons p r ih =>
      intro h
      by_cases e : p.1 = k
      · simp [valD, List.find?_cons, e] at h
      · have hr : valD r k = none := by simpa [valD, List.find?_cons, e] using h
        by_cases e2 : p.1 = j
        · subst e2
          simp [valD, List.find?_cons, e]
        · have := ih hr
          simp only [valD, List.cons_append, List.find?_cons, e2, decide_false] at this ⊢
          simpa using this
  unfold putD
  rw [hany]
  cases hv : valD kvs k with
  | none =>
    rw [if_neg (by simp)]
    exact happ kvs hv
  | some x =>
    rw [if_pos (by simp), hmap]
    by_cases e : j = k
    · subst e
      rw [hv]
      simp
    · rw [if_neg e]
      cases valD kvs j <;> simp [e]
theorem valD_nil (k : Key) : valD [] k = none := rfl
theorem putD_keys (kvs : KD') (k : Key) (y : D) : (k ∈ kvs.map (·.1) ∧ (putD kvs k y).map (·.1) = kvs.map (·.1)) ∨ (k ∉ kvs.map (·.1) ∧ (putD kvs k y).map (·.1) = kvs.map (·.1) ++ [k]) := by
  have hany : (kvs.any fun kv => decide (kv.1 = k)) = true ↔ k ∈ kvs.map (·.1) := by
    rw [List.any_eq_true, List.mem_map]
    exact ⟨fun ⟨p, h1, h2⟩ => ⟨p, h1, of_decide_eq_true h2⟩, fun ⟨p, h1, h2⟩ => ⟨p, h1, decide_eq_true h2⟩⟩
  unfold putD
  by_cases h : (kvs.any fun kv => decide (kv.1 = k)) = true
  · rw [if_pos h, List.map_map]
    refine .inl ⟨hany.mp h, ?_⟩
    apply List.map_congr_left
    intro p _
    show (if p.1 = k then (p.1, y) else p).1 = p.1
    split <;> rfl
  · rw [if_neg h, List.map_append]
    exact .inr ⟨fun z => h (hany.mpr z), rfl⟩
theorem putD_len (kvs : KD') (k : Key) (y : D) : (putD kvs k y).length ≤ kvs.length + 1 := by
  rcases putD_keys kvs k y with ⟨_, h⟩ | ⟨_, h⟩
  · have := congrArg List.length h
    rw [List.length_map, List.length_map] at this
    omega
  · have := congrArg List.length h
    rw [List.length_map, List.length_append, List.length_map] at this
    simp at this
    omega
/-- the datum as a key -/
def KeyD (d : D) (k : Key) : Prop := match k with
  | .inl i => d = .int i
  | .inr x => d = .str x
theorem KeyD.at_ {K : PySem.W.Frag} {H0 H : Hp} {d : D} {k : Key} {v : V} (h : KeyD d k) (i : IsV K H0 H v d) : v = kV k := by
  cases k with
  | inl j => cases h; exact i
  | inr x => cases h; exact i

section
variable {X : Cx} {H0 : Hp} {ρ : Rho} {δ : Del} {e a b c o f : Expr} {es : List Expr} {pos pos' p apos : Pos} {P : Post}
/-- x = {} -/
theorem s_setM (i : Nat) {x : Str} {kp : Pos} (h : ∀ q, ρ q = none → P.nx (put ρ q (.M [])) (δ.set i (some (.obj q)))) (hN : X.N.Nodup) (hi : X.N[i]? = some x := by rfl) (hx : Loc X.env.scope x := by first | exact Or.inl rfl | exact Or.inr rfl)
    (hs : swapsWith (.Dict [] [] kp) (some (.Name x pos')) pos.line X.env = pure false := by rfl) (hf : X.fn x = true ∨ X.env.scope.names.lookup x = some .local := by first | exact .inl rfl | exact .inr rfl) : S1 X H0 ρ δ (.Assign [.Name x pos'] (.Dict [] [] kp) pos) P :=
  fun σ H F S Dn od => S_of (ps_set hN hi hx pe_dnewK hs hf) (show ∀ q, H q = none → _ from fun q hq =>
    od.nx _ _ _ _ (h q (F.free hq)) ((F.step (.new hq)).new (F.ex.free hq) ⟨[], upd_same, .nil⟩) ((S.step (.new hq)).set rfl) (Ex.new hq).tk)
/-- x[k] = v -/
theorem s_dput {kvs : KD'} {q : Addr} {k : Key} (hu : X.A.units + 64 < cLine) (hv : W X H0 ρ δ e fun d => P.nx (put ρ q (.M (putD kvs k d))) δ) (ho : W X H0 ρ δ o (· = .obj q)) (hq : ρ q = some (.M kvs)) (hl : kvs.length < sizeLine) (hk : W X H0 ρ δ b fun d => KeyD d k)
    (hs : swapsWith e (some (.Subscript o b pos')) pos.line X.env = pure false := by rfl) : S1 X H0 ρ δ (.Assign [.Subscript o b pos'] e pos) P :=
  fun σ H F S Dn od => S_of (ps_dput (by omega) pe_E pe_E pe_E hs) (hv σ H F S _ fun v H1 d r e1 iv => ho σ H1 (F.step e1) (S.step e1) _ fun x H2 d2 ed2 e2 ix => by
    subst ed2
    cases ix
    refine hk σ H2 ((F.step e1).step e2) ((S.step e1).step e2) _ fun y H3 d3 kd e3 iy => ?_
    have F3 := ((F.step e1).step e2).step e3
    have S3 := ((S.step e1).step e2).step e3
    obtain ⟨kws, hw, kr⟩ := (F3.own q _ hq).2
    have hy := kd.at_ iy
    subst hy
    refine ⟨q, _, rfl, DPut.k hw (by rw [kvs_len kr]; exact hl), ?_⟩
    have iv3 := (iv.mono (.refl _) e2.tk).mono (.refl _) e3.tk
    obtain ⟨F4, tk⟩ := F3.upd (o' := .M (putD kvs k d)) (u := .dK (putK kws k v)) hq (ntup_dK hw) ⟨_, upd_same, (kvs_put kr iv3).mono (TK.mut (.refl _) (ntup_dK hw))⟩
    exact od.nx _ _ _ _ r F4 (S3.tk tk) (((e1.trans e2).trans e3).tk.trans tk))
/-- x[k], there -/
theorem w_dget {kvs : KD'} {q : Addr} {k : Key} {R : D → Prop} (hu : X.A.units + 64 < cLine) (ho : W X H0 ρ δ o (· = .obj q)) (hq : ρ q = some (.M kvs)) (hk : W X H0 ρ δ b fun d => KeyD d k) {d : D} (hd : valD kvs k = some d) (r : R d) (hs : NoSl b := by intro _ _; rfl) : W X H0 ρ δ (.Subscript o b pos) R :=
  w_of (pe_dget (by omega) pe_E pe_E hs) fun σ H F S Q qq => ho σ H F S _ fun x H1 d1 ed e1 ix => by
    subst ed
    cases ix
    refine hk σ H1 (F.step e1) (S.step e1) _ fun y H2 d2 kd e2 iy => ?_
    obtain ⟨kws, hw, kr⟩ := (((F.step e1).step e2).own q _ hq).2
    have hy := kd.at_ iy
    subst hy
    rcases kvs_val (k := k) kr with ⟨_, h2⟩ | ⟨v, d', h1, h2, iv⟩
    · rw [hd] at h2; cases h2
    · rw [hd] at h2
      cases h2
      exact ⟨q, v, rfl, by rw [← h1]; exact DGet.k hw, qq v H2 d r (e1.trans e2) iv⟩
/-- x.get(k, y) -/
theorem w_dget2 {kvs : KD'} {q : Addr} {k : Key} {dy : D} {R : D → Prop} (hu : X.A.units + 64 < cLine) (ho : W X H0 ρ δ o (· = .obj q)) (hq : ρ q = some (.M kvs)) (hk : W X H0 ρ δ b fun d => KeyD d k) (hy : W X H0 ρ δ c (· = dy)) {dz : D} (hz : (valD kvs k).getD dy = dz) (r : R dz)
    (hbase : attributeBase o "get" X.env (eval o X.env) = eval o X.env := by rfl)
    (hfew : ((backTo p (starEach [b, c] X.env)).all (fun x => !x.1) && (backToKw p (keywordEach [] X.env)).all (fun x => x.1.isSome)
    && decide (([b, c] : List Expr).length + ([] : List Keyword).length + (if ([] : List Keyword).isEmpty then 0 else 1) < 30)) = true := by rfl)
    (hline : (apos.endLine == p.line) = true := by rfl)
    (htrees : backTo p (starEach [b, c] X.env) = [(false, eval b X.env), (false, eval c X.env)] := by rfl) : W X H0 ρ δ (.Call (.Attribute o "get" apos) [b, c] [] p) R :=
  w_of (pe_dget2 (by omega) pe_E pe_E pe_E ⟨hbase, hfew, hline, htrees⟩) fun σ H F S Q qq => ho σ H F S _ fun x H1 d1 ed e1 ix => by
    subst ed
    cases ix
    obtain ⟨kw1, hw1, _⟩ := ((F.step e1).own q _ hq).2
    refine ⟨q, rfl, .inl ⟨_, .inl hw1⟩, hk σ H1 (F.step e1) (S.step e1) _ fun y H2 d2 kd e2 iy => hy σ H2 ((F.step e1).step e2) ((S.step e1).step e2) _ fun z H3 d3 ed3 e3 iz => ?_⟩
    subst ed3
    obtain ⟨kws, hw, kr⟩ := ((((F.step e1).step e2).step e3).own q _ hq).2
    have hy := kd.at_ iy
    subst hy
    subst hz
    refine ⟨_, DGet.k hw, ?_⟩
    rcases kvs_val (k := k) kr with ⟨h1, h2⟩ | ⟨v, d', h1, h2, iv⟩
    · rw [h1]
      rw [h2] at r
      exact qq z H3 _ r ((e1.trans e2).trans e3) iz
    · rw [h1]
      rw [h2] at r
      exact qq v H3 d' r ((e1.trans e2).trans e3) iv
/-- sorted(x) of a dict -/
theorem wl_sortedS {kvs : KD'} {q : Addr} {ks : List Str} {R : List D → Prop} (hc : X.calm = true) (ho : W X H0 ρ δ e (· = .obj q)) (hq : ρ q = some (.M kvs)) (hks : kvs.map (·.1) = ks.map Sum.inr) (hl : ks.length < 64)
    (r : ∀ ys : List Str, ys.Perm ks → sortedS ys = true → R (ys.map .str)) (hm : X.mg "sorted" = none) (hg : Gl X "sorted" := by rfl)
    (he : starEach [e] X.env = (false, eval e X.env) :: starEach [] X.env := by rfl) : WL X H0 ρ δ (.Call (.Name "sorted" p) [e] [] pos) R :=
  fun σ H F S Q qq => E_of (pe_callB (call_sortedD hc) hg hm (by decide +kernel) (pa_cons pe_E pa_nil he) (by decide) (by decide) he rfl) (ho σ H F S _ fun v H1 d ed e1 iv => by
    subst ed
    cases iv
    obtain ⟨kws, hw, kr⟩ := ((F.step e1).own q _ hq).2
    refine ⟨q, kws, ks, rfl, .inl hw, (kvs_keys kr).trans hks, hl, fun ys t h1 h2 ht => qq _ _ _ (r ys h1 h2) (e1.free ht) (e1.trans (.new ht)) ⟨_, upd_same, ?_⟩⟩
    have : ∀ (ys : List Str) (H : Hp), IsVs X.K H0 H (ys.map V.str) (ys.map D.str) := fun ys H => by
      induction ys with
      | nil => rfl
      | cons y ys ih => exact ⟨_, _, rfl, rfl, ih⟩
    exact this _ _)
theorem isVs_ints {K : PySem.W.Frag} {H : Hp} : ∀ (ys : List Int), IsVs K H0 H (ys.map V.int) (ys.map D.int)
  | [] => rfl
  | _ :: ys => ⟨_, _, rfl, rfl, isVs_ints ys⟩
theorem isVs_strs {K : PySem.W.Frag} {H : Hp} : ∀ (ys : List Str), IsVs K H0 H (ys.map V.str) (ys.map D.str)
  | [] => rfl
  | _ :: ys => ⟨_, _, rfl, rfl, isVs_strs ys⟩
theorem wl_sortedI {kvs : KD'} {q : Addr} {ks : List Int} {R : List D → Prop} (hc : X.calm = true) (ho : W X H0 ρ δ e (· = .obj q)) (hq : ρ q = some (.M kvs)) (hks : kvs.map (·.1) = ks.map Sum.inl) (hl : ks.length < 64)
    (r : ∀ ys : List Int, ys.Perm ks → ys.Pairwise (· ≤ ·) → R (ys.map .int)) (hm : X.mg "sorted" = none) (hg : Gl X "sorted" := by rfl)
    (he : starEach [e] X.env = (false, eval e X.env) :: starEach [] X.env := by rfl) : WL X H0 ρ δ (.Call (.Name "sorted" p) [e] [] pos) R :=
  fun σ H F S Q qq => E_of (pe_callB (call_sortedDI hc) hg hm (by decide +kernel) (pa_cons pe_E pa_nil he) (by decide) (by decide) he rfl) (ho σ H F S _ fun v H1 d ed e1 iv => by
    subst ed
    cases iv
    obtain ⟨kws, hw, kr⟩ := ((F.step e1).own q _ hq).2
    exact ⟨q, kws, ks, rfl, .inl hw, (kvs_keys kr).trans hks, hl, fun ys t h1 h2 ht => qq _ _ _ (r ys h1 h2) (e1.free ht) (e1.trans (.new ht)) ⟨_, upd_same, isVs_ints ys⟩⟩)
/-! ### dict(list of pairs) -/
def mergeD (kvs more : KD') : KD' := more.foldl (fun acc kv => putD acc kv.1 kv.2) kvs
theorem kvs_merge {K : PySem.W.Frag} {H : Hp} : ∀ {m : List (Key × V)} {m' : KD'} {k : List (Key × V)} {k' : KD'}, KVs K H0 H m m' → KVs K H0 H k k' → KVs K H0 H (mergeK k m) (mergeD k' m')
  | _, _, _, _, .nil, g => g
  | p :: ps, q :: qs, k, k', .cons h t, g => by
    show KVs K H0 H (mergeK (putK k p.1 p.2) ps) (mergeD (putD k' q.1 q.2) qs)
    refine kvs_merge t ?_
    rw [h.1]
    exact kvs_put g h.2
theorem pairs_at {K : PySem.W.Frag} {H : Hp} : ∀ {kvs : KD'} {vs : List V}, IsVs K H0 H vs (kvs.map fun kv => .tup [match kv.1 with | .inl i => .int i | .inr x => .str x, kv.2]) →
    ∃ (ps : List Addr) (kws : List (Key × V)), vs = ps.map V.ref ∧ Paired (fun p kv => SqT K H p [kV kv.1, kv.2]) ps kws ∧ KVs K H0 H kws kvs
  | [], _, h => by cases h; exact ⟨[], [], rfl, .nil, .nil⟩
  | kv :: kvs, vs, h => by
    obtain ⟨v, r, rfl, ⟨a, us, rfl, sq, x, r1, rfl, i1, y, r2, rfl, i2, rfl⟩, h2⟩ := h
    obtain ⟨ps, kws, rfl, h3, h4⟩ := pairs_at h2
    refine ⟨a :: ps, (kv.1, y) :: kws, rfl, .cons ?_ h3, .cons ⟨rfl, i2⟩ h4⟩
    obtain ⟨k, d⟩ := kv
    cases k with
    | inl j => cases i1; exact sq
    | inr j => cases i1; exact sq
/-- a list that is read -/
def SeqDL (ρ : Rho) (d : D) (xs : List D) : Prop := match d with
  | .lst ys => xs = ys
  | .ro ys => xs = ys
  | .obj p => ρ p = some (.L xs)
  | _ => False
theorem SeqDL.at_ {K : PySem.W.Frag} {H : Hp} {v : V} {d : D} {xs : List D} (s : SeqDL ρ d xs) (F : Fr K H0 H ρ) (h : IsV K H0 H v d) : ∃ a vs, v = .ref a ∧ SqL K H a vs ∧ IsVs K H0 H vs xs := by
  cases d with
  | lst ys => cases s; obtain ⟨a, vs, e, h1, h2⟩ := h; exact ⟨a, vs, e, F.ex.seq (.of h1), h2⟩
  | ro ys => cases s; obtain ⟨a, vs, e, h1, h2⟩ := h; exact ⟨a, vs, e, F.ex.seq h1, h2⟩
  | obj p => obtain ⟨vs, h1, h2⟩ := (F.own p _ s).2; exact ⟨p, vs, h, .of h1, h2⟩
  | _ => exact s.elim
theorem s_setMP (i : Nat) {x : Str} {px : Pos} {kvs : KD'} (hc : X.calm = true) (h : W X H0 ρ δ e fun d => SeqDL ρ d (kvs.map fun kv => .tup [match kv.1 with | .inl i => .int i | .inr x => .str x, kv.2]))
    (k : ∀ q, ρ q = none → P.nx (put ρ q (.M (mergeD [] kvs))) (δ.set i (some (.obj q)))) (hm : X.mg "dict" = none) (hN : X.N.Nodup) (hg : Gl X "dict" := by rfl) (hi : X.N[i]? = some x := by rfl) (hx : Loc X.env.scope x := by first | exact Or.inl rfl | exact Or.inr rfl)
    (he : starEach [e] X.env = (false, eval e X.env) :: starEach [] X.env := by rfl)
    (hs : swapsWith (.Call (.Name "dict" p) [e] [] pos') (some (.Name x px)) pos.line X.env = pure false := by rfl) (hf : X.fn x = true ∨ X.env.scope.names.lookup x = some .local := by first | exact .inl rfl | exact .inr rfl) : S1 X H0 ρ δ (.Assign [.Name x px] (.Call (.Name "dict" p) [e] [] pos') pos) P :=
  fun σ H F S Dn od => S_of (ps_set hN hi hx (pe_callTy (call_dictP hc) hg hm (by decide +kernel) (pa_cons pe_E pa_nil he) (by decide) (by decide) he rfl) hs hf) (h σ H F S _ fun v H1 d sd e1 iv => by
    obtain ⟨l, vs, rfl, hl, iv⟩ := sd.at_ (F.step e1) iv
    obtain ⟨ps, kws, rfl, h3, h4⟩ := pairs_at iv
    exact ⟨l, ps, kws, rfl, hl, h3, fun q hq => od.nx _ _ _ _ (k q (F.free (e1.free hq))) (((F.step e1).step (.new hq)).new (F.ex.free (e1.free hq)) ⟨_, upd_same, (kvs_merge h4 .nil).mono (Ex.new hq).tk⟩) (((S.step e1).step (.new hq)).set rfl) (e1.trans (.new hq)).tk⟩)
end
end LP
set_option maxRecDepth 100000
set_option maxHeartbeats 2000000
/-! Fw7: comprehensions with side conditions seen by the machine; joins. -/
namespace LP
open PySem PySem.Spec PyProof.Rows L2
def blkB (N : List Str) (sc scope : Scope) (own : List (Str × Nat)) : Bool :=
  decide (scope.kind = .function) && scope.names.all (fun y => decide (scope.names.lookup y.1 = some y.2)) && own.all (fun p => decide (N[p.2]? = some p.1))
  && scope.names.all (fun y => !decide (y.2 = .free) || (decide (sc.names.lookup y.1 = some .cell) || decide (sc.names.lookup y.1 = some .free)))
  && scope.names.all (fun y => !(decide (y.2 = .local) || decide (y.2 = .cell)) || (decide (y.1 ∈ own.map (·.1)) || decide (y.1 ∉ N)))
theorem blk_of {N : List Str} {sc scope : Scope} {own : List (Str × Nat)} (h : blkB N sc scope own = true) : BlkOk N sc scope own := by
  unfold blkB at h
  simp only [Bool.and_eq_true, List.all_eq_true, decide_eq_true_eq, Bool.or_eq_true, Bool.not_eq_true', decide_eq_false_iff_not] at h
  obtain ⟨⟨⟨⟨h1, h2⟩, h3⟩, h4⟩, h5⟩ := h
  refine ⟨h1, h2, h3, fun y hy e => (h4 y hy).resolve_left fun z => z e, fun y hy e => ?_⟩
  rcases h5 y hy with z | z
  · exfalso
    have : (decide (y.2 = .local) || decide (y.2 = .cell)) = true := by
      rcases e with e | e
      · rw [decide_eq_true e]; rfl
      · rw [decide_eq_true e, Bool.or_true]
    rw [this] at z
    cases z
  · exact z
section
variable {X : Cx} {H0 : Hp} {ρ : Rho} {δ : Del} {elt tg iter : Expr} {ifs : List Expr} {scope : Scope} {own : List (Str × Nat)} {pos p : Pos} {α : Type}
/-- a comprehension seen through: what it makes -/
def LC (X : Cx) (H0 : Hp) (ρ : Rho) (δ : Del) (elt tg iter : Expr) (ifs : List Expr) (scope : Scope) (R : List D → Prop) : Prop :=
  ∃ (g : TG) (tt : TT) (te : TE) (own : List (Str × Nat)), (Blk X scope fun Y => PG Y tg g) ∧ (Blk X scope fun Y => PTs Y ifs tt) ∧ (Blk X scope fun Y => PE Y elt te) ∧ BlkOk X.N X.env.scope scope own ∧ (∀ x, foldedSetIterable iter X.env x = pure x) ∧
    ∀ σ H, Fr X.K H0 H ρ → Sl X.K H0 H σ δ → ∀ Q : VK, (∀ p H' ds, R ds → H p = none → Ex H H' → OwnAt X.K H0 H' p (.L ds) → Q (.ref p) H') → tLc (tI X tg iter) g tt te (own.map (·.2)) σ H Q
theorem LC.wl {R : List D → Prop} (h : LC X H0 ρ δ elt tg iter ifs scope R) (hN : X.N.Nodup) (hc : X.calm = true := by rfl) : WL X H0 ρ δ (.ListComp elt [⟨tg, iter, ifs, 0⟩] scope pos) R := by
  obtain ⟨g, tt, te, own, hg, ht, he, ok, hs, k⟩ := h
  exact fun σ H F S Q q => E_of (pe_lc hc hN pi_I ok hg ht he hs) (k σ H F S Q q)
/-- x = [..] -/
theorem LC.set (i : Nat) {y : Str} {py spos : Pos} {P : Post} (hN : X.N.Nodup) (h : LC X H0 ρ δ elt tg iter ifs scope fun xs => ∀ p, ρ p = none → P.nx (put ρ p (.L xs)) (δ.set i (some (.obj p)))) (hc : X.calm = true := by rfl) (hy : X.N[i]? = some y := by rfl) (hyl : X.env.scope.names.lookup y = some .local := by rfl)
    (hsw : swapsWith (.ListComp elt [⟨tg, iter, ifs, 0⟩] scope pos) (some (.Name y py)) spos.line X.env = pure true := by rfl) : S1 X H0 ρ δ (.Assign [.Name y py] (.ListComp elt [⟨tg, iter, ifs, 0⟩] scope pos) spos) P := by
  obtain ⟨g, tt, te, own, hg, ht, he, ok, hs, k⟩ := h
  exact fun σ H F S Dn od => S_of (ps_setLc hc hN hy hyl hsw pi_I ok hg ht he hs) (k σ H F S _ fun a H1 xs r hn e1 oa => od.nx _ _ _ _ (r a (F.free hn)) ((F.step e1).new (F.ex.free hn) oa) ((S.step e1).set rfl) e1.tk)
theorem lc_core {g : TG} {tt : TT} (hg : Blk X scope fun Y => PG Y tg g) (ht : Blk X scope fun Y => PTs Y ifs tt) (δ2 : α → Del) {R : List D → Prop}
    (h : WIt X H0 ρ δ tg iter fun ρ' ds cl => ds.length ≤ sizeLine ∧ ∃ (as : List α) (gg f : α → D) (b : α → Bool), ds = as.map gg ∧ (∀ a ∈ as,
      (∀ σ H v, Sl X.K H0 H σ δ → IsV X.K H0 H v (gg a) → ∀ Q : L2.St → Hp → Prop, (∀ σ2, Sl X.K H0 H σ2 (δ2 a) → wipe σ2 (own.map (·.2)) = wipe σ (own.map (·.2)) → Q σ2 H) → g v (wipe σ (own.map (·.2))) H Q) ∧
      (∀ σ H, Fr X.K H0 H ρ' → Sl X.K H0 H σ (δ2 a) → ∀ Q : Bool → Hp → Prop, (∀ H', Ex H H' → Q (b a) H') → tt σ H Q) ∧
      (b a = true → Blk X scope fun Y => W Y H0 ρ' (δ2 a) elt (· = f a))) ∧ R ((as.filter b).map f))
    (ok : BlkOk X.N X.env.scope scope own) (hs : ∀ x, foldedSetIterable iter X.env x = pure x) :
    LC X H0 ρ δ elt tg iter ifs scope R := by
  let te : TE := fun σ H Q => Blk X scope fun Y => tE Y elt σ H Q
  have he : Blk X scope fun Y => PE Y elt te := fun s H C cl fp => ⟨fun pins s' σ' H' Q' I h' => h' s H C cl fp pins s' I⟩
  refine ⟨g, tt, te, own, hg, ht, he, ok, hs, fun σ H F S Q q => ?_⟩
  refine h σ H F S _ fun J H1 ρ1 ds cl G r F1 e1 w g1 c keep => ?_
  obtain ⟨hlen, as, gg, f, b, rfl, each, r⟩ := r
  rw [List.length_map] at hlen
  intro A hA
  refine ⟨fun i m H' => m = as.length - i ∧ i ≤ as.length ∧ Ex H1 H' ∧ ∃ acc, H' A = some (.lst acc) ∧ acc.length ≤ i ∧ IsVs X.K H0 H' acc (((as.take i).filter b).map f),
    ⟨as.length, by simp, Nat.zero_le _, .new hA, [], upd_same, Nat.le_refl _, by simp [IsVs]⟩, ?_⟩
  rintro i m H2 ⟨rfl, hi, e2, acc, ha, hal, iacc⟩
  have F2 := F1.step e2
  have g2 := keep H1 H2 ρ1 g1 e2.tk F2 c
  by_cases hlt : i < as.length
  · refine .inr ⟨w.go i H2 g2 (by rw [List.length_map]; exact hlt), fun H' => Ex H1 H' ∧ ∃ acc, H' A = some (.lst acc) ∧ acc.length ≤ i + 1 ∧ IsVs X.K H0 H' acc (((as.take (i + 1)).filter b).map f),
      fun H' hr => ⟨as.length - (i + 1), by omega, rfl, hlt, hr⟩, fun x H3 y => ?_⟩
    have hd : (as.map gg)[i]? = some (gg as[i]) := by rw [List.getElem?_map, List.getElem?_eq_getElem hlt]; rfl
    obtain ⟨e3, ix⟩ := w.yld i H2 x H3 g2 y _ hd
    obtain ⟨h1, h2, h3⟩ := each _ (List.getElem_mem hlt)
    have F3 := F2.step e3
    have S3 := ((S.step e1).step e2).step e3
    have etake : as.take (i + 1) = as.take i ++ [as[i]] := by rw [List.take_append_getElem hlt]
    refine h1 σ H3 x S3 ix _ fun σ4 S4 hw => ⟨hw, h2 σ4 H3 F3 S4 _ fun H4 e4 => ?_⟩
    have e24 := e3.trans e4
    cases hb : b as[i] with
    | false =>
      refine iteF ⟨e2.trans e24, acc, e24.get ha (fun _ z => by cases z), by omega, ?_⟩
      rw [etake, List.filter_append, List.filter_cons, hb]
      simpa using iacc.mono (.refl _) e24.tk
    | true =>
      refine iteT fun s Hb C cl' fp => ?_
      refine h3 hb s Hb C cl' fp σ4 H4 (F3.step e4) (S4.step e4) _ fun v H5 d ed e5 iv => ?_
      subst ed
      have e25 := e24.trans e5
      have ha5 := e25.get ha (fun _ z => by cases z)
      refine ⟨acc, ha5, by omega, (e2.trans e25).mut hA, acc ++ [v], upd_same, by rw [List.length_append]; simp; omega, ?_⟩
      rw [etake, List.filter_append, List.filter_cons, hb, List.map_append]
      have tk : TK H5 (upd H5 A (.lst (acc ++ [v]))) := TK.mut (.refl _) (ntup_lst ha5)
      simpa using IsVs.append ((iacc.mono (.refl _) e25.tk).mono (.refl _) tk) (.one (iv.mono (.refl _) tk))
  · have e : i = as.length := by omega
    subst e
    rw [List.take_length] at iacc
    have hst := w.stop H2 g2
    rw [List.length_map] at hst
    refine .inl ⟨hst, q A H2 _ r (e1.free hA) (e1.trans e2) ⟨acc, ha, iacc⟩⟩
/-- [elt for x in iter] -/
theorem lc1' (own : List (Str × Nat)) (i : Nat) {x : Str} {px : Pos} {R : List D → Prop} (hN : X.N.Nodup) (h : WIt X H0 ρ δ (.Name x px) iter fun ρ' ds cl => ds.length ≤ sizeLine ∧ ∃ (as : List α) (gg f : α → D), ds = as.map gg ∧
      (∀ a ∈ as, Blk X scope fun Y => W Y H0 ρ' ((wipeD δ (own.map (·.2))).set i (some (gg a))) elt (· = f a)) ∧ R (as.map f))
    (ok : blkB X.N X.env.scope scope own = true := by rfl) (hi : i ∈ own.map (·.2) := by decide)
    (hg : X.N.Nodup → Blk X scope fun Y => PG Y (.Name x px) (gName i) := by exact fun hN _ _ _ _ _ => pg_name hN rfl (by first | exact Or.inl rfl | exact Or.inr rfl) (by first | exact .inl rfl | exact .inr rfl))
    (hs : ∀ x, foldedSetIterable iter X.env x = pure x := by intro _; rfl) : LC X H0 ρ δ elt (.Name x px) iter [] scope R :=
  lc_core (α := D × D) (own := own) (hg hN) (fun _ _ _ _ _ => pts_nil) (fun d => (wipeD δ (own.map (·.2))).set i (some d.1)) (fun σ H F S Q q => h σ H F S Q fun J H' ρ' ds cl G r => q J H' ρ' ds cl G (by
    obtain ⟨hl, as, gg, f, rfl, each, r⟩ := r
    refine ⟨hl, as.map fun a => (gg a, f a), (·.1), (·.2), fun _ => true, by simp, fun d hd => ?_, ?_⟩
    · obtain ⟨a, ha, rfl⟩ := List.mem_map.mp hd
      exact ⟨fun σ H v S iv Q q => q _ ((S.wipe _).set iv) (wipe_set hi), fun σ H F S Q q => q H (.refl H), fun _ => each a ha⟩
    · rw [List.filter_eq_self.mpr fun _ _ => rfl]
      rw [List.map_map]
      exact r)) (blk_of ok) hs
theorem lc1 (own : List (Str × Nat)) (i : Nat) {x : Str} {px : Pos} {R : List D → Prop} (hN : X.N.Nodup) (h : WIt X H0 ρ δ (.Name x px) iter fun ρ' ds cl => ds.length ≤ sizeLine ∧ ∃ (as : List α) (gg f : α → D), ds = as.map gg ∧
      (∀ a ∈ as, Blk X scope fun Y => W Y H0 ρ' ((wipeD δ (own.map (·.2))).set i (some (gg a))) elt (· = f a)) ∧ R (as.map f))
    (hc : X.calm = true := by rfl) (ok : blkB X.N X.env.scope scope own = true := by rfl) (hi : i ∈ own.map (·.2) := by decide)
    (hg : X.N.Nodup → Blk X scope fun Y => PG Y (.Name x px) (gName i) := by exact fun hN _ _ _ _ _ => pg_name hN rfl (by first | exact Or.inl rfl | exact Or.inr rfl) (by first | exact .inl rfl | exact .inr rfl))
    (hs : ∀ x, foldedSetIterable iter X.env x = pure x := by intro _; rfl) : WL X H0 ρ δ (.ListComp elt [⟨.Name x px, iter, [], 0⟩] scope pos) R :=
  (lc1' own i hN h ok hi hg hs).wl hN hc
/-- [elt for x in iter if c] -/
theorem lcIf' (own : List (Str × Nat)) (i : Nat) {x : Str} {px : Pos} {c : Expr} {R : List D → Prop} (hN : X.N.Nodup) (h : WIt X H0 ρ δ (.Name x px) iter fun ρ' ds cl => ds.length ≤ sizeLine ∧ ∃ (as : List α) (gg f : α → D) (b : α → Bool), ds = as.map gg ∧
      (∀ a ∈ as, (Blk X scope fun Y => WT Y H0 ρ' ((wipeD δ (own.map (·.2))).set i (some (gg a))) c (· = b a)) ∧ (b a = true → Blk X scope fun Y => W Y H0 ρ' ((wipeD δ (own.map (·.2))).set i (some (gg a))) elt (· = f a))) ∧ R ((as.filter b).map f))
    (ok : blkB X.N X.env.scope scope own = true := by rfl) (hi : i ∈ own.map (·.2) := by decide)
    (hg : X.N.Nodup → Blk X scope fun Y => PG Y (.Name x px) (gName i) := by exact fun hN _ _ _ _ _ => pg_name hN rfl (by first | exact Or.inl rfl | exact Or.inr rfl) (by first | exact .inl rfl | exact .inr rfl))
    (hs : ∀ x, foldedSetIterable iter X.env x = pure x := by intro _; rfl) : LC X H0 ρ δ elt (.Name x px) iter [c] scope R :=
  lc_core (α := D × D × Bool) (own := own) (tt := fun σ H Q => Blk X scope fun Y => tT Y c σ H Q) (hg hN) (fun s H C cl fp => pts_one ⟨fun pins s' σ' H' Q' I h' => h' s H C cl fp pins s' I⟩) (fun d => (wipeD δ (own.map (·.2))).set i (some d.1)) (fun σ H F S Q q => h σ H F S Q fun J H' ρ' ds cl G r => q J H' ρ' ds cl G (by
    obtain ⟨hl, as, gg, f, b, rfl, each, r⟩ := r
    refine ⟨hl, as.map fun a => (gg a, f a, b a), (·.1), (·.2.1), (·.2.2), by simp, fun d hd => ?_, ?_⟩
    · obtain ⟨a, ha, rfl⟩ := List.mem_map.mp hd
      exact ⟨fun σ H v S iv Q q => q _ ((S.wipe _).set iv) (wipe_set hi), fun σ H F S Q q s Hb C cl fp => (each a ha).1 s Hb C cl fp σ H F S Q fun k H' ek e => by rw [ek]; exact q H' e, (each a ha).2⟩
    · rw [List.filter_map, List.map_map]
      exact r)) (blk_of ok) hs
theorem lcIf (own : List (Str × Nat)) (i : Nat) {x : Str} {px : Pos} {c : Expr} {R : List D → Prop} (hN : X.N.Nodup) (h : WIt X H0 ρ δ (.Name x px) iter fun ρ' ds cl => ds.length ≤ sizeLine ∧ ∃ (as : List α) (gg f : α → D) (b : α → Bool), ds = as.map gg ∧
      (∀ a ∈ as, (Blk X scope fun Y => WT Y H0 ρ' ((wipeD δ (own.map (·.2))).set i (some (gg a))) c (· = b a)) ∧ (b a = true → Blk X scope fun Y => W Y H0 ρ' ((wipeD δ (own.map (·.2))).set i (some (gg a))) elt (· = f a))) ∧ R ((as.filter b).map f))
    (hc : X.calm = true := by rfl) (ok : blkB X.N X.env.scope scope own = true := by rfl) (hi : i ∈ own.map (·.2) := by decide)
    (hg : X.N.Nodup → Blk X scope fun Y => PG Y (.Name x px) (gName i) := by exact fun hN _ _ _ _ _ => pg_name hN rfl (by first | exact Or.inl rfl | exact Or.inr rfl) (by first | exact .inl rfl | exact .inr rfl))
    (hs : ∀ x, foldedSetIterable iter X.env x = pure x := by intro _; rfl) : WL X H0 ρ δ (.ListComp elt [⟨.Name x px, iter, [c], 0⟩] scope pos) R :=
  (lcIf' own i hN h ok hi hg hs).wl hN hc
/-- [elt for x, y in iter] -/
theorem lc2' (own : List (Str × Nat)) (i j : Nat) {x y : Str} {px py pt : Pos} {k : Nat} {R : List D → Prop} (hN : X.N.Nodup) (h : WIt X H0 ρ δ (.Tuple [.Name x px, .Name y py] k pt) iter fun ρ' ds cl => ds.length ≤ sizeLine ∧ ∃ (as : List α) (g1 g2 f : α → D), ds = as.map (fun a => .tup [g1 a, g2 a]) ∧
      (∀ a ∈ as, Blk X scope fun Y => W Y H0 ρ' (((wipeD δ (own.map (·.2))).set i (some (g1 a))).set j (some (g2 a))) elt (· = f a)) ∧ R (as.map f))
    (ok : blkB X.N X.env.scope scope own = true := by rfl) (hi : i ∈ own.map (·.2) := by decide) (hj : j ∈ own.map (·.2) := by decide)
    (hg : X.N.Nodup → Blk X scope fun Y => PG Y (.Tuple [.Name x px, .Name y py] k pt) (gTup X.K 2 (gCons (gName i) (gCons (gName j) gNil))) := by
      exact fun hN _ _ _ _ _ => pg_tup rfl (pgs_cons (pg_name hN rfl (by first | exact Or.inl rfl | exact Or.inr rfl) (by first | exact .inl rfl | exact .inr rfl)) (pgs_cons (pg_name hN rfl (by first | exact Or.inl rfl | exact Or.inr rfl) (by first | exact .inl rfl | exact .inr rfl)) pgs_nil rfl) rfl) rfl rfl)
    (hs : ∀ x, foldedSetIterable iter X.env x = pure x := by intro _; rfl) : LC X H0 ρ δ elt (.Tuple [.Name x px, .Name y py] k pt) iter [] scope R :=
  lc_core (α := (D × D) × D) (own := own) (hg hN) (fun _ _ _ _ _ => pts_nil) (fun d => ((wipeD δ (own.map (·.2))).set i (some d.1.1)).set j (some d.1.2)) (fun σ H F S Q q => h σ H F S Q fun J H' ρ' ds cl G r => q J H' ρ' ds cl G (by
    obtain ⟨hl, as, g1, g2, f, rfl, each, r⟩ := r
    refine ⟨hl, as.map fun a => ((g1 a, g2 a), f a), fun d => .tup [d.1.1, d.1.2], (·.2), fun _ => true, by simp, fun d hd => ?_, ?_⟩
    · obtain ⟨a, ha, rfl⟩ := List.mem_map.mp hd
      refine ⟨fun σ H v S iv Q q => ?_, fun σ H F S Q q => q H (.refl H), fun _ => each a ha⟩
      obtain ⟨a, vs, rfl, sq, v1, r1, rfl, i1, v2, r2, rfl, i2, rfl⟩ := iv
      exact ⟨a, _, rfl, sq, rfl, v1, _, rfl, v2, _, rfl, rfl, q _ (((S.wipe _).set i1).set i2) (wipe_set2 hi hj)⟩
    · rw [List.filter_eq_self.mpr fun _ _ => rfl]
      rw [List.map_map]
      exact r)) (blk_of ok) hs
theorem lc2 (own : List (Str × Nat)) (i j : Nat) {x y : Str} {px py pt : Pos} {k : Nat} {R : List D → Prop} (hN : X.N.Nodup) (h : WIt X H0 ρ δ (.Tuple [.Name x px, .Name y py] k pt) iter fun ρ' ds cl => ds.length ≤ sizeLine ∧ ∃ (as : List α) (g1 g2 f : α → D), ds = as.map (fun a => .tup [g1 a, g2 a]) ∧
      (∀ a ∈ as, Blk X scope fun Y => W Y H0 ρ' (((wipeD δ (own.map (·.2))).set i (some (g1 a))).set j (some (g2 a))) elt (· = f a)) ∧ R (as.map f))
    (hc : X.calm = true := by rfl) (ok : blkB X.N X.env.scope scope own = true := by rfl) (hi : i ∈ own.map (·.2) := by decide) (hj : j ∈ own.map (·.2) := by decide)
    (hg : X.N.Nodup → Blk X scope fun Y => PG Y (.Tuple [.Name x px, .Name y py] k pt) (gTup X.K 2 (gCons (gName i) (gCons (gName j) gNil))) := by
      exact fun hN _ _ _ _ _ => pg_tup rfl (pgs_cons (pg_name hN rfl (by first | exact Or.inl rfl | exact Or.inr rfl) (by first | exact .inl rfl | exact .inr rfl)) (pgs_cons (pg_name hN rfl (by first | exact Or.inl rfl | exact Or.inr rfl) (by first | exact .inl rfl | exact .inr rfl)) pgs_nil rfl) rfl) rfl rfl)
    (hs : ∀ x, foldedSetIterable iter X.env x = pure x := by intro _; rfl) : WL X H0 ρ δ (.ListComp elt [⟨.Tuple [.Name x px, .Name y py] k pt, iter, [], 0⟩] scope pos) R :=
  (lc2' own i j hN h ok hi hj hg hs).wl hN hc
end
end LP
set_option maxRecDepth 100000
set_option maxHeartbeats 4000000
/-! Pn3: bounds of intervals, the simplest number between. -/
namespace LP
open PySem PySem.Spec PyProof.Rows L2
/-- a written datum of the module -/
def GD (K : PySem.W.Frag) (mg : Str → Option Value) (x : Str) (d : D) : Prop := ∃ u, mg x = some u ∧ KD K u d
theorem w_gd {X : Cx} {H0 : Hp} {ρ : Rho} {δ : Del} {pos : Pos} {x : Str} {d : D} {R : D → Prop} (h : GD X.K X.mg x d) (r : R d) (hg : Gl X x := by rfl) (hd : (x == ("__debug__" : Str)) = false := by decide) : W X H0 ρ δ (.Name x pos) R := by
  obtain ⟨u, hm, k⟩ := h
  exact w_glob hm k r hg hd
theorem dQ_int (f : Int) : dQ (f : Rat) = .tup [.int f, .int 1] := by simp [dQ]
theorem dQ_0 : dQ 0 = .tup [.int 0, .int 1] := rfl
theorem dQ_1 : dQ 1 = .tup [.int 1, .int 1] := rfl
theorem dQ_m1 : dQ (-1) = .tup [.int (-1), .int 1] := rfl
theorem dQ_inj {a b : Rat} (h : dQ a = dQ b) : a = b := by
  unfold dQ at h
  injection h with h
  injection h with h1 h2
  injection h2 with h2 _
  injection h1 with h1
  injection h2 with h2
  exact Rat.ext h1 (by omega)
theorem dQ_iff {a b : Rat} : dQ a = dQ b ↔ a = b := ⟨dQ_inj, fun h => by rw [h]⟩
theorem dO_non {o : Option Rat} : (dO o).isNon = o.isNone := by cases o <;> rfl
def UpsOk (k : Nat) : List Int → Rat → Prop
  | [], x => Sz k k x
  | f :: fs, x => UpsOk k fs x ∧ ups fs x ≠ 0 ∧ Bt k f.natAbs ∧ Sz k k ((f : Rat) + 1 / ups fs x)
theorem UpsOk.top {k : Nat} : ∀ {fs : List Int} {x : Rat}, UpsOk k fs x → Sz k k (ups fs x)
  | [], _, h => h
  | _ :: _, _, h => h.2.2.2
theorem UpsOk.tail {k : Nat} {x : Rat} : ∀ {pre suf : List Int}, UpsOk k (pre ++ suf) x → UpsOk k suf x
  | [], _, h => h
  | _ :: _, _, h => UpsOk.tail h.1
def wUps : List D → (D → Prop) → Prop := fun ds R => ∃ (fs : List Int) (x : Rat) (k : Nat), ds = [.lst (fs.map .int), dQ x] ∧ UpsOk k fs x ∧ k < 8000 ∧ R (dQ (ups fs x))
def wSb : List D → (D → Prop) → Prop := fun ds R => ∃ (l : Option Rat) (li : Bool) (u : Option Rat) (ui : Bool) (s : Nat), ds = [dO l, .bl li, dO u, .bl ui] ∧ SzO s l ∧ SzO s u ∧ s < 4000 ∧ gapOk l li u ui = true ∧
  ∀ v, above v l li = true → below v u ui = true → Sz (s + 1) (s + 1) v → R (dQ v)
def wSa : List D → (D → Prop) → Prop := fun ds R => ∃ (l : Rat) (li : Bool) (u : Option Rat) (ui : Bool) (s : Nat), ds = [dQ l, .bl li, dO u, .bl ui] ∧ 0 ≤ l ∧ Sz s s l ∧ SzO s u ∧ s < 4000 ∧ gapOk (some l) li u ui = true ∧
  ∀ v, above v (some l) li = true → below v u ui = true → Sz (s + 1) (s + 1) v → R (dQ v)
theorem sim_size {s : Nat} {l : Rat} {li : Bool} {u : Option Rat} {ui : Bool} {fs : List Int} {x : Rat} (h : Sim s l li u ui fs x) : 0 ≤ l → Sz s s l → SzO s u → Sz (s + 1) (s + 1) (ups fs x) := by
  intro h0 sl su
  obtain ⟨_, _, i3, i4, i5⟩ := sim_in h fun _ => .inr trivial
  have n0 := nn_num i3
  have n1 := nn_num h0
  have p2 : 0 < 2 ^ s := Nat.two_pow_pos s
  have pl := sl.n
  have pd := sl.d
  unfold Bt at pl pd
  cases u with
  | none =>
    simp only [cN, cD] at i4 i5
    refine ⟨?_, ?_⟩ <;> unfold Bt <;> rw [Nat.pow_succ] <;> omega
  | some v =>
    have sv := su.n
    have sd := su.d
    unfold Bt at sv sd
    simp only [cN, cD] at i4 i5
    refine ⟨?_, ?_⟩ <;> unfold Bt <;> rw [Nat.pow_succ] <;> omega
theorem sim_sz {s : Nat} {l : Rat} {li : Bool} {u : Option Rat} {ui : Bool} {fs : List Int} {x : Rat} (h : Sim s l li u ui fs x) : 0 ≤ l ∧ Sz s s l ∧ SzO s u := by
  cases h with
  | done h0 sl su g b => exact ⟨h0, sl, su⟩
  | more h0 sl su g b hv t => exact ⟨h0, sl, su⟩
theorem sim_ups {s : Nat} {l : Rat} {li : Bool} {u : Option Rat} {ui : Bool} {fs : List Int} {x : Rat} (h : Sim s l li u ui fs x) : UpsOk (s + 1) fs x := by
  induction h with
  | done h0 sl su g b =>
    exact sim_size (.done h0 sl su g b) h0 sl su
  | @more l v li ui fs x h0 sl su g b hv t ih =>
    refine ⟨ih, ?_, ?_, ?_⟩
    · obtain ⟨i1, _, _, _, _⟩ := sim_in t fun _ => .inr trivial
      have hvp : 0 < v - (fl l : Rat) := by grind
      have := inv_p hvp
      rcases above_iff.mp i1 with h | ⟨h, _⟩
      · exact fun z => by grind
      · rw [h]; exact fun z => by grind
    · refine (sl.n.mono (Nat.le_succ s)).le ?_
      have f0 := fl_nn h0
      have n0 := nn_num h0
      have : fl l ≤ l.num := Int.ediv_le_self _ n0
      omega
    · exact sim_size (.more h0 sl su g b hv t) h0 sl su

section
variable {X : Cx} {H0 : Hp} {ρ : Rho} {δ : Del} {e : Expr} {pos p : Pos}
theorem bs_mono {sts : List Stmt} {P P' : Post} (h : BS X H0 ρ δ sts P) (n : ∀ ρ δ, P.nx ρ δ → P'.nx ρ δ) (r : ∀ d, P.rt d → P'.rt d) (b : ∀ ρ δ, P.bk ρ δ → P'.bk ρ δ) (c : ∀ ρ δ, P.ct ρ δ → P'.ct ρ δ) : BS X H0 ρ δ sts P' :=
  fun σ H F S Dn o => h σ H F S Dn ⟨fun ρ δ σ H p => o.nx ρ δ σ H (n _ _ p), fun d v H ρ p => o.rt d v H ρ (r _ p), fun ρ δ σ H p => o.bk ρ δ σ H (b _ _ p), fun ρ δ σ H p => o.ct ρ δ σ H (c _ _ p)⟩
/-- a for by an invariant -/
theorem forD_ind {tg : Expr} {body : List Stmt} {P : Post} {cl : Rho → Prop} (I : List D → Rho → Del → Prop) (h0 : ∀ ρ δ, I [] ρ δ → P.nx ρ δ)
    (hs : ∀ x xs ρ δ, I (x :: xs) ρ δ → TGd X H0 tg x δ fun δ1 => BS X H0 ρ δ1 body { P with nx := fun ρ2 δ2 => cl ρ2 ∧ I xs ρ2 δ2, ct := fun ρ2 δ2 => cl ρ2 ∧ I xs ρ2 δ2, bk := P.nx }) :
    ∀ (ds : List D) (ρ : Rho) (δ : Del), I ds ρ δ → forD X H0 tg body P cl ds ρ δ
  | [], ρ, δ, i => h0 ρ δ i
  | x :: xs, ρ, δ, i => fun σ H v S iv Q q => hs x xs ρ δ i σ H v S iv Q fun σ' δ' b S' => q σ' δ' (bs_mono b (fun ρ2 δ2 k => ⟨k.1, forD_ind I h0 hs xs ρ2 δ2 k.2⟩) (fun _ k => k) (fun _ _ k => k) (fun ρ2 δ2 k => ⟨k.1, forD_ind I h0 hs xs ρ2 δ2 k.2⟩)) S'
/-- reversed(x) of a list handed in -/
theorem it_revL {tg : Expr} {R : Rho → List D → (Rho → Prop) → Prop} (h : W X H0 ρ δ e fun d => ∃ ds, d = .lst ds ∧ R ρ ds.reverse fun _ => True) (hm : X.mg "reversed" = none) (hg : Gl X "reversed" := by rfl)
    (hs : starEach [e] X.env = (false, eval e X.env) :: starEach [] X.env := by rfl) : WIt X H0 ρ δ tg (.Call (.Name "reversed" p) [e] [] pos) R :=
  fun σ H F S Q q => I_of (pi_reversed hg hm (pa_cons pe_E pa_nil hs) hs) (h σ H F S _ fun v H1 d ⟨ds, ed, r⟩ e1 iv => by
    subst ed
    obtain ⟨a, vs, rfl, h1, h2⟩ := iv
    have hl : vs.length = ds.length := h2.len
    have hh : H1 a = some (.lst vs) := (F.step e1).ex.get h1 (fun _ z => by cases z)
    refine ⟨a, vs, rfl, .of hh, q _ H1 ρ _ _ (fun H => H a = some (.lst vs) ∧ IsVs X.K H0 H vs ds) r (F.step e1) e1 ?_ ⟨hh, h2⟩ trivial ?_⟩
    · rw [hl]
      have at_ : ∀ {H : Hp} {i : Nat} {us : List V}, IsVs X.K H0 H us ds → i < ds.length → ∃ x, us[ds.length - 1 - i]? = some x ∧ ∀ d, ds.reverse[i]? = some d → IsV X.K H0 H x d := by
        intro H i us iu hi
        have e : ds.reverse[i]? = ds[ds.length - 1 - i]? := List.getElem?_reverse hi
        obtain ⟨x, hx, ix⟩ := iu.get (List.getElem?_eq_getElem (show ds.length - 1 - i < ds.length by omega))
        refine ⟨x, hx, fun d hd => ?_⟩
        rw [e, List.getElem?_eq_getElem (show ds.length - 1 - i < ds.length by omega)] at hd
        cases hd
        exact ix
      refine ⟨?_, ?_, ?_⟩
      · rintro i H ⟨s, iu⟩ hi
        rw [List.length_reverse] at hi
        obtain ⟨x, hx, _⟩ := at_ iu hi
        exact ⟨hi, _, x, .of s, hx⟩
      · rintro i H x H' ⟨s, iu⟩ ⟨rfl, y⟩ d hd
        have hi : i < ds.length := by
          have := (List.getElem?_eq_some_iff.mp hd).1
          rw [List.length_reverse] at this
          exact this
        obtain ⟨x', hx, ix⟩ := at_ iu hi
        have := y _ (.of s)
        rw [hx] at this
        cases this
        exact ⟨.refl _, ix d hd⟩
      · rintro H _
        show ds.length ≤ ds.reverse.length
        rw [List.length_reverse]
        exact Nat.le_refl _
    · rintro Ha Hb ρb ⟨s, iu⟩ t Fb _
      exact ⟨Fb.ex.get h1 (fun _ z => by cases z), iu.mono (.refl _) t⟩)
end

section
variable {P : Program} {w : World} {K : PySem.W.Frag} {mg : Str → Option Value} {base : Heap} {f : Addr} {fd : FuncData}
theorem ok_is_below (F : Fun K "is_below" "is_below" s_is_below f fd) (G : Def P w K mg base 1 "compare" P_compare (spD K wCmp)) : FnOk P w K mg base CX0 2 f fd P_is_below (spD K (wBel below)) := by
  refine okD F sc_is_below (fun ds R h => by obtain ⟨v, u, i, k, rfl, _⟩ := h; rfl) fun cdv A outer s H E hr ds R h => ?_
  obtain ⟨v, u, i, k, rfl, hv, hu, hk, r⟩ := h
  refine bs_If <| wt_cmp <| w_var 1 rfl <| w_non <| opw_isN ⟨_, rfl, ?_⟩
  rw [dO_non]
  cases u with
  | none => exact bs_cons <| s_ret <| w_bl ⟨_, rfl, rfl, r⟩
  | some u =>
    refine bs_nil <| bs_cons (s_set 3 (w_call G hr <| wa_v <| w_var 0 rfl <| wa_v <| w_var 1 rfl <| wa_nil ⟨v, u, k, rfl, hv, hu, hk, ?_⟩) sc_is_below.nd)
    refine bs_cons <| s_ret <| w_or <| w_cmp <| w_var 3 rfl <| w_int <| opw_lt ⟨_, rfl, ?_⟩
    have r' : R (.bl (decide (v < u) || (decide (v = u) && i))) := r
    rw [decide_eq_decide.mpr (cmpQ_lt v u)]
    cases h1 : decide (v < u) with
    | true => rw [h1] at r'; exact ⟨_, rfl, rfl, r'⟩
    | false =>
      rw [h1] at r'
      refine w_one <| w_and <| w_cmp <| w_var 3 rfl <| w_int <| opw_eqI ⟨_, rfl, ?_⟩
      rw [decide_eq_decide.mpr (cmpQ_eq v u)]
      cases h2 : decide (v = u) with
      | true => rw [h2] at r'; exact w_one <| w_var 2 rfl ⟨_, rfl, rfl, r'⟩
      | false => rw [h2] at r'; exact ⟨_, rfl, rfl, r'⟩
theorem ok_is_above (F : Fun K "is_above" "is_above" s_is_above f fd) (G : Def P w K mg base 1 "compare" P_compare (spD K wCmp)) : FnOk P w K mg base CX0 2 f fd P_is_above (spD K (wBel above)) := by
  refine okD F sc_is_above (fun ds R h => by obtain ⟨v, u, i, k, rfl, _⟩ := h; rfl) fun cdv A outer s H E hr ds R h => ?_
  obtain ⟨v, u, i, k, rfl, hv, hu, hk, r⟩ := h
  refine bs_If <| wt_cmp <| w_var 1 rfl <| w_non <| opw_isN ⟨_, rfl, ?_⟩
  rw [dO_non]
  cases u with
  | none => exact bs_cons <| s_ret <| w_bl ⟨_, rfl, rfl, r⟩
  | some u =>
    refine bs_nil <| bs_cons (s_set 3 (w_call G hr <| wa_v <| w_var 0 rfl <| wa_v <| w_var 1 rfl <| wa_nil ⟨v, u, k, rfl, hv, hu, hk, ?_⟩) sc_is_above.nd)
    refine bs_cons <| s_ret <| w_or <| w_cmp <| w_var 3 rfl <| w_int <| opw_gt ⟨_, rfl, ?_⟩
    have r' : R (.bl (decide (u < v) || (decide (v = u) && i))) := r
    rw [decide_eq_decide.mpr (cmpQ_gt v u)]
    cases h1 : decide (u < v) with
    | true => rw [h1] at r'; exact ⟨_, rfl, rfl, r'⟩
    | false =>
      rw [h1] at r'
      refine w_one <| w_and <| w_cmp <| w_var 3 rfl <| w_int <| opw_eqI ⟨_, rfl, ?_⟩
      rw [decide_eq_decide.mpr (cmpQ_eq v u)]
      cases h2 : decide (v = u) with
      | true => rw [h2] at r'; exact w_one <| w_var 2 rfl ⟨_, rfl, rfl, r'⟩
      | false => rw [h2] at r'; exact ⟨_, rfl, rfl, r'⟩
theorem ok_can_lie_between (F : Fun K "can_lie_between" "can_lie_between" s_can_lie_between f fd) (G : Def P w K mg base 1 "compare" P_compare (spD K wCmp)) : FnOk P w K mg base CX0 2 f fd P_can_lie_between (spD K wGap) := by
  refine okD F sc_can_lie_between (fun ds R h => by obtain ⟨l, li, u, ui, k, rfl, _⟩ := h; rfl) fun cdv A outer s H E hr ds R h => ?_
  obtain ⟨l, li, u, ui, k, rfl, hl, hu, hk, r⟩ := h
  refine bs_If <| wt_ww <| ww_or <| wt_cmp <| w_var 0 rfl <| w_non <| opw_isN ⟨_, rfl, ?_⟩
  rw [dO_non]
  cases l with
  | none => exact bs_cons <| s_ret <| w_bl ⟨_, rfl, rfl, r⟩
  | some l =>
    refine ww_or1 <| wt_cmp <| w_var 2 rfl <| w_non <| opw_isN ⟨_, rfl, ?_⟩
    rw [dO_non]
    cases u with
    | none => exact bs_cons <| s_ret <| w_bl ⟨_, rfl, rfl, r⟩
    | some u =>
      refine bs_nil <| bs_cons (s_set 4 (w_call G hr <| wa_v <| w_var 0 rfl <| wa_v <| w_var 2 rfl <| wa_nil ⟨l, u, k, rfl, hl, hu, hk, ?_⟩) sc_can_lie_between.nd)
      refine bs_cons <| s_ret <| w_or <| w_cmp <| w_var 4 rfl <| w_int <| opw_lt ⟨_, rfl, ?_⟩
      have r' : R (.bl (decide (l < u) || (decide (l = u) && li && ui))) := r
      rw [decide_eq_decide.mpr (cmpQ_lt l u)]
      cases h1 : decide (l < u) with
      | true => rw [h1] at r'; exact ⟨_, rfl, rfl, r'⟩
      | false =>
        rw [h1] at r'
        refine w_one <| w_and <| w_cmp <| w_var 4 rfl <| w_int <| opw_eqI ⟨_, rfl, ?_⟩
        rw [decide_eq_decide.mpr (cmpQ_eq l u)]
        cases h2 : decide (l = u) with
        | true =>
          rw [h2] at r'
          refine w_and <| w_var 1 rfl ⟨_, rfl, ?_⟩
          cases li with
          | true => exact w_one <| w_var 3 rfl ⟨_, rfl, rfl, r'⟩
          | false => exact ⟨_, rfl, rfl, r'⟩
        | false => rw [h2] at r'; exact ⟨_, rfl, rfl, r'⟩
theorem ok_above_floors (F : Fun K "above_floors" "above_floors" s_above_floors f fd) (Gp : Def P w K mg base 3 "plus" P_plus (spD K (wOp (· + ·)))) (Go : Def P w K mg base 3 "over" P_over (spD K wOver)) (h1 : GD K mg "ONE" (dQ 1)) (hR : mg "reversed" = none) :
    FnOk P w K mg base CX0 4 f fd P_above_floors (spD K wUps) := by
  refine okD F sc_above_floors (fun ds R h => by obtain ⟨fs, x, k, rfl, _⟩ := h; rfl) fun cdv A outer s H E hr ds R h => ?_
  obtain ⟨fs, x, k, rfl, ok, hk, r⟩ := h
  refine bs_cons (s_for (it_revL (w_var 0 rfl ⟨_, rfl, ?_⟩) hR) rfl PassesOwn.never)
  rw [← List.map_reverse]
  refine forD_ind (fun rest ρ δ => ∃ (rs suf : List Int) (o : Option D), rest = rs.map D.int ∧ fs = rs.reverse ++ suf ∧ ρ = noR ∧ δ = [some (.lst (fs.map .int)), some (dQ (ups suf x)), o]) ?_ ?_ _ _ _ ⟨fs.reverse, [], none, rfl, by simp, rfl, rfl⟩
  · rintro ρ δ ⟨rs, suf, o, e1, e, rfl, rfl⟩
    cases rs with
    | cons _ _ => cases e1
    | nil =>
      rw [List.reverse_nil, List.nil_append] at e
      subst e
      exact bs_cons <| s_ret <| w_var 1 rfl ⟨_, rfl, rfl, r⟩
  · rintro y ys ρ δ ⟨rs, suf, o, e1, e, rfl, rfl⟩
    cases rs with
    | nil => cases e1
    | cons f rs =>
      cases e1
      rw [List.reverse_cons, List.append_assoc] at e
      have ok' : UpsOk k (f :: suf) x := by
        rw [e] at ok
        exact UpsOk.tail ok
      obtain ⟨o1, o2, o3, o4⟩ := ok'
      refine tg_name 2 (bs_cons (s_set 1 (w_call Gp hr <| wa_v <| w_tup <| wi_cons <| w_var 2 rfl <| wi_cons <| w_int <| wi_nil ⟨by show 2 ≤ sizeLine; decide, wa_v <| w_call Go (hr.mono (by decide)) <| wa_v <| w_gd h1 <| wa_v <| w_var 1 rfl <| wa_nil ?_⟩) sc_above_floors.nd)) sc_above_floors.nd
      refine ⟨1, ups suf x, 1, 1, k, k, rfl, Sz.one, o1.top, o2, by omega, by omega, by omega, wa_nil ?_⟩
      refine ⟨f, 1 / ups suf x, k, 1, 1 + k, 1 + k, by rw [dQ_int], ⟨by simpa using o3, by simp [Bt]⟩, Sz.one.div o1.top o2, by omega, by omega, by omega, ?_⟩
      exact bs_nil ⟨trivial, rs, f :: suf, some (.int f), rfl, e, rfl, rfl⟩
end
end LP
set_option maxRecDepth 100000
set_option maxHeartbeats 4000000
/-! Pn4: the simplest number between. -/
namespace LP
open PySem PySem.Spec PyProof.Rows L2
section
variable {X : Cx} {H0 : Hp} {ρ : Rho} {δ : Del} {st : Stmt} {rest : List Stmt} {P : Post}
/-- a statement, then the rest, met in one way -/
theorem bs_mid (M : Rho → Del → Prop) (h : S1 X H0 ρ δ st { P with nx := M }) (k : ∀ ρ' δ', M ρ' δ' → BS X H0 ρ' δ' rest P) : BS X H0 ρ δ (st :: rest) P :=
  bs_cons fun σ H F S Dn o => h σ H F S Dn ⟨fun ρ δ σ H p => o.nx ρ δ σ H (k _ _ p), o.rt, o.bk, o.ct⟩
end
section
variable {P : Program} {w : World} {K : PySem.W.Frag} {mg : Str → Option Value} {base : Heap} {f : Addr} {fd : FuncData}
theorem whl_le (l : Rat) (li : Bool) : whl l li ≤ fl l + 1 := by unfold whl; split <;> omega
theorem not_below {v x : Rat} {i : Bool} (b : below x (some v) i = false) : v ≤ x := by
  refine Rat.not_lt.mp fun h => ?_
  have := below_iff.mpr (Or.inl (b := x = v ∧ i = true) h)
  rw [b] at this; cases this
theorem gap_le {l li v ui fs x} {s : Nat} (h : Sim s l li (some v) ui fs x) (b : below (whl l li : Int) (some v) ui = false) : v - (fl l : Rat) ≤ 1 := by
  have h1 := not_below b
  have h2 : ((whl l li : Int) : Rat) ≤ ((fl l + 1 : Int) : Rat) := Rat.intCast_le_intCast.mpr (whl_le l li)
  have h3 : ((fl l + 1 : Int) : Rat) = (fl l : Rat) + 1 := by simp
  grind
theorem le_fl {q : Rat} {n : Int} (h : (n : Rat) ≤ q) : n ≤ fl q := by
  have h1 := lt_fl q
  have h3 : ((fl q + 1 : Int) : Rat) = (fl q : Rat) + 1 := by simp
  have : (n : Rat) < ((fl q + 1 : Int) : Rat) := by grind
  have := Rat.intCast_lt_intCast.mp this
  omega
theorem sim_len {s : Nat} : ∀ (m : Nat) {l : Rat} {li : Bool} {u : Option Rat} {ui : Bool} {fs : List Int} {x : Rat}, Sim s l li u ui fs x → l.den ≤ 2 ^ m → fs.length ≤ 2 * m + 1 := by
  intro m
  induction m with
  | zero =>
    intro l li u ui fs x h hd
    have hd1 : l.den = 1 := by have := den_pos l; simp at hd; omega
    cases h with
    | done _ _ _ _ _ => simp
    | @more _ v _ _ suf _ h0 sl su g b hv t =>
      have hz : l - (fl l : Rat) = 0 := by
        have : ((fl l : Int) : Rat) = l := by
          unfold fl; rw [hd1]; simp; exact eq_of_den1 hd1
        grind
      have ht : topD (fl l : Rat) l = none := by unfold topD; rw [if_pos hz]
      rw [ht] at t
      cases t with
      | done _ _ _ _ _ => simp
  | succ m ih =>
    intro l li u ui fs x h hd
    cases h with
    | done _ _ _ _ _ => simp
    | @more _ v _ _ suf _ h0 sl su g b hv t =>
      have hle := gap_le (.more h0 sl su g b hv t) b
      unfold topD at t
      split at t
      · cases t with
        | done _ _ _ _ _ => simp
      · rename_i hne
        have hf := fl_le l
        have hpos : 0 < l - (fl l : Rat) := by grind
        cases t with
        | done _ _ _ _ _ => simp
        | @more _ _ _ _ suf _ h0' sl' su' g' b' hv' t' =>
          have hle' := gap_le (.more h0' sl' su' g' b' hv' t') b'
          have hvp : 0 < v - (fl l : Rat) := by grind
          have hl1 : (1 : Rat) ≤ 1 / (v - (fl l : Rat)) := by
            have := (inv_le hvp (show (0 : Rat) < 1 by decide)).mp (by grind)
            exact this
          have hf1 : (1 : Int) ≤ fl (1 / (v - (fl l : Rat))) := le_fl (by simpa using hl1)
          obtain ⟨un, ud⟩ := inv_nd hpos
          obtain ⟨ln, ld⟩ := sub_int_nd l (fl l)
          obtain ⟨wn, wd⟩ := sub_int_nd (1 / (l - (fl l : Rat))) (fl (1 / (v - (fl l : Rat))))
          have hvp' : 0 < 1 / (l - (fl l : Rat)) - ((fl (1 / (v - (fl l : Rat))) : Int) : Rat) := by grind
          obtain ⟨rn, rd⟩ := inv_nd hvp'
          have n1 := (Rat.le_iff _ _).mp hle'
          rw [wd] at n1
          simp at n1
          have := ih t' (by
            have e : ((1 / (1 / (l - (fl l : Rat)) - ((fl (1 / (v - (fl l : Rat))) : Int) : Rat)) : Rat).den : Int) ≤ 2 ^ m := by
              rw [rd]
              rw [wn, un, ld] at n1 ⊢
              have hm1 : 1 * (((1 / (l - (fl l : Rat)) : Rat).den : Nat) : Int) ≤ fl (1 / (v - (fl l : Rat))) * (((1 / (l - (fl l : Rat)) : Rat).den : Nat) : Int) := Int.mul_le_mul_of_nonneg_right hf1 (by omega)
              have hd' : (l.den : Int) ≤ 2 * 2 ^ m := by
                rw [Nat.pow_succ] at hd
                have : ((l.den : Nat) : Int) ≤ ((2 ^ m * 2 : Nat) : Int) := by exact_mod_cast hd
                have e2 : ((2 ^ m * 2 : Nat) : Int) = 2 ^ m * 2 := by simp
                omega
              omega
            exact_mod_cast e)
          simp
          omega
theorem dO_some (q : Rat) : dO (some q) = dQ q := rfl
theorem fl_bt {s : Nat} {l : Rat} (h : Sz s s l) : Bt s (fl l).natAbs := by
  refine h.n.le ?_
  unfold fl
  exact Int.natAbs_ediv_le_natAbs _ _
theorem ok_simplest_above (F : Fun K "simplest_above" "simplest_above" s_simplest_above f fd) (Gc : Def P w K mg base 2 "can_lie_between" P_can_lie_between (spD K wGap)) (Gb : Def P w K mg base 2 "is_below" P_is_below (spD K (wBel below)))
    (Gf : Def P w K mg base 4 "above_floors" P_above_floors (spD K wUps)) (Gm : Def P w K mg base 3 "minus" P_minus (spD K (wOp (· - ·)))) (Go : Def P w K mg base 3 "over" P_over (spD K wOver)) (h0 : GD K mg "ZERO" (dQ 0)) (h1 : GD K mg "ONE" (dQ 1)) :
    FnOk P w K mg base CX0 5 f fd P_simplest_above (spD K wSa) := by
  refine okD F sc_simplest_above (fun ds R h => by obtain ⟨l, li, u, ui, s, rfl, _⟩ := h; rfl) fun cdv A outer s H E hr ds R h => ?_
  obtain ⟨l, li, u, ui, k, rfl, hl0, sl, su, hk, hg, r⟩ := h
  have hu := hr.units
  obtain ⟨fs, x, sim⟩ := sim_ex k ((l.den : Int) + cD u).toNat l li u ui (by have := den_pos l; cases u with | none => simp only [cD]; omega | some v => have := den_pos v; simp only [cD]; omega) hl0 sl su hg
  obtain ⟨t1, t2, t3, t4, t5⟩ := sim_in sim fun _ => .inr trivial
  have hfin : R (dQ (ups fs x)) := r _ t1 t2 (sim_size sim hl0 sl su)
  have hok := sim_ups sim
  have hlen := sim_len k sim (Nat.le_of_lt sl.d)
  refine bs_cons (s_setL 4 (wl_lst <| wi_nil ⟨by decide, fun p hp => ?_⟩) sc_simplest_above.nd)
  refine bs_cons (s_while (fun m ρ δ => ∃ (l : Rat) (li : Bool) (u : Option Rat) (ui : Bool) (pre suf : List Int) (o5 o6 o7 o8 o9 : Option D), m = suf.length ∧ fs = pre ++ suf ∧ Sim k l li u ui suf x ∧ ρ = put noR p (.L (pre.map .int)) ∧
    δ = [some (dQ l), some (.bl li), some (dO u), some (.bl ui), some (.obj p), o5, o6, o7, o8, o9]) fs.length ⟨l, li, u, ui, [], fs, none, none, none, none, none, rfl, rfl, sim, rfl, rfl⟩ ?_ PassesOwn.never)
  rintro m ρ δ ⟨l, li, u, ui, pre, suf, o5, o6, o7, o8, o9, hm, hfs, sim, rfl, rfl⟩
  have sz := sim_sz sim
  obtain ⟨hl0, sl, su⟩ := sz
  have hg : gapOk (some l) li u ui = true := by cases sim <;> assumption
  refine wt_val <| w_call Gc (hr.mono (by decide)) <| wa_v <| w_var 0 rfl <| wa_v <| w_var 1 rfl <| wa_v <| w_var 2 rfl <| wa_v <| w_var 3 rfl <| wa_nil ⟨some l, li, u, ui, k, rfl, sl, su, by omega, _, rfl, ?_⟩
  rw [hg]
  refine bs_cons (s_set 5 (w_bin <| w_ixT 0 0 rfl (r := w_ixT 0 1 rfl (r := opw_fdiv (sl.d.wdiv (den_pos l) (by omega)) ?_))) sc_simplest_above.nd)
  refine bs_cons (s_set 6 (w_var 5 rfl ?_) sc_simplest_above.nd)
  have fb := fl_bt sl
  have szf : Sz k 1 ((fl l : Int) : Rat) := ⟨by simpa using fb, by simp [Bt]⟩
  have szw : Sz (k + 1) (k + 1) ((whl l li : Int) : Rat) := by
    refine ⟨?_, ?_⟩
    · rw [Rat.num_intCast]
      unfold Bt at fb ⊢
      have p2 : 0 < 2 ^ k := Nat.two_pow_pos k
      rw [Nat.pow_succ]
      unfold whl
      split <;> omega
    · rw [Rat.den_intCast]
      unfold Bt
      have p2 : 0 < 2 ^ k := Nat.two_pow_pos k
      rw [Nat.pow_succ]
      omega
  refine bs_mid (fun ρ' δ' => ρ' = put noR p (.L (pre.map .int)) ∧ δ' = [some (dQ l), some (.bl li), some (dO u), some (.bl ui), some (.obj p), some (.int (fl l)), some (.int (whl l li)), o7, o8, o9]) (s_if <| wt_ww <| ww_or <| wt_cmp <| w_ixT 0 1 rfl (r := w_int <| opw_neI ⟨_, rfl, ?_⟩)) ?_
  · by_cases hd : (l.den : Int) = 1
    · rw [decide_eq_true hd]
      refine ww_or1 <| wt_not <| wt_val <| w_var 1 rfl ⟨_, rfl, ?_⟩
      have hd' : l.den = 1 := by omega
      cases li with
      | true =>
        have hw : whl l true = fl l := by unfold whl; rw [if_neg (by simp [hd'])]
        rw [hw]
        exact bs_nil ⟨rfl, rfl⟩
      | false =>
        have hw : whl l false = fl l + 1 := by unfold whl; rw [if_pos (.inr rfl)]
        rw [hw]
        exact bs_cons (s_set 6 (w_bin <| w_var 5 rfl <| w_int <| opw_add (bs_nil ⟨rfl, rfl⟩)) sc_simplest_above.nd)
    · rw [decide_eq_false hd]
      have hd' : l.den ≠ 1 := by omega
      have hw : whl l li = fl l + 1 := by unfold whl; rw [if_pos (.inl hd')]
      rw [hw]
      exact bs_cons (s_set 6 (w_bin <| w_var 5 rfl <| w_int <| opw_add (bs_nil ⟨rfl, rfl⟩)) sc_simplest_above.nd)
  rintro _ _ ⟨rfl, rfl⟩
  refine bs_If <| wt_val <| w_call Gb (hr.mono (by decide)) <| wa_v <| w_tup <| wi_cons <| w_var 6 rfl <| wi_cons <| w_int <| wi_nil ⟨by show 2 ≤ sizeLine; decide, wa_v <| w_var 2 rfl <| wa_v <| w_var 3 rfl <| wa_nil ⟨((whl l li : Int) : Rat), u, ui, k + 1, by rw [dQ_int], szw, ?_, by omega, _, rfl, ?_⟩⟩
  · cases u with
    | none => exact trivial
    | some v => exact su.mono (by omega) (by omega)
  cases hb : below ((whl l li : Int) : Rat) u ui with
  | true =>
    cases sim with
    | done _ _ _ _ _ =>
      rw [List.append_nil] at hfs
      subst hfs
      exact bs_cons <| s_ret <| w_call Gf hr <| wa_o <| w_var 4 rfl ⟨p, _, rfl, put_same, wa_v <| w_tup <| wi_cons <| w_var 6 rfl <| wi_cons <| w_int <| wi_nil ⟨by show 2 ≤ sizeLine; decide, wa_nil ⟨fs, _, k + 1, by rw [dQ_int], hok, by omega, _, rfl, rfl, hfin⟩⟩⟩
    | more _ _ _ _ b _ _ => rw [hb] at b; cases b
  | false =>
    cases sim with
    | done _ _ _ _ b => rw [hb] at b; cases b
    | @more _ v _ _ suf _ _ _ su _ _ hv t =>
      have hvp : v - (fl l : Rat) ≠ 0 := fun z => by grind
      have sm : ∀ q : Rat, Sz k k q → Sz (max (k + 1) (k + k) + 1) (k + 1) (q - (fl l : Rat)) := fun q hq => hq.sub szf
      refine bs_nil <| bs_cons (s_append (w_var 4 rfl rfl) put_same (w_var 5 rfl ⟨?_, ?_⟩))
      · have h1 : pre.length ≤ fs.length := by rw [hfs]; simp
        rw [List.length_map]
        have : sizeLine = 16777216 := sizeLine_eq
        omega
      · rw [put_put, show List.map D.int pre ++ [D.int (fl l)] = List.map D.int (pre ++ [fl l]) by simp]
        refine bs_cons (s_set 7 (w_call Gm (hr.mono (by decide)) <| wa_v <| w_var 0 rfl <| wa_v <| w_tup <| wi_cons <| w_var 5 rfl <| wi_cons <| w_int <| wi_nil ⟨by show 2 ≤ sizeLine; decide, wa_nil ⟨l, ((fl l : Int) : Rat), k, k, k, 1, by rw [dQ_int], sl, szf, by omega, by omega, by omega, ?_⟩⟩) sc_simplest_above.nd)
        refine bs_cons (s_set 8 (w_non ?_) sc_simplest_above.nd)
        refine bs_mid (fun ρ' δ' => ρ' = put noR p (.L ((pre ++ [fl l]).map .int)) ∧ δ' = [some (dQ l), some (.bl li), some (dO (some v)), some (.bl ui), some (.obj p), some (.int (fl l)), some (.int (whl l li)), some (dQ (l - (fl l : Rat))), some (dO (topD (fl l : Rat) l)), o9])
          (s_if <| wt_cmp <| w_var 7 rfl <| w_gd h0 <| opw_neT hu (k := decide (l - (fl l : Rat) = 0)) (by rw [decide_eq_true_eq]; exact dQ_iff.symm) ⟨_, rfl, ?_⟩) ?_
        · by_cases hz : l - (fl l : Rat) = 0
          · rw [decide_eq_true hz]
            exact bs_nil ⟨rfl, by unfold topD; rw [if_pos hz]; rfl⟩
          · rw [decide_eq_false hz]
            refine bs_cons (s_set 8 (w_call Go (hr.mono (by decide)) <| wa_v <| w_gd h1 <| wa_v <| w_var 7 rfl <| wa_nil ⟨1, l - (fl l : Rat), 1, 1, _, _, rfl, Sz.one, sm l sl, hz, by omega, by omega, by omega, ?_⟩) sc_simplest_above.nd)
            exact bs_nil ⟨rfl, by unfold topD; rw [if_neg hz]; rfl⟩
        rintro _ _ ⟨rfl, rfl⟩
        refine bs_cons (s_set 9 (w_call Go (hr.mono (by decide)) <| wa_v <| w_gd h1 <| wa_v <| w_call Gm (hr.mono (by decide)) <| wa_v <| w_var 2 rfl <| wa_v <| w_tup <| wi_cons <| w_var 5 rfl <| wi_cons <| w_int <| wi_nil ⟨by show 2 ≤ sizeLine; decide, wa_nil ⟨v, ((fl l : Int) : Rat), k, k, k, 1, by rw [dQ_int]; rfl, su, szf, by omega, by omega, by omega, wa_nil ⟨1, v - (fl l : Rat), 1, 1, _, _, rfl, Sz.one, sm v su, hvp, by omega, by omega, by omega, ?_⟩⟩⟩) sc_simplest_above.nd)
        refine bs_cons (s_asg (w_tup <| wi_cons <| w_var 9 rfl <| wi_cons <| w_var 3 rfl <| wi_cons <| w_var 8 rfl <| wi_cons <| w_var 1 rfl <| wi_nil ⟨by show 4 ≤ sizeLine; decide, tg_tup (tgs_cons <| tg_name 0 (tgs_cons <| tg_name 1 (tgs_cons <| tg_name 2 (tgs_cons <| tg_name 3 (tgs_nil ?_) sc_simplest_above.nd) sc_simplest_above.nd) sc_simplest_above.nd) sc_simplest_above.nd) rfl rfl⟩))
        exact bs_nil ⟨suf.length, by rw [hm]; simp, _, ui, topD (fl l : Rat) l, li, pre ++ [fl l], suf, _, _, _, _, _, rfl, by rw [hfs]; simp, t, rfl, rfl⟩
end
end LP
set_option maxRecDepth 100000
set_option maxHeartbeats 4000000
/-! Pn5: simplest_between. -/
namespace LP
open PySem PySem.Spec PyProof.Rows L2
section
variable {P : Program} {w : World} {K : PySem.W.Frag} {mg : Str → Option Value} {base : Heap} {f : Addr} {fd : FuncData}
theorem ok_simplest_between (F : Fun K "simplest_between" "simplest_between" s_simplest_between f fd) (Gc : Def P w K mg base 2 "can_lie_between" P_can_lie_between (spD K wGap)) (Gb : Def P w K mg base 2 "is_below" P_is_below (spD K (wBel below))) (Gv : Def P w K mg base 2 "is_above" P_is_above (spD K (wBel above)))
    (Gk : Def P w K mg base 1 "compare" P_compare (spD K wCmp)) (Gs : Def P w K mg base 5 "simplest_above" P_simplest_above (spD K wSa)) (Go : Def P w K mg base 1 "opposite" P_opposite (spD K wOpp)) (h0 : GD K mg "ZERO" (dQ 0)) :
    FnOk P w K mg base CX0 6 f fd P_simplest_between (spD K wSb) := by
  refine okD F sc_simplest_between (fun ds R h => by obtain ⟨l, li, u, ui, s, rfl, _⟩ := h; rfl) fun cdv A outer s H E hr ds R h => ?_
  obtain ⟨l, li, u, ui, k, rfl, sl, su, hk, hg, r⟩ := h
  have m2 := hr.mono (show 2 ≤ 5 by decide)
  have m1 := hr.mono (show 1 ≤ 5 by decide)
  have z1 : Sz (k + 1) (k + 1) 0 := Sz.zero.mono (by omega) (by omega)
  have sl1 : SzO (k + 1) l := by cases l with | none => exact trivial | some l => exact sl.mono (by omega) (by omega)
  have su1 : SzO (k + 1) u := by cases u with | none => exact trivial | some l => exact su.mono (by omega) (by omega)
  refine bs_If <| wt_not <| wt_val <| w_call Gc m2 <| wa_v <| w_var 0 rfl <| wa_v <| w_var 1 rfl <| wa_v <| w_var 2 rfl <| wa_v <| w_var 3 rfl <| wa_nil ⟨l, li, u, ui, k, rfl, sl, su, by omega, _, rfl, ?_⟩
  rw [hg]
  refine bs_nil <| bs_If <| wt_ww <| ww_and <| wt_val <| w_call Gv m2 <| wa_v <| w_gd h0 <| wa_v <| w_var 0 rfl <| wa_v <| w_var 1 rfl <| wa_nil ⟨0, l, li, k + 1, rfl, z1, sl1, by omega, _, rfl, ?_⟩
  have next : ¬ (above 0 l li = true ∧ below 0 u ui = true) → BS (cxOf CX0 P w K mg base N_simplest_between "simplest_between" (defScope s_simplest_between) f cdv A outer s H E).nox H noR [some (dO l), some (.bl li), some (dO u), some (.bl ui), none] ((defBody s_simplest_between).drop 2) (PD R) := by
    intro hz
    -- the interval lies below zero
    have neg : ∀ v, u = some v → (∀ x, l = some x → x < 0) → BS (cxOf CX0 P w K mg base N_simplest_between "simplest_between" (defScope s_simplest_between) f cdv A outer s H E).nox H noR [some (dO l), some (.bl li), some (dO u), some (.bl ui), none] ((defBody s_simplest_between).drop 3) (PD R) := by
      rintro v rfl hx
      have hv : v ≤ 0 := by
        refine Rat.not_lt.mp fun hp => hz ⟨?_, below_iff.mpr (.inl hp)⟩
        cases l with
        | none => rfl
        | some x => exact above_iff.mpr (.inl (hx x rfl))
      refine bs_cons (s_set 4 (w_non ?_) sc_simplest_between.nd)
      refine bs_mid (fun ρ' δ' => ρ' = noR ∧ δ' = [some (dO l), some (.bl li), some (dO (some v)), some (.bl ui), some (dO (l.map fun x => -x))]) (s_if <| wt_cmp <| w_var 0 rfl <| w_non <| opw_notN ⟨_, rfl, ?_⟩) ?_
      · rw [dO_non]
        cases l with
        | none => exact bs_nil ⟨rfl, rfl⟩
        | some x => exact bs_cons (s_set 4 (w_call Go m1 <| wa_v <| w_var 0 rfl <| wa_nil ⟨x, rfl, bs_nil ⟨rfl, rfl⟩⟩) sc_simplest_between.nd)
      rintro _ _ ⟨rfl, rfl⟩
      refine bs_cons <| s_ret <| w_call Go m1 <| wa_v <| w_call Gs hr <| wa_v <| w_call Go m1 <| wa_v <| w_var 2 rfl <| wa_nil ⟨v, rfl, wa_v <| w_var 3 rfl <| wa_v <| w_var 4 rfl <| wa_v <| w_var 1 rfl <| wa_nil ⟨-v, ui, l.map fun x => -x, li, k, rfl, by grind, su.neg, ?_, hk, ?_, ?_⟩⟩
      · cases l with
        | none => exact trivial
        | some x => exact sl.neg
      · cases l with
        | none => rfl
        | some x =>
          show gapOk (some (-v)) ui (some (-x)) li = true
          rw [gap_iff]
          rcases gap_iff.mp hg with h | ⟨h, a, b⟩
          · left; grind
          · right; exact ⟨by rw [h], b, a⟩
      · intro y ya yb ys
        refine wa_nil ⟨y, rfl, _, rfl, rfl, r (-y) ?_ ?_ ys.neg⟩
        · cases l with
          | none => rfl
          | some x =>
            have yb' : below y (some (-x)) li = true := yb
            rw [above_iff]
            rcases below_iff.mp yb' with h | ⟨h, a⟩
            · left; grind
            · right; exact ⟨by grind, a⟩
        · rw [below_iff]
          rcases above_iff.mp ya with h | ⟨h, a⟩
          · left; grind
          · right; exact ⟨by grind, a⟩
    refine bs_If <| wt_ww <| ww_and <| wt_cmp <| w_var 0 rfl <| w_non <| opw_notN ⟨_, rfl, ?_⟩
    rw [dO_non]
    cases l with
    | none =>
      refine bs_nil ?_
      cases u with
      | none => exact absurd ⟨rfl, rfl⟩ hz
      | some v => exact neg v rfl fun x h => by cases h
    | some x =>
      refine ww_and1 <| wt_cmp <| w_call Gk m1 <| wa_v <| w_var 0 rfl <| wa_v <| w_gd h0 <| wa_nil ⟨x, 0, k + 1, rfl, sl1, z1, by omega, w_int <| opw_ge ⟨_, rfl, ?_⟩⟩
      rw [show decide ((0 : Int) ≤ cmpQ x 0) = !decide (x < 0) by
        rw [← decide_eq_decide.mpr (cmpQ_lt x 0), ← decide_not]; exact decide_eq_decide.mpr (by omega)]
      by_cases hx : x < 0
      · rw [decide_eq_true hx]
        refine bs_nil ?_
        cases u with
        | none =>
          exact absurd ⟨above_iff.mpr (.inl hx), rfl⟩ hz
        | some v => exact neg v rfl fun y h => by cases h; exact hx
      · rw [decide_eq_false hx]
        refine bs_cons <| s_ret <| w_call Gs hr <| wa_v <| w_var 0 rfl <| wa_v <| w_var 1 rfl <| wa_v <| w_var 2 rfl <| wa_v <| w_var 3 rfl <| wa_nil ⟨x, li, u, ui, k, rfl, Rat.not_lt.mp hx, sl, su, hk, hg, ?_⟩
        exact fun v a b c => ⟨_, rfl, rfl, r v a b c⟩
  cases ha : above 0 l li with
  | false => exact bs_nil (next (by rw [ha]; simp))
  | true =>
    refine ww_and1 <| wt_val <| w_call Gb m2 <| wa_v <| w_gd h0 <| wa_v <| w_var 2 rfl <| wa_v <| w_var 3 rfl <| wa_nil ⟨0, u, ui, k + 1, rfl, z1, su1, by omega, _, rfl, ?_⟩
    cases hb : below 0 u ui with
    | false => exact bs_nil (next (by rw [hb]; simp))
    | true => exact bs_cons <| s_ret <| w_gd h0 ⟨_, rfl, rfl, r 0 ha hb z1⟩
end
end LP
set_option maxRecDepth 100000
/-! Mi: parts, papers and rows in plain Lean. -/
namespace LP
open L2
section
variable {α : Type} [DecidableEq α]
/-- the sum of the values at a key -/
def coef : List (α × Rat) → α → Rat
  | [], _ => 0
  | p :: ps, u => (if p.1 = u then p.2 else 0) + coef ps u
def cnt : List (α × Rat) → α → Nat
  | [], _ => 0
  | p :: ps, u => (if p.1 = u then 1 else 0) + cnt ps u
structure Canon (ps : List (α × Rat)) : Prop where
  nd : (ps.map (·.1)).Nodup
  nz : ∀ p ∈ ps, p.2 ≠ 0
theorem coef_app (u : α) : ∀ (a b : List (α × Rat)), coef (a ++ b) u = coef a u + coef b u
  | [], b => by simp [coef]; grind
  | p :: a, b => by rw [List.cons_append, coef, coef, coef_app u a b]; grind
theorem cnt_app (u : α) : ∀ (a b : List (α × Rat)), cnt (a ++ b) u = cnt a u + cnt b u
  | [], b => by simp [cnt]
  | p :: a, b => by rw [List.cons_append, cnt, cnt, cnt_app u a b]; omega
theorem coef_map (c : Rat) (u : α) : ∀ (a : List (α × Rat)), coef (a.map fun p => (p.1, c * p.2)) u = c * coef a u
  | [] => by simp [coef]
  | p :: a => by
    rw [List.map_cons, coef, coef, coef_map c u a]
    by_cases h : p.1 = u
    · rw [if_pos h, if_pos h]; grind
    · rw [if_neg h, if_neg h]; grind
theorem cnt_map (c : Rat) (u : α) : ∀ (a : List (α × Rat)), cnt (a.map fun p => (p.1, c * p.2)) u = cnt a u
  | [] => rfl
  | p :: a => by rw [List.map_cons, cnt, cnt, cnt_map c u a]
theorem coef_no {u : α} : ∀ {a : List (α × Rat)}, u ∉ a.map (·.1) → coef a u = 0
  | [], _ => rfl
  | p :: a, h => by
    rw [List.map_cons, List.mem_cons, not_or] at h
    rw [coef, if_neg (Ne.symm h.1), coef_no h.2]
    grind
theorem cnt_no {u : α} : ∀ {a : List (α × Rat)}, u ∉ a.map (·.1) → cnt a u = 0
  | [], _ => rfl
  | p :: a, h => by
    rw [List.map_cons, List.mem_cons, not_or] at h
    rw [cnt, if_neg (Ne.symm h.1), cnt_no h.2]
theorem cnt_nd {u : α} : ∀ {a : List (α × Rat)}, (a.map (·.1)).Nodup → cnt a u ≤ 1
  | [], _ => Nat.zero_le _
  | p :: a, h => by
    rw [List.map_cons, List.nodup_cons] at h
    rw [cnt]
    by_cases e : p.1 = u
    · subst e
      rw [if_pos rfl, cnt_no h.1]
      omega
    · rw [if_neg e]
      have := cnt_nd (u := u) h.2
      omega
theorem coef_mem {p : α × Rat} : ∀ {a : List (α × Rat)}, (a.map (·.1)).Nodup → p ∈ a → coef a p.1 = p.2
  | [], _, h => by cases h
  | q :: a, n, h => by
    rw [List.map_cons, List.nodup_cons] at n
    rw [coef]
    rcases List.mem_cons.mp h with rfl | h
    · rw [if_pos rfl, coef_no n.1]; grind
    · rw [if_neg, coef_mem n.2 h]
      · grind
      · intro e
        exact n.1 (e ▸ List.mem_map_of_mem h)
theorem Canon.coef_ne {ps : List (α × Rat)} (c : Canon ps) {p : α × Rat} (h : p ∈ ps) : coef ps p.1 ≠ 0 := by
  rw [coef_mem c.nd h]
  exact c.nz p h
theorem Canon.nil_of {ps : List (α × Rat)} (c : Canon ps) (h : ∀ u, coef ps u = 0) : ps = [] := by
  cases ps with
  | nil => rfl
  | cons p ps => exact absurd (h p.1) (c.coef_ne (List.mem_cons_self ..))
theorem Canon.map {ps : List (α × Rat)} (c : Canon ps) {k : Rat} (hk : k ≠ 0) : Canon (ps.map fun p => (p.1, k * p.2)) := by
  refine ⟨?_, ?_⟩
  · rw [List.map_map]
    exact c.nd
  · intro p hp
    obtain ⟨q, hq, rfl⟩ := List.mem_map.mp hp
    intro z
    rcases Rat.mul_eq_zero.mp z with h | h
    · exact hk h
    · exact c.nz q hq h
/-- the list of the values of g at the keys that are not zero -/
def listed (ys : List α) (g : α → Rat) : List (α × Rat) := (ys.filter fun y => decide (g y ≠ 0)).map fun y => (y, g y)
theorem listed_canon {ys : List α} (g : α → Rat) (n : ys.Nodup) : Canon (listed ys g) := by
  refine ⟨?_, ?_⟩
  · unfold listed
    rw [List.map_map]
    have : ((fun p : α × Rat => p.1) ∘ fun y => (y, g y)) = id := rfl
    rw [this, List.map_id]
    exact n.filter _
  · intro p hp
    unfold listed at hp
    obtain ⟨y, hy, rfl⟩ := List.mem_map.mp hp
    exact of_decide_eq_true (List.mem_filter.mp hy).2
theorem listed_coef {ys : List α} (g : α → Rat) (n : ys.Nodup) (h : ∀ u, u ∉ ys → g u = 0) (u : α) : coef (listed ys g) u = g u := by
  by_cases hu : u ∈ ys ∧ g u ≠ 0
  · have hm : (u, g u) ∈ listed ys g := List.mem_map.mpr ⟨u, List.mem_filter.mpr ⟨hu.1, decide_eq_true hu.2⟩, rfl⟩
    exact coef_mem (listed_canon g n).nd hm
  · have hz : g u = 0 := by
      by_cases hm : u ∈ ys
      · exact Decidable.byContradiction fun z => hu ⟨hm, z⟩
      · exact h u hm
    rw [hz]
    apply coef_no
    intro z
    obtain ⟨p, hp, e⟩ := List.mem_map.mp z
    obtain ⟨y, hy, rfl⟩ := List.mem_map.mp hp
    have := of_decide_eq_true (List.mem_filter.mp hy).2
    exact this (by rw [show y = u from e]; exact hz)
/-- sizes -/
def SzL (n d : Nat) (ps : List (α × Rat)) : Prop := ∀ p ∈ ps, Sz n d p.2
theorem SzL.mono {n d n' d' : Nat} {ps : List (α × Rat)} (h : SzL n d ps) (e : n ≤ n') (f : d ≤ d') : SzL n' d' ps := fun p hp => (h p hp).mono e f
theorem SzL.app {n d : Nat} {a b : List (α × Rat)} (h : SzL n d a) (g : SzL n d b) : SzL n d (a ++ b) := fun p hp => (List.mem_append.mp hp).elim (h p) (g p)
theorem SzL.map {n d m e : Nat} {ps : List (α × Rat)} (h : SzL n d ps) {c : Rat} (g : Sz m e c) : SzL (m + n) (e + d) (ps.map fun p => (p.1, c * p.2)) := fun p hp => by
  obtain ⟨q, hq, rfl⟩ := List.mem_map.mp hp
  exact g.mul (h q hq)
/-- the sum of at most m numbers -/
theorem coef_sz {n d : Nat} (d1 : 1 ≤ d) (n1 : 1 ≤ n) (u : α) : ∀ (ps : List (α × Rat)) (m : Nat), SzL n d ps → cnt ps u ≤ m → (cnt ps u = 0 ∧ coef ps u = 0) ∨ Sz (n + (m - 1) * (d + 1)) (m * d) (coef ps u)
  | [], m, _, _ => .inl ⟨rfl, rfl⟩
  | p :: ps, m, h, hc => by
    have hp := h p (List.mem_cons_self ..)
    have ht : SzL n d ps := fun q hq => h q (List.mem_cons_of_mem _ hq)
    rw [cnt] at hc ⊢
    rw [coef]
    by_cases e : p.1 = u
    · rw [if_pos e] at hc ⊢
      rw [if_pos e]
      right
      rcases coef_sz d1 n1 u ps (m - 1) ht (by omega) with ⟨_, hz⟩ | hs
      · rw [hz, Rat.add_zero]
        refine hp.mono (by omega) ?_
        calc d = 1 * d := (Nat.one_mul d).symm
          _ ≤ m * d := Nat.mul_le_mul_right _ (by omega)
      · by_cases hm : m - 1 = 0
        · have : cnt ps u = 0 := by omega
          have hz : coef ps u = 0 := by
            rcases coef_sz d1 n1 u ps 0 ht (by omega) with ⟨_, hz⟩ | hs
            · exact hz
            · have := hs.d
              have := (coef ps u).den_nz
              unfold Bt at *
              simp at *
              omega
          rw [hz, Rat.add_zero]
          refine hp.mono (by omega) ?_
          calc d = 1 * d := (Nat.one_mul d).symm
            _ ≤ m * d := Nat.mul_le_mul_right _ (by omega)
        · obtain ⟨j, rfl⟩ : ∃ j, m = j + 2 := ⟨m - 2, by omega⟩
          refine (hp.add hs).mono ?_ ?_
          · rw [show j + 2 - 1 = j + 1 by omega, show j + 1 - 1 = j by omega]
            have e1 : (j + 1) * d = j * d + d := by rw [Nat.add_mul, Nat.one_mul]
            have e2 : (j + 1) * (d + 1) = j * (d + 1) + (d + 1) := by rw [Nat.add_mul, Nat.one_mul]
            have e3 : j * (d + 1) = j * d + j := by rw [Nat.mul_add, Nat.mul_one]
            omega
          · rw [show j + 2 - 1 = j + 1 by omega]
            have e1 : (j + 1) * d = j * d + d := by rw [Nat.add_mul, Nat.one_mul]
            have e2 : (j + 2) * d = j * d + 2 * d := by rw [Nat.add_mul]
            omega
    · rw [if_neg e] at hc ⊢
      rw [if_neg e]
      rcases coef_sz d1 n1 u ps m ht (by omega) with ⟨hz, h0⟩ | hs
      · left
        exact ⟨by omega, by rw [h0]; grind⟩
      · right
        rw [show (0 : Rat) + coef ps u = coef ps u by grind]
        exact hs
theorem coef_sz' {n d m : Nat} (d1 : 1 ≤ d) (n1 : 1 ≤ n) (m1 : 1 ≤ m) (u : α) {ps : List (α × Rat)} (h : SzL n d ps) (hc : cnt ps u ≤ m) : Sz (n + (m - 1) * (d + 1)) (m * d) (coef ps u) := by
  rcases coef_sz d1 n1 u ps m h hc with ⟨_, hz⟩ | h
  · rw [hz]
    refine Sz.zero.mono (by omega) ?_
    calc 1 = 1 * 1 := rfl
      _ ≤ m * d := Nat.mul_le_mul m1 d1
  · exact h
theorem Canon.sz {ps qs : List (α × Rat)} (c : Canon ps) (h : ∀ u, coef ps u = coef qs u) {n d m : Nat} (d1 : 1 ≤ d) (n1 : 1 ≤ n) (m1 : 1 ≤ m) (s : SzL n d qs) (hc : ∀ u, cnt qs u ≤ m) : SzL (n + (m - 1) * (d + 1)) (m * d) ps := fun p hp => by
  rw [← coef_mem c.nd hp, h]
  exact coef_sz' d1 n1 m1 _ s (hc _)
theorem Canon.names {ps qs : List (α × Rat)} (c : Canon ps) (h : ∀ u, coef ps u = coef qs u) {p : α × Rat} (hp : p ∈ ps) : p.1 ∈ qs.map (·.1) := by
  refine Decidable.byContradiction fun z => c.coef_ne hp ?_
  rw [h]
  exact coef_no z
end

/-! ### bottoms and tops -/
def lcms {α : Type} (ps : List (α × Rat)) (b : Nat) : Nat := ps.foldl (fun b p => Nat.lcm b p.2.den) b
def tops {α : Type} (bt : Nat) (ps : List (α × Rat)) (t : Nat) : Nat := ps.foldl (fun t p => Nat.gcd t (p.2.num.natAbs * (bt / p.2.den))) t
section
variable {α : Type}
theorem lcms_pos : ∀ (ps : List (α × Rat)) (b : Nat), 0 < b → 0 < lcms ps b
  | [], b, h => h
  | p :: ps, b, h => lcms_pos ps _ (Nat.lcm_pos h (Nat.pos_of_ne_zero p.2.den_nz))
theorem lcms_dvd0 : ∀ (ps : List (α × Rat)) (b : Nat), b ∣ lcms ps b
  | [], b => Nat.dvd_refl b
  | p :: ps, b => Nat.dvd_trans (Nat.dvd_lcm_left _ _) (lcms_dvd0 ps _)
theorem lcms_dvd {p : α × Rat} : ∀ {ps : List (α × Rat)} {b : Nat}, p ∈ ps → p.2.den ∣ lcms ps b
  | q :: ps, b, h => by
    rcases List.mem_cons.mp h with rfl | h
    · exact Nat.dvd_trans (Nat.dvd_lcm_right _ _) (lcms_dvd0 ps _)
    · exact lcms_dvd (ps := ps) (b := Nat.lcm b q.2.den) h
theorem lcm_le_mul {a b : Nat} (ha : 0 < a) (hb : 0 < b) : Nat.lcm a b ≤ a * b := Nat.le_of_dvd (Nat.mul_pos ha hb) (Nat.lcm_dvd_mul a b)
theorem lcms_le {n d : Nat} : ∀ (ps : List (α × Rat)) (b : Nat), 0 < b → SzL n d ps → lcms ps b ≤ b * 2 ^ (ps.length * d)
  | [], b, _, _ => by simp [lcms]
  | p :: ps, b, h, s => by
    have hp := (s p (List.mem_cons_self ..)).d
    have h1 := lcms_le ps (Nat.lcm b p.2.den) (Nat.lcm_pos h (Nat.pos_of_ne_zero p.2.den_nz)) fun q hq => s q (List.mem_cons_of_mem _ hq)
    have h2 := lcm_le_mul h (Nat.pos_of_ne_zero p.2.den_nz)
    have h3 : b * p.2.den ≤ b * 2 ^ d := Nat.mul_le_mul_left _ (Nat.le_of_lt hp)
    calc lcms (p :: ps) b ≤ Nat.lcm b p.2.den * 2 ^ (ps.length * d) := h1
      _ ≤ b * 2 ^ d * 2 ^ (ps.length * d) := Nat.mul_le_mul_right _ (Nat.le_trans h2 h3)
      _ = b * 2 ^ ((p :: ps).length * d) := by
        rw [Nat.mul_assoc, ← Nat.pow_add, List.length_cons, Nat.add_mul, Nat.one_mul, Nat.add_comm d]
theorem lcms_one : ∀ (ps : List (α × Rat)), (∀ p ∈ ps, p.2.den = 1) → lcms ps 1 = 1
  | [], _ => rfl
  | p :: ps, h => by
    show lcms ps (Nat.lcm 1 p.2.den) = 1
    rw [h p (List.mem_cons_self ..)]
    exact lcms_one ps fun q hq => h q (List.mem_cons_of_mem _ hq)
/-- the bottom over one of the bottoms -/
theorem lcms_part {n d : Nat} {q : α × Rat} : ∀ (ps : List (α × Rat)) (b : Nat), 0 < b → SzL n d ps → (q ∈ ps → lcms ps b ≤ q.2.den * (b * 2 ^ ((ps.length - 1) * d)))
  | [], b, _, _ => fun h => by cases h
  | p :: ps, b, h, s => fun hq => by
    have hd := Nat.pos_of_ne_zero p.2.den_nz
    have hp := (s p (List.mem_cons_self ..)).d
    have st : SzL n d ps := fun q hq => s q (List.mem_cons_of_mem _ hq)
    have h2 := lcm_le_mul h hd
    by_cases e : q = p
    · subst e
      have h1 := lcms_le ps (Nat.lcm b q.2.den) (Nat.lcm_pos h hd) st
      calc lcms (q :: ps) b ≤ Nat.lcm b q.2.den * 2 ^ (ps.length * d) := h1
        _ ≤ b * q.2.den * 2 ^ (ps.length * d) := Nat.mul_le_mul_right _ h2
        _ = q.2.den * (b * 2 ^ (((q :: ps).length - 1) * d)) := by
          rw [List.length_cons, Nat.add_sub_cancel, Nat.mul_comm b, Nat.mul_assoc]
    · have hm : q ∈ ps := (List.mem_cons.mp hq).resolve_left e
      have h1 := lcms_part ps (Nat.lcm b p.2.den) (Nat.lcm_pos h hd) st hm
      have h3 : b * p.2.den ≤ b * 2 ^ d := Nat.mul_le_mul_left _ (Nat.le_of_lt hp)
      have hl : 1 ≤ ps.length := List.length_pos_of_mem hm
      calc lcms (p :: ps) b ≤ q.2.den * (Nat.lcm b p.2.den * 2 ^ ((ps.length - 1) * d)) := h1
        _ ≤ q.2.den * (b * 2 ^ d * 2 ^ ((ps.length - 1) * d)) := Nat.mul_le_mul_left _ (Nat.mul_le_mul_right _ (Nat.le_trans h2 h3))
        _ = q.2.den * (b * 2 ^ (((p :: ps).length - 1) * d)) := by
          rw [Nat.mul_assoc b, ← Nat.pow_add, List.length_cons, Nat.add_sub_cancel]
          have e2 : d + (ps.length - 1) * d = ps.length * d := by
            obtain ⟨j, hj⟩ : ∃ j, ps.length = j + 1 := ⟨ps.length - 1, by omega⟩
            rw [hj, Nat.add_sub_cancel, Nat.add_mul, Nat.one_mul, Nat.add_comm]
          rw [e2]
theorem tops_dvd0 (bt : Nat) : ∀ (ps : List (α × Rat)) (t : Nat), tops bt ps t ∣ t
  | [], t => Nat.dvd_refl t
  | p :: ps, t => Nat.dvd_trans (tops_dvd0 bt ps _) (Nat.gcd_dvd_left _ _)
theorem tops_dvd (bt : Nat) {p : α × Rat} : ∀ {ps : List (α × Rat)} {t : Nat}, p ∈ ps → tops bt ps t ∣ p.2.num.natAbs * (bt / p.2.den)
  | q :: ps, t, h => by
    rcases List.mem_cons.mp h with rfl | h
    · exact Nat.dvd_trans (tops_dvd0 bt ps _) (Nat.gcd_dvd_right _ _)
    · exact tops_dvd bt (ps := ps) (t := Nat.gcd t (q.2.num.natAbs * (bt / q.2.den))) h
theorem div_part {n d : Nat} {ps : List (α × Rat)} {q : α × Rat} (s : SzL n d ps) (hq : q ∈ ps) : lcms ps 1 / q.2.den ≤ 2 ^ ((ps.length - 1) * d) := by
  have h := lcms_part ps 1 (by decide) s hq
  rw [Nat.one_mul] at h
  exact Nat.div_le_of_le_mul h
theorem top_part {n d : Nat} {ps : List (α × Rat)} {q : α × Rat} (s : SzL n d ps) (hq : q ∈ ps) : Bt (n + (ps.length - 1) * d) (q.2.num.natAbs * (lcms ps 1 / q.2.den)) := by
  have h1 := div_part s hq
  have h2 := (s q hq).n
  unfold Bt at *
  rw [Nat.pow_add]
  calc q.2.num.natAbs * (lcms ps 1 / q.2.den) ≤ q.2.num.natAbs * 2 ^ ((ps.length - 1) * d) := Nat.mul_le_mul_left _ h1
    _ < 2 ^ n * 2 ^ ((ps.length - 1) * d) := Nat.mul_lt_mul_of_pos_right h2 (Nat.two_pow_pos _)
theorem part_ne {ps : List (α × Rat)} {q : α × Rat} (hq : q ∈ ps) (hz : q.2 ≠ 0) : q.2.num.natAbs * (lcms ps 1 / q.2.den) ≠ 0 := by
  have h1 : q.2.num.natAbs ≠ 0 := fun z => hz (Rat.num_eq_zero.mp (Int.natAbs_eq_zero.mp z))
  have h2 : lcms ps 1 / q.2.den ≠ 0 := by
    have := Nat.div_pos (Nat.le_of_dvd (lcms_pos ps 1 (by decide)) (lcms_dvd hq)) (Nat.pos_of_ne_zero q.2.den_nz)
    omega
  exact Nat.mul_ne_zero h1 h2
theorem tops_ne {ps : List (α × Rat)} {q : α × Rat} (hq : q ∈ ps) (hz : q.2 ≠ 0) (t : Nat) : tops (lcms ps 1) ps t ≠ 0 := fun e => by
  have := tops_dvd (lcms ps 1) (t := t) hq
  rw [e] at this
  exact part_ne hq hz (Nat.eq_zero_of_zero_dvd this)
theorem lcms_bt {n d : Nat} {ps : List (α × Rat)} (s : SzL n d ps) : Bt (ps.length * d + 1) (lcms ps 1) := by
  have := lcms_le ps 1 (by decide) s
  rw [Nat.one_mul] at this
  have p := Nat.two_pow_pos (ps.length * d)
  unfold Bt
  rw [Nat.pow_succ]
  omega
theorem tops_bt {n d : Nat} {ps : List (α × Rat)} (s : SzL n d ps) {q : α × Rat} (hq : q ∈ ps) (hz : q.2 ≠ 0) : Bt (n + (ps.length - 1) * d) (tops (lcms ps 1) ps 0) :=
  (top_part s hq).dvd (part_ne hq hz) (tops_dvd _ hq)
/-- bottom over top, times a value, is whole -/
theorem whole_val {ps : List (α × Rat)} {q : α × Rat} (hq : q ∈ ps) (hz : q.2 ≠ 0) : ∃ z : Int, ((lcms ps 1 : Nat) : Rat) / ((tops (lcms ps 1) ps 0 : Nat) : Rat) * q.2 = (z : Rat) ∧ z.natAbs ≤ q.2.num.natAbs * (lcms ps 1 / q.2.den) := by
  obtain ⟨c, hc⟩ := tops_dvd (lcms ps 1) (t := 0) hq
  obtain ⟨e, he⟩ := lcms_dvd (b := 1) hq
  have hd : q.2.den ≠ 0 := q.2.den_nz
  have ht := tops_ne hq hz 0
  have hdiv : lcms ps 1 / q.2.den = e := by rw [he, Nat.mul_div_cancel_left _ (Nat.pos_of_ne_zero hd)]
  rw [hdiv] at hc ⊢
  refine ⟨q.2.num.sign * c, ?_, ?_⟩
  · have hn : q.2.num * e = tops (lcms ps 1) ps 0 * (q.2.num.sign * c) := by
      have : q.2.num = q.2.num.sign * (q.2.num.natAbs : Int) := (Int.sign_mul_natAbs q.2.num).symm
      have h2 : ((q.2.num.natAbs * e : Nat) : Int) = ((tops (lcms ps 1) ps 0 * c : Nat) : Int) := by rw [hc]
      rw [Int.natCast_mul, Int.natCast_mul] at h2
      calc q.2.num * e = q.2.num.sign * (q.2.num.natAbs * e) := by rw [← Int.mul_assoc, ← this]
        _ = q.2.num.sign * (tops (lcms ps 1) ps 0 * c) := by rw [h2]
        _ = _ := by rw [← Int.mul_assoc, Int.mul_comm q.2.num.sign, Int.mul_assoc]
    have hq2 : q.2 = (q.2.num : Rat) / (q.2.den : Rat) := by have h := Rat.num_divInt_den q.2; rw [Rat.divInt_eq_div] at h; exact h.symm
    have hT : ((tops (lcms ps 1) ps 0 : Nat) : Rat) ≠ 0 := by exact_mod_cast ht
    have hD : ((q.2.den : Nat) : Rat) ≠ 0 := by exact_mod_cast hd
    have hn' : (q.2.num : Rat) * (e : Rat) = ((tops (lcms ps 1) ps 0 : Nat) : Rat) * (((q.2.num.sign * c : Int)) : Rat) := by exact_mod_cast congrArg (fun z : Int => (z : Rat)) hn
    have he' : ((lcms ps 1 : Nat) : Rat) = (q.2.den : Rat) * (e : Rat) := by exact_mod_cast congrArg (fun z : Nat => (z : Rat)) he
    rw [he']
    generalize hzz : (((q.2.num.sign * c : Int)) : Rat) = zz at *
    generalize ((tops (lcms ps 1) ps 0 : Nat) : Rat) = T at *
    generalize hNN : (q.2.num : Rat) = N at *
    generalize hDD : (q.2.den : Rat) = Dn at *
    rw [hq2]
    rw [Rat.div_def, Rat.div_def]
    have i1 : T * T⁻¹ = 1 := Rat.mul_inv_cancel T hT
    have i2 : Dn * Dn⁻¹ = 1 := Rat.mul_inv_cancel Dn hD
    calc Dn * ↑e * T⁻¹ * (N * Dn⁻¹) = (N * ↑e) * T⁻¹ * (Dn * Dn⁻¹) := by grind
      _ = T * zz * T⁻¹ * 1 := by rw [hn', i2]
      _ = (T * T⁻¹) * zz := by grind
      _ = zz := by rw [i1]; grind
  · rw [hc, Int.natAbs_mul]
    have h1 : q.2.num.sign.natAbs ≤ 1 := by
      rcases Int.lt_trichotomy q.2.num 0 with h | h | h
      · simp [Int.sign_eq_neg_one_of_neg h]
      · simp [h]
      · simp [Int.sign_eq_one_of_pos h]
    calc q.2.num.sign.natAbs * (c : Int).natAbs ≤ 1 * c := by
          rw [Int.natAbs_natCast]; exact Nat.mul_le_mul_right _ h1
      _ = 1 * c := rfl
      _ ≤ tops (lcms ps 1) ps 0 * c := Nat.mul_le_mul_right _ (Nat.pos_of_ne_zero ht)
end
end LP
set_option maxRecDepth 100000
/-! Srt: names in order, each once. -/
namespace LP
open PySem PySem.Spec PyProof.Rows L2
def leS (a b : Str) : Bool := !ltCps b.cps.toList a.cps.toList
theorem leS_iff (a b : Str) : leS a b = true ↔ a.cps.toList ≤ b.cps.toList := by
  unfold leS
  rw [ltCps_eq]
  simp
theorem leS_trans (a b c : Str) (h : leS a b = true) (g : leS b c = true) : leS a c = true := by
  rw [leS_iff] at *
  exact List.le_trans h g
theorem leS_total (a b : Str) : (leS a b || leS b a) = true := by
  rw [Bool.or_eq_true, leS_iff, leS_iff]
  exact List.le_total _ _
theorem leS_anti (a b : Str) (h : leS a b = true) (g : leS b a = true) : a = b := by
  rw [leS_iff] at *
  have := List.le_antisymm h g
  cases a with | mk a => cases b with | mk b => 
    congr 1
    exact Array.toList_inj.mp this
def srtS (ks : List Str) : List Str := ks.mergeSort leS
theorem srtS_perm (ks : List Str) : (srtS ks).Perm ks := List.mergeSort_perm _ _
theorem rising_all : ∀ (r : List Str) (p : Str), risingS p r = true → (∀ x ∈ r, leS p x = true) ∧ r.Pairwise (fun a b => leS a b = true)
  | [], _, _ => ⟨(fun _ h => by cases h), .nil⟩
  | x :: r, p, h => by
    rw [risingS, Bool.and_eq_true] at h
    obtain ⟨h1, h2⟩ := rising_all r x h.2
    have hp : leS p x = true := h.1
    refine ⟨fun y hy => ?_, .cons h1 h2⟩
    rcases List.mem_cons.mp hy with rfl | hy
    · exact hp
    · exact leS_trans _ _ _ hp (h1 y hy)
theorem sorted_pw : ∀ {ys : List Str}, sortedS ys = true → ys.Pairwise (fun a b => leS a b = true)
  | [], _ => .nil
  | x :: r, h => by
    obtain ⟨h1, h2⟩ := rising_all r x h
    exact .cons h1 h2
theorem srt_eq {ys ks : List Str} (h : ys.Perm ks) (s : sortedS ys = true) : ys = srtS ks :=
  List.Perm.eq_of_pairwise (le := fun a b => leS a b = true) (fun a b _ _ h g => leS_anti a b h g) (sorted_pw s) (List.pairwise_mergeSort (fun a b c => leS_trans a b c) leS_total ks) (h.trans (srtS_perm ks).symm)
theorem srt_perm {ks ks' : List Str} (h : ks.Perm ks') : srtS ks = srtS ks' :=
  List.Perm.eq_of_pairwise (le := fun a b => leS a b = true) (fun a b _ _ h g => leS_anti a b h g) (List.pairwise_mergeSort (fun a b c => leS_trans a b c) leS_total ks) (List.pairwise_mergeSort (fun a b c => leS_trans a b c) leS_total ks') ((srtS_perm ks).trans (h.trans (srtS_perm ks').symm))
/-- each once -/
def dd : List Str → List Str
  | [] => []
  | x :: xs => if x ∈ dd xs then dd xs else x :: dd xs
theorem dd_mem {u : Str} : ∀ {l : List Str}, u ∈ dd l ↔ u ∈ l
  | [] => Iff.rfl
  | x :: xs => by
    rw [dd]
    split
    · rename_i h
      rw [dd_mem, List.mem_cons]
      refine ⟨.inr, fun z => z.elim (fun e => ?_) id⟩
      rw [e]; exact dd_mem.mp h
    · rw [List.mem_cons, List.mem_cons, dd_mem]
theorem dd_nd : ∀ (l : List Str), (dd l).Nodup
  | [] => .nil
  | x :: xs => by
    rw [dd]
    split
    · exact dd_nd xs
    · rename_i h
      exact List.nodup_cons.mpr ⟨h, dd_nd xs⟩
theorem dd_len : ∀ (l : List Str), (dd l).length ≤ l.length
  | [] => Nat.le_refl _
  | x :: xs => by
    rw [dd]
    have := dd_len xs
    split
    · simp; omega
    · simp; omega
/-- the names of a list, each once, in order -/
def nms (l : List Str) : List Str := srtS (dd l)
theorem nms_mem {u : Str} {l : List Str} : u ∈ nms l ↔ u ∈ l := (srtS_perm _).mem_iff.trans dd_mem
theorem nms_nd (l : List Str) : (nms l).Nodup := (srtS_perm _).nodup_iff.mpr (dd_nd l)
theorem nms_len (l : List Str) : (nms l).length ≤ l.length := by
  unfold nms
  rw [(srtS_perm _).length_eq]
  exact dd_len l
theorem nms_eq {ys ks l : List Str} (h : ys.Perm ks) (s : sortedS ys = true) (nd : ks.Nodup) (m : ∀ u, u ∈ ks ↔ u ∈ l) : ys = nms l := by
  rw [srt_eq h s]
  exact srt_perm ((List.perm_ext_iff_of_nodup nd (dd_nd l)).mpr fun u => (m u).trans dd_mem.symm)
/-- gathered parts -/
def gath (ps : List (Str × Rat)) : List (Str × Rat) := listed (nms (ps.map (·.1))) (coef ps)
theorem gath_canon (ps : List (Str × Rat)) : Canon (gath ps) := listed_canon _ (nms_nd _)
theorem gath_coef (ps : List (Str × Rat)) (u : Str) : coef (gath ps) u = coef ps u := listed_coef _ (nms_nd _) (fun u hu => coef_no fun z => hu (nms_mem.mpr z)) u
end LP
set_option maxRecDepth 100000
set_option maxHeartbeats 4000000
/-! Pn6: rows. -/
namespace LP
open PySem PySem.Spec PyProof.Rows L2
abbrev Pts := List (Str × Rat)
def dPt (p : Str × Rat) : D := .tup [.str p.1, dQ p.2]
def dPts (ps : Pts) : D := .tup (ps.map dPt)
inductive Sg | eq | le | lt
  deriving DecidableEq
def Sg.str : Sg → Str
  | .eq => "="
  | .le => "<="
  | .lt => "<"
structure Row where
  ps : Pts
  sg : Sg
  b : Rat
def dRow (r : Row) : D := .tup [dPts r.ps, .str r.sg.str, dQ r.b]
def wMul : List D → (D → Prop) → Prop := fun ds R => ∃ (ps : Pts) (c : Rat) (n d m e : Nat), ds = [dPts ps, dQ c] ∧ SzL n d ps ∧ Sz m e c ∧ e + d < 9000 ∧ n ≤ 90000 ∧ m ≤ 90000 ∧ ps.length ≤ 1000 ∧ R (dPts (ps.map fun p => (p.1, c * p.2)))
theorem le_line {n : Nat} (h : n ≤ 1000000) : n ≤ sizeLine := by rw [sizeLine_eq]; omega
theorem lt_line {n : Nat} (h : n ≤ 1000000) : n < sizeLine := by rw [sizeLine_eq]; omega
theorem flat_map {α : Type} (g : α → D) (h : ∀ a, True → (g a).flat = true) : ∀ as : List α, D.flats (as.map g) = true
  | [] => rfl
  | a :: as => by
    rw [List.map_cons]
    show ((g a).flat && D.flats (as.map g)) = true
    rw [h a trivial, flat_map g h as]
    rfl
section
variable {P : Program} {w : World} {K : PySem.W.Frag} {mg : Str → Option Value} {base : Heap} {f : Addr} {fd : FuncData}
theorem ok_multiplied (F : Fun K "multiplied" "multiplied" s_multiplied f fd) (Gt : Def P w K mg base 3 "times" P_times (spD K (wOp (· * ·)))) (hT : mg "tuple" = none) : FnOk P w K mg base CX0 4 f fd P_multiplied (spD K wMul) := by
  refine okD F sc_multiplied (fun ds R h => by obtain ⟨ps, c, n, d, m, e, rfl, _⟩ := h; rfl) fun cdv A outer s H E hr ds R h => ?_
  obtain ⟨ps, c, n, d, m, e, rfl, h1, h2, h3, h4, h5, h6, r⟩ := h
  refine bs_cons <| s_ret <| w_tupL (lc2 (α := Str × Rat) [("unknown", 2), ("value", 3)] 2 3 sc_multiplied.nd (it_tup <| w_var 0 rfl ⟨_, rfl, ?_⟩)) hT
  refine ⟨by rw [List.length_map]; exact le_line (by omega), ps, fun p => .str p.1, fun p => dQ p.2, fun p => dPt (p.1, c * p.2), rfl, fun p hp s' H' C cl fp => ?_, ?_⟩
  · exact w_tup <| wi_cons <| w_var 2 rfl <| wi_cons <| w_call Gt hr <| wa_v <| w_var 1 rfl <| wa_v <| w_var 3 rfl <| wa_nil ⟨c, p.2, m, e, n, d, rfl, h2, h1 p hp, h3, h5, h4, wi_nil ⟨by show 2 ≤ sizeLine; decide, rfl⟩⟩
  · exact ⟨_, rfl, flat_map _ (fun p _ => rfl) _, by rw [dPts, List.map_map] at r; exact r⟩
end
/-! ### dicts of numbers -/
structure DictIs {κ : Type} (c : κ → Key) (kvs : KD') (ks : List κ) (g : κ → Rat) : Prop where
  keys : kvs.map (·.1) = ks.map c
  nd : ks.Nodup
  val : ∀ u, (valD kvs (c u)).getD (dQ 0) = dQ (g u)
  mem : ∀ u, u ∈ ks → valD kvs (c u) = some (dQ (g u))
  out : ∀ u, u ∉ ks → g u = 0
theorem dictIs_nil {κ : Type} (c : κ → Key) : DictIs c [] [] (fun _ => 0) := ⟨rfl, List.nodup_nil, fun _ => rfl, (fun _ h => by cases h), fun _ _ => rfl⟩
theorem DictIs.put {κ : Type} [DecidableEq κ] {c : κ → Key} {kvs : KD'} {ks : List κ} {g : κ → Rat} (inj : ∀ a b, c a = c b → a = b) (h : DictIs c kvs ks g) (u : κ) (q : Rat) :
    ∃ ks', DictIs c (putD kvs (c u) (dQ q)) ks' (fun v => if v = u then q else g v) ∧ ks'.length ≤ ks.length + 1 ∧ ∀ v, v ∈ ks' ↔ v = u ∨ v ∈ ks := by
  have hm : c u ∈ kvs.map (·.1) ↔ u ∈ ks := by
    rw [h.keys]
    constructor
    · intro z
      obtain ⟨a, ha, e⟩ := List.mem_map.mp z
      rw [← inj _ _ e]; exact ha
    · exact fun z => List.mem_map_of_mem z
  have hv : ∀ v, valD (putD kvs (c u) (dQ q)) (c v) = if v = u then some (dQ q) else valD kvs (c v) := fun v => by
    rw [valD_put]
    by_cases e : v = u
    · subst e; simp
    · rw [if_neg e, if_neg fun z => e (inj _ _ z)]
  have hval : ∀ v, (valD (putD kvs (c u) (dQ q)) (c v)).getD (dQ 0) = dQ (if v = u then q else g v) := fun v => by
    rw [hv]
    by_cases e : v = u
    · rw [if_pos e, if_pos e]; rfl
    · rw [if_neg e, if_neg e]; exact h.val v
  have hmem : ∀ v, (v = u ∨ v ∈ ks) → valD (putD kvs (c u) (dQ q)) (c v) = some (dQ (if v = u then q else g v)) := fun v hv' => by
    rw [hv]
    by_cases e : v = u
    · rw [if_pos e, if_pos e]
    · rw [if_neg e, if_neg e]; exact h.mem v (hv'.resolve_left e)
  rcases putD_keys kvs (c u) (dQ q) with ⟨h1, h2⟩ | ⟨h1, h2⟩
  · have hu := hm.mp h1
    refine ⟨ks, ⟨h2.trans h.keys, h.nd, hval, fun v hv => hmem v (.inr hv), fun v hv => ?_⟩, Nat.le_succ _, fun v => ⟨.inr, fun z => z.elim (fun e => e ▸ hu) id⟩⟩
    rw [if_neg fun (z : v = u) => hv (z ▸ hu)]
    exact h.out v hv
  · have hu : u ∉ ks := fun z => h1 (hm.mpr z)
    refine ⟨ks ++ [u], ⟨by rw [h2, h.keys, List.map_append]; rfl, ?_, hval, fun v hv => hmem v ?_, fun v hv => ?_⟩, by simp, fun v => by rw [List.mem_append, List.mem_singleton]; exact Or.comm⟩
    · rw [List.nodup_append]
      exact ⟨h.nd, by simp, fun a ha b hb => by simp at hb; subst hb; exact fun e => hu (e ▸ ha)⟩
    · rcases List.mem_append.mp hv with z | z
      · exact .inr z
      · exact .inl (by simpa using z)
    · rw [List.mem_append, not_or] at hv
      rw [if_neg fun (z : v = u) => hv.2 (by simp [z])]
      exact h.out v hv.1
def wGath : List D → (D → Prop) → Prop := fun ds R => ∃ (ps : Pts) (n d m : Nat), ds = [.lst (ps.map dPt)] ∧ SzL n d ps ∧ (∀ u, cnt ps u ≤ m) ∧ 1 ≤ m ∧ 1 ≤ d ∧ 1 ≤ n ∧ m * d + d < 9000 ∧ n + (m - 1) * (d + 1) ≤ 90000 ∧ ps.length < 64 ∧ R (dPts (gath ps))
theorem inr_inj (a b : Str) (h : (Sum.inr a : Key) = Sum.inr b) : a = b := by injection h
theorem coef_snoc {α : Type} [DecidableEq α] (pre : List (α × Rat)) (u : α) (q : Rat) : (fun v => if v = u then coef pre u + q else coef pre v) = coef (pre ++ [(u, q)]) := by
  funext v
  rw [coef_app]
  by_cases e : v = u
  · subst e
    rw [if_pos rfl]; simp [coef]; grind
  · rw [if_neg e]; simp [coef, Ne.symm e]; grind
section
variable {P : Program} {w : World} {K : PySem.W.Frag} {mg : Str → Option Value} {base : Heap} {f : Addr} {fd : FuncData}
theorem ok_gathered (F : Fun K "gathered" "gathered" s_gathered f fd) (Gp : Def P w K mg base 3 "plus" P_plus (spD K (wOp (· + ·)))) (h0 : GD K mg "ZERO" (dQ 0)) (hT : mg "tuple" = none) (hS : mg "sorted" = none) : FnOk P w K mg base CX0 4 f fd P_gathered (spD K wGath) := by
  refine okD F sc_gathered (fun ds R h => by obtain ⟨ps, n, d, m, rfl, _⟩ := h; rfl) fun cdv A outer s H E hr ds R h => ?_
  obtain ⟨ps, n, d, m, rfl, h1, h2, m1, d1, n1, h3, h4, h5, r⟩ := h
  have hu := hr.units
  refine bs_cons (s_setM 1 (fun p hp => ?_) sc_gathered.nd)
  refine bs_cons (s_for (it_old <| w_var 0 rfl ⟨_, .inl rfl, ?_⟩) rfl PassesOwn.never)
  refine forD_ind (fun rest ρ δ => ∃ (pre suf : Pts) (kvs : KD') (ks : List Str) (o2 o3 : Option D), rest = suf.map dPt ∧ ps = pre ++ suf ∧ ρ = put noR p (.M kvs) ∧ δ = [some (.lst (ps.map dPt)), some (.obj p), o2, o3] ∧
    DictIs Sum.inr kvs ks (coef pre) ∧ ks.length ≤ pre.length ∧ ∀ v, v ∈ ks ↔ v ∈ pre.map (·.1)) ?_ ?_ _ _ _ ⟨[], ps, [], [], none, none, rfl, rfl, rfl, rfl, dictIs_nil _, Nat.le_refl _, fun _ => Iff.rfl⟩
  · rintro ρ δ ⟨pre, suf, kvs, ks, o2, o3, e1, e2, rfl, rfl, hd, hl, hmm⟩
    have : suf = [] := by cases suf with | nil => rfl | cons _ _ => cases e1
    subst this
    rw [List.append_nil] at e2
    subst e2
    refine bs_cons <| s_ret <| w_tupL (lcIf (α := Str) [("unknown", 2)] 2 sc_gathered.nd (it_new <| wl_sortedS rfl (w_var 1 rfl rfl) put_same hd.keys (by omega) (fun ys hp1 hp2 a ha => ?_) hS)) hT
    have hap : p ≠ a := fun e => by subst e; rw [put_same] at ha; cases ha
    have hnd : ys.Nodup := hp1.nodup_iff.mpr hd.nd
    refine ⟨by rw [List.length_map]; exact le_line (by have := hp1.length_eq; omega), ys, .str, fun y => dPt (y, coef ps y), fun y => decide (coef ps y ≠ 0), rfl, fun y hy => ⟨fun s' H' C cl fp => ?_, fun hb s' H' C cl fp => ?_⟩, ?_⟩
    · refine wt_cmp <| w_dget hu (w_var 1 rfl rfl) (by rw [put_ne hap]; exact put_same) (k := Sum.inr y) (w_var 2 rfl rfl) (hd.mem y (hp1.mem_iff.mp hy)) (r := w_gd h0 <| opw_neT hu (k := decide (coef ps y = 0)) (by rw [decide_eq_true_eq]; exact dQ_iff.symm) ⟨_, rfl, ?_⟩)
      show (!decide (coef ps y = 0)) = decide (¬ coef ps y = 0)
      rw [decide_not]
    · exact w_tup <| wi_cons <| w_var 2 rfl <| wi_cons <| w_dget hu (w_var 1 rfl rfl) (by rw [put_ne hap]; exact put_same) (k := Sum.inr y) (w_var 2 rfl rfl) (hd.mem y (hp1.mem_iff.mp hy)) (r := wi_nil ⟨by show 2 ≤ sizeLine; decide, rfl⟩)
    · have := r
      unfold gath at this
      rw [← nms_eq hp1 hp2 hd.nd hmm] at this
      unfold listed dPts at this
      rw [List.map_map] at this
      exact ⟨_, rfl, flat_map _ (fun _ _ => rfl) _, this⟩
  · rintro x xs ρ δ ⟨pre, suf, kvs, ks, o2, o3, e1, e2, rfl, rfl, hd, hl, hmm⟩
    cases suf with
    | nil => cases e1
    | cons q suf =>
      cases e1
      obtain ⟨u, v⟩ := q
      have hps : SzL n d pre := fun z hz => h1 z (by rw [e2]; exact List.mem_append_left _ hz)
      have hv : Sz n d v := h1 (u, v) (by rw [e2]; simp)
      have hc : cnt pre u ≤ m := by
        have := h2 u
        rw [e2, cnt_app] at this
        omega
      have hlen : pre.length < ps.length := by rw [e2]; simp
      refine tg_tup (tgs_cons <| tg_name 2 (tgs_cons <| tg_name 3 (tgs_nil ?_) sc_gathered.nd) sc_gathered.nd) rfl rfl
      refine bs_cons (s_dput hu (w_call Gp hr <| wa_v <| w_dget2 hu (w_var 1 rfl rfl) put_same (k := Sum.inr u) (w_var 2 rfl rfl) (w_gd h0 rfl) (hd.val u) (wa_v <| w_var 3 rfl <| wa_nil ⟨coef pre u, v, _, _, n, d, rfl, coef_sz' d1 n1 m1 u hps hc, hv, h3, h4, by omega, ?_⟩)) (w_var 1 rfl rfl) put_same ?_ (k := Sum.inr u) (w_var 2 rfl rfl))
      · obtain ⟨ks', hd', hl', hm'⟩ := hd.put inr_inj u (coef pre u + v)
        rw [put_put]
        refine bs_nil ⟨trivial, pre ++ [(u, v)], suf, _, ks', _, _, rfl, by rw [e2]; simp, rfl, rfl, ?_, ?_, fun z => ?_⟩
        · rw [← coef_snoc]; exact hd'
        · rw [List.length_append]; simp; omega
        · rw [hm', hmm, List.map_append, List.mem_append]; simp [or_comm]
      · have := congrArg List.length hd.keys
        rw [List.length_map, List.length_map] at this
        exact lt_line (by omega)
end
end LP
set_option maxRecDepth 100000
set_option maxHeartbeats 4000000
/-! Pn7: factor_of, normal, row, opposites. -/
namespace LP
open PySem PySem.Spec PyProof.Rows L2
def ab (q : Rat) : Rat := if q < 0 then -q else q
theorem ab_num (q : Rat) : (ab q).num = (q.num.natAbs : Int) ∧ (ab q).den = q.den := by
  unfold ab
  split
  · rename_i h
    have : q.num < 0 := by have := (Rat.lt_iff q 0).mp h; simpa using this
    rw [Rat.neg_num, Rat.neg_den]
    exact ⟨by omega, rfl⟩
  · rename_i h
    have : 0 ≤ q.num := Rat.num_nonneg.mpr (Rat.not_lt.mp h)
    exact ⟨by omega, rfl⟩
theorem ab_sz {n d : Nat} {q : Rat} (h : Sz n d q) : Sz n d (ab q) := by
  obtain ⟨h1, h2⟩ := ab_num q
  exact ⟨by rw [h1]; exact h.n, by rw [h2]; exact h.d⟩
theorem ab_pos {q : Rat} (h : q ≠ 0) : 0 < ab q := by unfold ab; split <;> grind
def size (ps : Pts) : Rat := ((lcms ps 1 : Nat) : Rat) / ((tops (lcms ps 1) ps 0 : Nat) : Rat)
def turn (sg : Sg) (q s : Rat) : Rat := if sg = .eq ∧ q < 0 then -s else s
def fac (r : Row) : Rat := match r.ps with
  | [] => if r.b = 0 then 1 else turn r.sg r.b (1 / ab r.b)
  | p :: ps => turn r.sg p.2 (size (p :: ps))
def norm (r : Row) : Row := ⟨r.ps.map fun p => (p.1, fac r * p.2), r.sg, fac r * r.b⟩
theorem turn_pos {sg : Sg} {q s : Rat} (h : sg ≠ .eq) : turn sg q s = s := by unfold turn; rw [if_neg fun z => h z.1]
theorem turn_ne {sg : Sg} {q s : Rat} (h : s ≠ 0) : turn sg q s ≠ 0 := by unfold turn; split <;> grind
theorem turn_sz {sg : Sg} {q s : Rat} {n d : Nat} (h : Sz n d s) : Sz n d (turn sg q s) := by 
  unfold turn
  split
  · exact h.neg
  · exact h
theorem size_pos {ps : Pts} {p : Str × Rat} (hp : p ∈ ps) (hz : p.2 ≠ 0) : 0 < size ps := by
  unfold size
  have h1 : (0 : Rat) < ((lcms ps 1 : Nat) : Rat) := Rat.natCast_pos.mpr (lcms_pos ps 1 (by decide))
  have h2 : (0 : Rat) < ((tops (lcms ps 1) ps 0 : Nat) : Rat) := Rat.natCast_pos.mpr (Nat.pos_of_ne_zero (tops_ne hp hz 0))
  rw [Rat.div_def]
  exact Rat.mul_pos h1 (Rat.inv_pos.mpr h2)
theorem fac_pos {r : Row} (h : ∀ p ∈ r.ps, p.2 ≠ 0) (hs : r.sg ≠ .eq) : 0 < fac r := by
  unfold fac
  split
  · split
    · decide
    · rename_i hb
      rw [turn_pos hs]
      exact inv_p (ab_pos hb)
  · rename_i p ps e
    rw [turn_pos hs]
    exact size_pos (List.mem_cons_self ..) (h p (by rw [e]; exact List.mem_cons_self ..))
theorem fac_ne {r : Row} (h : ∀ p ∈ r.ps, p.2 ≠ 0) : fac r ≠ 0 := by
  unfold fac
  split
  · split
    · decide
    · rename_i hb
      exact turn_ne fun z => by have := inv_p (ab_pos hb); grind
  · rename_i p ps e
    exact turn_ne fun z => by have := size_pos (ps := p :: ps) (List.mem_cons_self ..) (h p (by rw [e]; exact List.mem_cons_self ..)); grind
theorem Bt.wideN {j k a b : Nat} (h : Bt j a) (g : Bt k b) (e : j + k < 1000000) : CMulW (a : Int) (b : Int) := Bt.wide (a := (a : Int)) (b := (b : Int)) (by rw [Int.natAbs_natCast]; exact h) (by rw [Int.natAbs_natCast]; exact g) e
theorem Bt.wdivN {k b : Nat} {a : Int} (g : Bt k b) (h : 0 < b) (e : k < 9000) : CDivW a (b : Int) := Bt.wdiv (b := (b : Int)) (by rw [Int.natAbs_natCast]; exact g) (by omega) e
theorem dQ_nat (n : Nat) : dQ (n : Rat) = .tup [.int n, .int 1] := dQ_int (n : Int)
theorem Sz_nat {k n : Nat} (h : Bt k n) : Sz k 1 (n : Rat) := ⟨by rw [show ((n : Nat) : Rat).num = (n : Int) from rfl, Int.natAbs_natCast]; exact h, by show Bt 1 1; simp [Bt]⟩
theorem dPts_nil : dPts [] = .tup [] := rfl
/-- bits for factor_of -/
structure FacOk (n d e f : Nat) (r : Row) : Prop where
  s : SzL n d r.ps
  z : ∀ p ∈ r.ps, p.2 ≠ 0
  b : Sz e f r.b
  l : r.ps.length ≤ 8
  n1 : n + (r.ps.length - 1) * d < 8900
  d1 : r.ps.length * d + 1 < 8900
  n2 : n ≤ 8900
  d2 : d ≤ 8900
  e1 : e < 8900
  f1 : f < 80000
def wFac : List D → (D → Prop) → Prop := fun ds R => ∃ (r : Row) (n d e f : Nat), ds = [dRow r] ∧ FacOk n d e f r ∧ R (dQ (fac r))
section
variable {P : Program} {w : World} {K : PySem.W.Frag} {mg : Str → Option Value} {base : Heap} {f : Addr} {fd : FuncData}
theorem str_eq (sg : Sg) : decide (sg.str = ("=" : Str)) = decide (sg = .eq) := by cases sg <;> decide +kernel
theorem str_le (sg : Sg) : decide (sg.str = ("<=" : Str)) = decide (sg = .le) := by cases sg <;> decide +kernel
theorem str_lt (sg : Sg) : decide (sg.str = ("<" : Str)) = decide (sg = .lt) := by cases sg <;> decide +kernel
theorem ok_factor_of (F : Fun K "factor_of" "factor_of" s_factor_of f fd) (Gc : Def P w K mg base 1 "common_divisor" P_common_divisor (spD K wCd)) (Gk : Def P w K mg base 1 "compare" P_compare (spD K wCmp)) (Go : Def P w K mg base 3 "over" P_over (spD K wOver)) (Gn : Def P w K mg base 1 "opposite" P_opposite (spD K wOpp))
    (h0 : GD K mg "ZERO" (dQ 0)) (h1 : GD K mg "ONE" (dQ 1)) (hA : mg "abs" = none) (hL : mg "len" = none) : FnOk P w K mg base CX0 4 f fd P_factor_of (spD K wFac) := by
  refine okD F sc_factor_of (fun ds R h => by obtain ⟨r, n, d, e, f, rfl, _⟩ := h; rfl) fun cdv A outer s H E hr ds R h => ?_
  obtain ⟨⟨ps, sg, b⟩, n, d, e, f, rfl, ok, r⟩ := h
  have hu := hr.units
  have m1 := hr.mono (show 1 ≤ 3 by decide)
  refine bs_cons (s_asg (w_var 0 rfl (tg_tup (tgs_cons <| tg_name 1 (tgs_cons <| tg_name 2 (tgs_cons <| tg_name 3 (tgs_nil ?_) sc_factor_of.nd) sc_factor_of.nd) sc_factor_of.nd) rfl rfl)))
  refine bs_If <| wt_cmp <| w_len (w_var 1 rfl ⟨_, rfl, w_int <| opw_eqI ⟨_, rfl, ?_⟩⟩) hL
  -- the end: the size turned
  have fin : ∀ (q sz : Rat) (k : Nat), R (dQ (turn sg q sz)) → Sz k k q → k ≤ 80000 → ∀ (i : Nat) (a : Expr) (δ : Del), True := fun _ _ _ _ _ _ _ _ _ => trivial
  cases ps with
  | nil =>
    refine bs_If <| wt_cmp <| w_var 3 rfl <| w_gd h0 <| opw_eqT hu (k := decide (b = 0)) (by rw [decide_eq_true_eq]; exact dQ_iff.symm) ⟨_, rfl, ?_⟩
    have r' : R (dQ (if b = 0 then 1 else turn sg b (1 / ab b))) := r
    by_cases hb : b = 0
    · rw [decide_eq_true hb]
      rw [if_pos hb] at r'
      exact bs_cons <| s_ret <| w_gd h1 ⟨_, rfl, rfl, r'⟩
    · rw [decide_eq_false hb]
      rw [if_neg hb] at r'
      have hab := ab_num b
      refine bs_nil <| bs_cons (s_set 4 (w_call Go hr <| wa_v <| w_gd h1 <| wa_v <| w_tup <| wi_cons <| w_abs (w_ixT 3 0 rfl (r := ⟨_, rfl, wi_cons <| w_ixT 3 1 rfl (r := wi_nil ⟨by show 2 ≤ sizeLine; decide, wa_nil ⟨1, ab b, 1, 1, e, f, ?_, Sz.one, ab_sz ok.b, fun z => by have := ab_pos hb; grind, by have := ok.e1; omega, by omega, by have := ok.f1; omega, ?_⟩⟩)⟩)) hA) sc_factor_of.nd)
      · unfold dQ
        rw [hab.1, hab.2]
        have : (if b.num < 0 then -b.num else b.num) = (b.num.natAbs : Int) := by split <;> omega
        rw [this]
      · refine bs_cons <| s_ret <| w_ifE <| wt_ww <| ww_and <| wt_cmp <| w_var 2 rfl <| w_str <| opw_eqS ⟨_, rfl, ?_⟩
        rw [str_eq]
        by_cases hs : sg = .eq
        · rw [decide_eq_true hs]
          refine ww_and1 <| wt_cmp <| w_call Gk m1 <| wa_v <| w_var 3 rfl <| wa_v <| w_gd h0 <| wa_nil ⟨b, 0, max e f + 1, rfl, ok.b.mono (by omega) (by omega), Sz.zero.mono (by omega) (by omega), by have := ok.e1; have := ok.f1; omega, w_int <| opw_lt ⟨_, rfl, ?_⟩⟩
          rw [decide_eq_decide.mpr (cmpQ_lt b 0)]
          by_cases hn : b < 0
          · rw [decide_eq_true hn]
            unfold turn at r'
            rw [if_pos ⟨hs, hn⟩] at r'
            exact w_call Gn m1 <| wa_v <| w_var 4 rfl <| wa_nil ⟨_, rfl, _, rfl, rfl, r'⟩
          · rw [decide_eq_false hn]
            unfold turn at r'
            rw [if_neg fun z => hn z.2] at r'
            exact w_var 4 rfl ⟨_, rfl, rfl, r'⟩
        · rw [decide_eq_false hs]
          rw [turn_pos hs] at r'
          exact w_var 4 rfl ⟨_, rfl, rfl, r'⟩
  | cons p ps =>
    obtain ⟨qs, hqs⟩ : ∃ qs, qs = p :: ps := ⟨_, rfl⟩
    have r' : R (dQ (turn sg p.2 (size (p :: ps)))) := r
    have hp : p ∈ qs := by rw [hqs]; exact List.mem_cons_self ..
    rw [← hqs] at r' ok ⊢
    have hz := ok.z
    have hne : ¬ ((List.map dPt qs).length : Int) = 0 := by rw [hqs, List.length_map, List.length_cons]; omega
    rw [decide_eq_false hne]
    refine bs_nil <| bs_cons (s_set 5 (w_int ?_) sc_factor_of.nd)
    refine bs_mid (fun ρ δ => ∃ o6 o7, ρ = noR ∧ δ = [some (dRow ⟨qs, sg, b⟩), some (dPts qs), some (.str sg.str), some (dQ b), none, some (.int (lcms qs 1 : Nat)), o6, o7, none]) (s_for (it_tup <| w_var 1 rfl ⟨_, rfl, ?_⟩) rfl PassesOwn.never) ?_
    · refine forD_ind (fun rest ρ δ => ∃ (pre suf : Pts) (o6 o7 : Option D), rest = suf.map dPt ∧ qs = pre ++ suf ∧ ρ = noR ∧ δ = [some (dRow ⟨qs, sg, b⟩), some (dPts qs), some (.str sg.str), some (dQ b), none, some (.int (lcms pre 1 : Nat)), o6, o7, none]) ?_ ?_ _ _ _ ⟨[], qs, none, none, rfl, rfl, rfl, rfl⟩
      · rintro ρ δ ⟨pre, suf, o6, o7, e1, e2, rfl, rfl⟩
        have : suf = [] := by cases suf with | nil => rfl | cons _ _ => cases e1
        subst this
        rw [List.append_nil] at e2
        subst e2
        exact ⟨o6, o7, rfl, rfl⟩
      · rintro x xs ρ δ ⟨pre, suf, o6, o7, e1, e2, rfl, rfl⟩
        cases suf with
        | nil => cases e1
        | cons q suf =>
          cases e1
          have hq : Sz n d q.2 := ok.s q (show q ∈ qs by rw [e2]; simp)
          have hl : Bt (qs.length * d + 1) (lcms pre 1) := (lcms_bt ok.s).dvd (Nat.pos_iff_ne_zero.mp (lcms_pos qs 1 (by decide))) (by rw [e2]; exact (by unfold lcms; rw [List.foldl_append]; exact lcms_dvd0 _ _))
          have hg : Bt d (Nat.gcd (lcms pre 1) q.2.den) := hq.d.dvd q.2.den_nz (Nat.gcd_dvd_right _ _)
          have hgp : 0 < ((Nat.gcd (lcms pre 1) q.2.den : Nat) : Int) := by
            have := Nat.gcd_pos_of_pos_right (lcms pre 1) (Nat.pos_of_ne_zero q.2.den_nz)
            omega
          have k1 := ok.d1
          have k2 := ok.d2
          refine tg_tup (tgs_cons <| tg_name 6 (tgs_cons <| tg_name 7 (tgs_nil ?_) sc_factor_of.nd) sc_factor_of.nd) rfl rfl
          refine bs_cons (s_set 5 (w_bin <| w_bin <| w_var 5 rfl <| w_ixT 7 1 rfl (r := opw_mul (Bt.wideN hl hq.d (by have : qs.length * d + 1 < 8900 := ok.d1; have := ok.d2; omega)) <| w_call Gc m1 <| wa_v <| w_var 5 rfl <| wa_v <| w_ixT 7 1 rfl (r := wa_nil ⟨lcms pre 1, q.2.den, rfl, opw_fdiv (Bt.wdivN hg (by omega) (by have := ok.d2; omega)) ?_⟩))) sc_factor_of.nd)
          refine bs_nil ⟨trivial, pre ++ [q], suf, some (.str q.1), some (dQ q.2), rfl, by rw [e2]; simp, rfl, ?_⟩
          rw [show lcms (pre ++ [q]) 1 = Nat.lcm (lcms pre 1) q.2.den by unfold lcms; rw [List.foldl_append]; rfl]
          rw [show ((Nat.lcm (lcms pre 1) q.2.den : Nat) : Int) = (lcms pre 1 : Int) * (q.2.den : Int) / ((Nat.gcd (lcms pre 1) q.2.den : Nat) : Int) by unfold Nat.lcm; rw [Int.natCast_ediv, Int.natCast_mul]]
          rfl
    rintro _ _ ⟨o6, o7, rfl, rfl⟩
    refine bs_cons (s_set 8 (w_int ?_) sc_factor_of.nd)
    refine bs_mid (fun ρ δ => ∃ o6 o7, ρ = noR ∧ δ = [some (dRow ⟨qs, sg, b⟩), some (dPts qs), some (.str sg.str), some (dQ b), none, some (.int (lcms qs 1 : Nat)), o6, o7, some (.int (tops (lcms qs 1) qs 0 : Nat))]) (s_for (it_tup <| w_var 1 rfl ⟨_, rfl, ?_⟩) rfl PassesOwn.never) ?_
    · refine forD_ind (fun rest ρ δ => ∃ (pre suf : Pts) (o6 o7 : Option D), rest = suf.map dPt ∧ qs = pre ++ suf ∧ ρ = noR ∧ δ = [some (dRow ⟨qs, sg, b⟩), some (dPts qs), some (.str sg.str), some (dQ b), none, some (.int (lcms qs 1 : Nat)), o6, o7, some (.int (tops (lcms qs 1) pre 0 : Nat))]) ?_ ?_ _ _ _ ⟨[], qs, o6, o7, rfl, rfl, rfl, rfl⟩
      · rintro ρ δ ⟨pre, suf, o6, o7, e1, e2, rfl, rfl⟩
        have : suf = [] := by cases suf with | nil => rfl | cons _ _ => cases e1
        subst this
        rw [List.append_nil] at e2
        rw [← e2]
        exact ⟨o6, o7, rfl, rfl⟩
      · rintro x xs ρ δ ⟨pre, suf, o6, o7, e1, e2, rfl, rfl⟩
        cases suf with
        | nil => cases e1
        | cons q suf =>
          cases e1
          have hqm : q ∈ qs := by rw [e2]; simp
          have hq : Sz n d q.2 := ok.s q hqm
          have hdv : Bt (qs.length * d + 1) (lcms qs 1 / q.2.den) := (lcms_bt ok.s).le (Nat.div_le_self _ _)
          have k1 : qs.length * d + 1 < 8900 := ok.d1
          have k2 := ok.d2
          have k3 := ok.n2
          have hdp : 0 < (q.2.den : Int) := den_pos q.2
          refine tg_tup (tgs_cons <| tg_name 6 (tgs_cons <| tg_name 7 (tgs_nil ?_) sc_factor_of.nd) sc_factor_of.nd) rfl rfl
          refine bs_cons (s_set 8 (w_call Gc m1 <| wa_v <| w_var 8 rfl <| wa_v <| w_abs (w_bin <| w_ixT 7 0 rfl (r := w_bin <| w_var 5 rfl <| w_ixT 7 1 rfl (r := opw_fdiv (Bt.wdivN hq.d (by omega) (by omega)) <| opw_mul (Bt.wide (j := n) (k := qs.length * d + 1) hq.n ?_ (by omega)) ⟨_, rfl, wa_nil ⟨tops (lcms qs 1) pre 0, q.2.num.natAbs * (lcms qs 1 / q.2.den), ?_, ?_⟩⟩))) hA) sc_factor_of.nd)
          · rw [← Int.natCast_ediv, Int.natAbs_natCast]; exact hdv
          · rw [← Int.natCast_ediv]
            have : ∀ z : Int, (if z < 0 then -z else z) = (z.natAbs : Int) := fun z => by split <;> omega
            rw [this, Int.natAbs_mul, Int.natAbs_natCast]
          · refine bs_nil ⟨trivial, pre ++ [q], suf, some (.str q.1), some (dQ q.2), rfl, by rw [e2]; simp, rfl, ?_⟩
            rw [show tops (lcms qs 1) (pre ++ [q]) 0 = Nat.gcd (tops (lcms qs 1) pre 0) (q.2.num.natAbs * (lcms qs 1 / q.2.den)) by unfold tops; rw [List.foldl_append]; rfl]
            rfl
    rintro _ _ ⟨o6, o7, rfl, rfl⟩
    have hbt : Bt (qs.length * d + 1) (lcms qs 1) := lcms_bt ok.s
    have htt : Bt (n + (qs.length - 1) * d) (tops (lcms qs 1) qs 0) := tops_bt ok.s hp (hz p hp)
    have k1 : qs.length * d + 1 < 8900 := ok.d1
    have k2 : n + (qs.length - 1) * d < 8900 := ok.n1
    refine bs_cons (s_set 4 (w_call Go hr <| wa_v <| w_tup <| wi_cons <| w_var 5 rfl <| wi_cons <| w_int <| wi_nil ⟨by show 2 ≤ sizeLine; decide, wa_v <| w_tup <| wi_cons <| w_var 8 rfl <| wi_cons <| w_int <| wi_nil ⟨by show 2 ≤ sizeLine; decide, wa_nil ⟨((lcms qs 1 : Nat) : Rat), ((tops (lcms qs 1) qs 0 : Nat) : Rat), _, 1, _, 1, by rw [dQ_nat, dQ_nat], Sz_nat hbt, Sz_nat htt, ?_, by omega, by omega, by omega, ?_⟩⟩⟩) sc_factor_of.nd)
    · have := tops_ne hp (hz p hp) 0
      exact_mod_cast this
    · have r2 : R (dQ (turn sg p.2 (size qs))) := by rw [hqs] at r' ⊢; exact r'
      refine bs_cons <| s_ret <| w_ifE <| wt_ww <| ww_and <| wt_cmp <| w_var 2 rfl <| w_str <| opw_eqS ⟨_, rfl, ?_⟩
      rw [str_eq]
      by_cases hs : sg = .eq
      · rw [decide_eq_true hs]
        have hpq : (qs.map dPt)[0]? = some (dPt p) := by rw [hqs]; rfl
        have hps : Sz n d p.2 := ok.s p hp
        have k3 := ok.n2
        have k4 := ok.d2
        refine ww_and1 <| wt_cmp <| w_call Gk m1 <| wa_v <| w_ix <| w_ix <| w_var 1 rfl <| w_int ⟨0, qs.map dPt, dPt p, rfl, rfl, hpq, w_int ⟨1, _, _, rfl, rfl, rfl, wa_v <| w_gd h0 <| wa_nil ⟨p.2, 0, max n d + 1, rfl, hps.mono (by omega) (by omega), Sz.zero.mono (by omega) (by omega), by omega, w_int <| opw_lt ⟨_, rfl, ?_⟩⟩⟩⟩
        rw [decide_eq_decide.mpr (cmpQ_lt p.2 0)]
        unfold turn at r2
        by_cases hn : p.2 < 0
        · rw [decide_eq_true hn]
          rw [if_pos ⟨hs, hn⟩] at r2
          exact w_call Gn m1 <| wa_v <| w_var 4 rfl <| wa_nil ⟨_, rfl, _, rfl, rfl, r2⟩
        · rw [decide_eq_false hn]
          rw [if_neg fun z => hn z.2] at r2
          exact w_var 4 rfl ⟨_, rfl, rfl, r2⟩
      · rw [decide_eq_false hs]
        rw [turn_pos hs] at r2
        exact w_var 4 rfl ⟨_, rfl, rfl, r2⟩
end
end LP
set_option maxRecDepth 100000
set_option maxHeartbeats 4000000
/-! Dt: dict(()) of the empty tuple. -/
namespace LP
open PySem PySem.Spec PyProof.Rows L2
theorem tk0 : typeLookup (.type "tuple") "keys" = pure none := am_miss_of_fast (by first | decide +kernel | rfl)
abbrev e0o : Obj := { cls := .type "tuple", data := .seq #[] 0 }
section
variable {prog : Program} {w : World} {A : Around} {E : Value → Shared → Prop}
theorem keys_off {s : Shared} {b : Addr} {Q : Option Value → Shared → Prop} (hb : s.heap.get? b = some e0o) (hn : A.handled = none)
    (k : ∀ hp tt, (∀ c oc, s.heap.get? c = some oc → hp.get? c = some oc) → Q none { s with heap := hp, toks := tt }) : wpAny (model prog w) A (getAttr? (.ref b) "keys") Q E s := by
  obtain ⟨hp, g, d, tk, os⟩ := s
  have ty : ∀ t2, (⟨hp, g, d, t2, os⟩ : Shared).TypeIs (.ref b) "tuple" := fun _ => ⟨_, hb, rfl⟩
  have m1 := tk0
  have m2 : (["__module__", "__name__", "__qualname__", "__doc__", "__annotations__"] : List Str).contains "keys" = false := by decide +kernel
  have m3 : ("keys" : Str).length + 100 ≤ sizeLine := by first | size_fits | decide +kernel
  have m4 := sub_AttributeError
  have m5 := PySem.F.slot_tuple_getattribute.lookup
  have m6 := PySem.F.slot_tuple_getattribute.bind (.ref b)
  have m7 := am_tuple_getattr_none
  unfold getAttr? getAttrBy? getAttrBy
  repeat (any_goals (first | assumption | exact ty _ | ((with_reducible show wpAny _ _ (call (Value.builtin "tuple.__getattribute__") _ _) _ _ _); refine call_meets PySem.F.slot_tuple_getattribute (ty _) am_entry_tuple_getattribute (PySem.F.args_tuple_getattribute_2 _ _) (meets_getattribute_miss_tuple b #[] 0 #[] "keys" _ m1 m2 m3) ⟨hb, hn, fun hp2 tt2 e2 hx => ?_⟩) | wp_step))
  obtain ⟨t2, u2, hy⟩ := hx.there
  show wpAny _ _ (getattributeRaised _ _ _ _ _ _ _) _ _ _
  unfold getattributeRaised
  repeat (any_goals (first | assumption | wp_step))
  all_goals first | exact k _ _ hx.keeps | (dsimp only; repeat (any_goals (first | assumption | exact k _ _ hx.keeps | wp_step)))
theorem dict_of0 {s : Shared} {b : Addr} {Q : Value → Shared → Prop} (hn : A.handled = none) (hb : s.heap.get? b = some e0o)
    (k : ∀ hp tt, hp.DictOf (mixKind prog w) s.heap.objs.size [] → (∀ c oc, s.heap.get? c = some oc → hp.get? c = some oc) → Q (.ref s.heap.objs.size) { s with heap := hp, toks := tt }) :
    wpAny (model prog w) A (call (.type "dict") [.ref b]) Q E s := by
  refine callType_codes (Q₁ := fun z s₁ => z = .ref s.heap.objs.size ∧ s₁ = { s with heap := s.heap.push { cls := .type "dict", data := .dict #[] } }) PySem.F.kt_called_dict (PySem.F.kt_typeCall_dict_1 _) PySem.F.entry_dict_init (kt_code_dict_new _ ⟨rfl, rfl⟩) ?_
  rintro z s₁ ⟨rfl, rfl⟩
  have fresh : (s.heap.push { cls := .type "dict", data := .dict #[] }).DictOf (mixKind prog w) s.heap.objs.size [] := Heap.DictOf.new s.heap
  have p0 : ∀ c oc, s.heap.get? c = some oc → (s.heap.push { cls := .type "dict", data := .dict #[] }).get? c = some oc := fun c oc e => Heap.get?_push_of_some _ e
  refine ⟨fresh.typeIs, PySem.F.args_dict_init_2 _ _, ?_⟩
  unfold Builtin.«dict.__init__»
  refine wpAny_bind ?_
  unfold Builtin.Dict.selfAndRest
  refine wpAny_bind (wpAny_notOrdered_dict fresh.typeIs ?_)
  show wpAny _ _ (pure (s.heap.objs.size, [Value.ref b])) _ _ _
  refine wpAny_pure ?_
  show wpAny _ _ (Builtin.Dict.updateFrom "dict.__init__" s.heap.objs.size (.ref b) [] .none) _ _ _
  unfold Builtin.Dict.updateFrom
  refine wpAny_bind (wpAny_typeOf (T := "tuple") ⟨_, p0 _ _ hb, rfl⟩ ?_)
  rw [if_pos (by first | decide | rfl | simp)]
  refine wpAny_bind (keys_off (p0 _ _ hb) hn fun hp1 tt1 k1 => ?_)
  rw [if_pos (show (none : Option Value).isNone = true from rfl)]
  refine wpAny_bind (wpAny_rule ?_)
  have tu : hp1.IsTuple b #[] := ⟨_, k1 _ _ (p0 _ _ hb), rfl, 0, rfl⟩
  have new1 : hp1.DictOf (mixKind prog w) s.heap.objs.size [] := fresh.at fun o e => k1 _ _ e
  have lt1 : s.heap.objs.size < hp1.objs.size := by
    have e : (s.heap.push { cls := .type "dict", data := .dict #[] }).get? s.heap.objs.size = some { cls := .type "dict", data := .dict #[] } := Heap.get?_push_size _ rfl
    exact Heap.lt_size (k1 _ _ e)
  refine wpAny_bind (wpAny_pyIter_tuple tu ?_)
  have p2 : ∀ c oc, hp1.get? c = some oc → (hp1.push { cls := .type "tuple_iterator", data := .fields #[.ref b, .int 0 0] }).get? c = some oc := fun c oc e => Heap.get?_push_of_some _ e
  have hlt : b < s.heap.objs.size := Heap.lt_size hb
  have key : codeAny (model prog w) A.in1 (.builtin "dict.update.loop" ⟨[.ref s.heap.objs.size, .ref hp1.objs.size, .int 0 0, Value.none], []⟩) (wants (fun r s₂ => r = .none ∧ Q (.ref s.heap.objs.size) s₂) E)
      { s with heap := hp1.push { cls := .type "tuple_iterator", data := .fields #[.ref b, .int 0 0] }, toks := tt1 } := by
    refine codeAny_builtin ud_entry ?_
    rw [Around.under_plainId ud_plain _]
    show wpAny _ A.in1.in1 (pyNext (.ref hp1.objs.size) >>= _) _ _ _
    refine wpAny_bind (wpAny_pyNext_tuple_end (A := A.in1.in1) (i := 0) hn ⟨_, Heap.get?_push_size _ rfl, rfl, rfl⟩ (tu.extBut (b := hp1.objs.size) (fun c oc _ e => p2 c oc e) (Nat.ne_of_lt (Nat.lt_trans hlt lt1))) rfl fun hp3 e3 => ?_)
    show wpAny _ A.in1.in1 (Builtin.Dict.addKeywords s.heap.objs.size [] >>= _) _ _ _
    refine wpAny_bind (wpAny_pure (wpAny_pure ?_))
    refine ⟨rfl, k hp3 _ (new1.at fun o e => e3 _ o (Nat.ne_of_lt lt1) (p2 _ _ e)) fun c oc e => e3 c oc (Nat.ne_of_lt (Nat.lt_trans (Heap.lt_size e) lt1)) (p2 _ _ (k1 _ _ (p0 _ _ e)))⟩
  first
    | exact wpAny_pure ⟨plainId_quiet ud_plain _, key⟩
    | exact wpAny_bind (wpAny_pure (wpAny_pure ⟨plainId_quiet ud_plain _, key⟩))
end
section
variable {X : Cx}
theorem call_dict0 (hcalm : X.calm = true) : CallR X (.type "dict") (fun xs H Q => ∃ a : Addr, xs = [.ref a] ∧ H a = some (.frz e0o (.tup [])) ∧ ∀ p, H p = none → Q (.ref p) (upd H p (.dK []))) := by
  intro pins s σ H xs us Q I r q
  obtain ⟨a, ex, ha, q⟩ := q
  subst ex
  obtain ⟨u, eu, rx⟩ := vals1 r
  subst eu
  cases rx
  have ho : s.heap.get? a = some e0o := (I.hok a _ ha).1
  refine dict_of0 (I.ok.hd hcalm) ho fun hp tt hd k => ?_
  have hm : (s.heap.objs.size == sysModules) = false := beq_eq_false_iff_ne.mpr (Nat.ne_of_gt I.big)
  exact ⟨.ref s.heap.objs.size, upd H s.heap.objs.size (.dK []), I.laid (t' := tt) k (Nat.le_refl _) (show ObjOk X.prog X.w _ _ _ (.dK []) from ⟨Nat.zero_le _, hm, [], .nil, hd⟩), rfl, q _ (I.hok.fresh (Nat.le_refl _))⟩
def tE0 : TE := fun _ H Q => ∀ p, H p = none → Q (.ref p) (upd H p (.frz e0o (.tup [])))
theorem pe_e0 {x1 : Nat} {pos : Pos} : PE X (.Tuple [] x1 pos) tE0 := by
  refine ⟨fun pins s σ H Q I hq => ?_⟩
  refine wpAny_Tuple_spliced (thn (pa_nil.run pos pins s σ H (fun xs H1 => xs = [] ∧ H1 = H) I ⟨rfl, rfl⟩) fun us s1 ⟨xs, H1, I1, r, z, q⟩ => ?_)
  subst z q
  cases r
  refine ⟨Nat.zero_le _, ?_⟩
  exact ⟨.ref s1.heap.objs.size, upd H1 s1.heap.objs.size (.frz e0o (.tup [])), I1.laid (t' := s1.toks) (fun b u e => Heap.get?_push_of_some _ e) (Nat.le_refl _) ⟨Heap.get?_push_size _ rfl, Nat.zero_le _, [], .nil, ⟨_, Heap.get?_push_size _ rfl, rfl, _, rfl⟩⟩, rfl, hq _ (I1.hok.fresh (Nat.le_refl _))⟩
end
section
variable {X : Cx} {H0 : Hp} {ρ : Rho} {δ : Del} {e : Expr} {pos pos' p : Pos} {P : Post}
theorem w_e0 {x1 : Nat} {R : D → Prop} (r : R .e0) : W X H0 ρ δ (.Tuple [] x1 pos) R :=
  w_of pe_e0 fun σ H F S Q q => fun a ha => q _ _ _ r (.new ha) ⟨a, rfl, upd_same⟩
theorem s_setM0 (i : Nat) {x : Str} {px : Pos} (hc : X.calm = true) (h : W X H0 ρ δ e (· = .e0))
    (k : ∀ q, ρ q = none → P.nx (put ρ q (.M [])) (δ.set i (some (.obj q)))) (hm : X.mg "dict" = none) (hN : X.N.Nodup) (hg : Gl X "dict" := by rfl) (hi : X.N[i]? = some x := by rfl) (hx : Loc X.env.scope x := by first | exact Or.inl rfl | exact Or.inr rfl)
    (he : starEach [e] X.env = (false, eval e X.env) :: starEach [] X.env := by rfl)
    (hs : swapsWith (.Call (.Name "dict" p) [e] [] pos') (some (.Name x px)) pos.line X.env = pure false := by rfl) (hf : X.fn x = true ∨ X.env.scope.names.lookup x = some .local := by first | exact .inl rfl | exact .inr rfl) : S1 X H0 ρ δ (.Assign [.Name x px] (.Call (.Name "dict" p) [e] [] pos') pos) P :=
  fun σ H F S Dn od => S_of (ps_set hN hi hx (pe_callTy (call_dict0 hc) hg hm (by decide +kernel) (pa_cons pe_E pa_nil he) (by decide) (by decide) he rfl) hs hf) (h σ H F S _ fun v H1 d ed e1 iv => by
    subst ed
    obtain ⟨a, rfl, ha⟩ := iv
    exact ⟨a, rfl, ha, fun q hq => od.nx _ _ _ _ (k q (F.free (e1.free hq))) (((F.step e1).step (.new hq)).new (F.ex.free (e1.free hq)) ⟨_, upd_same, .nil⟩) (((S.step e1).step (.new hq)).set rfl) (e1.trans (.new hq)).tk⟩)
end
end LP
set_option maxRecDepth 100000
set_option maxHeartbeats 4000000
/-! Pn8: normal, row, holds, opposites. -/
namespace LP
open PySem PySem.Spec PyProof.Rows L2
/-- bits for normal -/
structure NorOk (n d e f : Nat) (r : Row) : Prop where
  s : SzL n d r.ps
  z : ∀ p ∈ r.ps, p.2 ≠ 0
  b : Sz e f r.b
  l : r.ps.length ≤ 8
  a : n + r.ps.length * d + e + f + d + 10 < 8900
theorem NorOk.fac {n d e f : Nat} {r : Row} (h : NorOk n d e f r) : FacOk n d e f r := by
  have := h.a
  have h1 : (r.ps.length - 1) * d ≤ r.ps.length * d := Nat.mul_le_mul_right _ (by omega)
  exact ⟨h.s, h.z, h.b, h.l, by omega, by omega, by omega, by omega, by omega, by omega⟩
theorem fac_sz {n d e f : Nat} {r : Row} (h : NorOk n d e f r) : Sz (r.ps.length * d + f + 2) (n + (r.ps.length - 1) * d + e + 1) (fac r) := by
  obtain ⟨ps, sg, b⟩ := r
  unfold LP.fac
  cases ps with
  | nil =>
    show Sz _ _ (if b = 0 then 1 else turn sg b (1 / ab b))
    split
    · exact Sz.one.mono (by omega) (by omega)
    · rename_i hb
      exact (turn_sz (Sz.one.div (ab_sz h.b) fun z => by have := ab_pos hb; grind)).mono (by omega) (by omega)
  | cons p ps =>
    show Sz _ _ (turn sg p.2 (size (p :: ps)))
    refine turn_sz ?_
    have hp : p ∈ p :: ps := List.mem_cons_self ..
    have h1 : Bt ((p :: ps).length * d + 1) (lcms (p :: ps) 1) := lcms_bt h.s
    have h2 : Bt (n + ((p :: ps).length - 1) * d) (tops (lcms (p :: ps) 1) (p :: ps) 0) := tops_bt h.s hp (h.z p hp)
    have h3 := (Sz_nat h1).div (Sz_nat h2) (by have := tops_ne hp (h.z p hp) 0; exact_mod_cast this)
    exact h3.mono (by show _ ≤ (p :: ps).length * d + f + 2; omega) (by show _ ≤ n + ((p :: ps).length - 1) * d + e + 1; omega)
def wNor : List D → (D → Prop) → Prop := fun ds R => ∃ (r : Row) (n d e f : Nat), ds = [dRow r] ∧ NorOk n d e f r ∧ R (dRow (norm r))
inductive Sn | eq | le | lt | ge | gt
def Sn.str : Sn → Str
  | .eq => "="
  | .le => "<="
  | .lt => "<"
  | .ge => ">="
  | .gt => ">"
/-- a row of gathered parts -/
def mkRow (sn : Sn) (qs : Pts) (b : Rat) : Row := match sn with
  | .eq => norm ⟨qs, .eq, b⟩
  | .le => norm ⟨qs, .le, b⟩
  | .lt => norm ⟨qs, .lt, b⟩
  | .ge => norm ⟨qs.map fun p => (p.1, -1 * p.2), .le, -b⟩
  | .gt => norm ⟨qs.map fun p => (p.1, -1 * p.2), .lt, -b⟩
def wRow : List D → (D → Prop) → Prop := fun ds R => ∃ (ps : Pts) (sn : Sn) (b : Rat), ds = [.lst (ps.map dPt), .str sn.str, dQ b] ∧ SzL 2 1 ps ∧ (∀ u, cnt ps u ≤ 1) ∧ ps.length ≤ 8 ∧ Sz 20 20 b ∧ R (dRow (mkRow sn (gath ps) b))
theorem canon_len {ps qs : Pts} (c : Canon qs) (h : ∀ u, coef qs u = coef ps u) : qs.length ≤ ps.length := by
  have := List.Nodup.length_le_of_subset c.nd (l₂ := ps.map (·.1)) fun u hu => by
    obtain ⟨p, hp, rfl⟩ := List.mem_map.mp hu
    exact c.names h hp
  simpa using this
/-- no unknowns left: does it hold -/
def holds0 (r : Row) : Bool := match r.sg with
  | .eq => decide ((0 : Rat) = r.b)
  | .le => decide (0 < r.b) || decide ((0 : Rat) = r.b)
  | .lt => decide (0 < r.b)
def wHol : List D → (D → Prop) → Prop := fun ds R => ∃ (r : Row) (k : Nat), ds = [dRow r, .e0] ∧ r.ps = [] ∧ Sz k k r.b ∧ k ≤ 80000 ∧ R (.bl (holds0 r))
def wSum0 : List D → (D → Prop) → Prop := fun ds R => ds = [.tup [], .e0] ∧ R (dQ 0)
def opps (r : Row) : List Row := match r.sg with
  | .le => [mkRow .gt (gath r.ps) r.b]
  | .lt => [mkRow .ge (gath r.ps) r.b]
  | .eq => [mkRow .lt (gath r.ps) r.b, mkRow .gt (gath r.ps) r.b]
/-- a row as it is given: whole small parts -/
structure L0 (k : Nat) (r : Row) : Prop where
  c : Canon r.ps
  s : SzL 2 1 r.ps
  l : r.ps.length ≤ 3
  b : Sz k k r.b
theorem flat_row (r : Row) : (dRow r).flat = true := by
  show (D.flats (r.ps.map dPt) && (true && (true && true))) = true
  rw [flat_map dPt (fun _ _ => rfl)]
  rfl
section
variable {P : Program} {w : World} {K : PySem.W.Frag} {mg : Str → Option Value} {base : Heap} {f : Addr} {fd : FuncData}
theorem ok_normal (F : Fun K "normal" "normal" s_normal f fd) (Gf : Def P w K mg base 4 "factor_of" P_factor_of (spD K wFac)) (Gm : Def P w K mg base 4 "multiplied" P_multiplied (spD K wMul)) (Gt : Def P w K mg base 3 "times" P_times (spD K (wOp (· * ·)))) : FnOk P w K mg base CX0 5 f fd P_normal (spD K wNor) := by
  refine okD F sc_normal (fun ds R h => by obtain ⟨r, n, d, e, f, rfl, _⟩ := h; rfl) fun cdv A outer s H E hr ds R h => ?_
  obtain ⟨⟨ps, sg, b⟩, n, d, e, f, rfl, ok, r⟩ := h
  have hs := fac_sz ok
  have ha : n + ps.length * d + e + f + d + 10 < 8900 := ok.a
  have hl : ps.length ≤ 8 := ok.l
  have h1 : (ps.length - 1) * d ≤ ps.length * d := Nat.mul_le_mul_right _ (by omega)
  have hs' : Sz (ps.length * d + f + 2) (n + (ps.length - 1) * d + e + 1) (fac ⟨ps, sg, b⟩) := hs
  refine bs_cons (s_asg (w_var 0 rfl (tg_tup (tgs_cons <| tg_name 1 (tgs_cons <| tg_name 2 (tgs_cons <| tg_name 3 (tgs_nil ?_) sc_normal.nd) sc_normal.nd) sc_normal.nd) rfl rfl)))
  refine bs_cons (s_set 4 (w_call Gf hr <| wa_v <| w_var 0 rfl <| wa_nil ⟨⟨ps, sg, b⟩, n, d, e, f, rfl, ok.fac, ?_⟩) sc_normal.nd)
  refine bs_cons <| s_ret <| w_tup <| wi_cons <| w_call Gm hr <| wa_v <| w_var 1 rfl <| wa_v <| w_var 4 rfl <| wa_nil ⟨ps, fac ⟨ps, sg, b⟩, n, d, _, _, rfl, ok.s, hs', by omega, by omega, by omega, by omega, wi_cons <| w_var 2 rfl <| wi_cons <| w_call Gt (hr.mono (by decide)) <| wa_v <| w_var 4 rfl <| wa_v <| w_var 3 rfl <| wa_nil ⟨fac ⟨ps, sg, b⟩, b, _, _, e, f, rfl, hs', ok.b, by omega, by omega, by omega, wi_nil ⟨by show 3 ≤ sizeLine; decide, ?_⟩⟩⟩
  exact ⟨_, rfl, flat_row (norm ⟨ps, sg, b⟩), r⟩
theorem ok_sum_at (F : Fun K "sum_at" "sum_at" s_sum_at f fd) (h0 : GD K mg "ZERO" (dQ 0)) (hD : mg "dict" = none) : FnOk P w K mg base CX0 1 f fd P_sum_at (spD K wSum0) := by
  refine okD F sc_sum_at (fun ds R h => by obtain ⟨rfl, _⟩ := h; rfl) fun cdv A outer s H E hr ds R h => ?_
  obtain ⟨rfl, r⟩ := h
  refine bs_cons (s_setM0 2 rfl (w_var 1 rfl rfl) (fun q hq => ?_) hD sc_sum_at.nd)
  refine bs_cons (s_set 3 (w_gd h0 ?_) sc_sum_at.nd)
  refine bs_cons (s_for (it_tup <| w_var 0 rfl ⟨[], rfl, ?_⟩) rfl PassesOwn.never)
  exact bs_cons <| s_ret <| w_var 3 rfl ⟨_, rfl, rfl, r⟩
theorem ok_holds (F : Fun K "holds" "holds" s_holds f fd) (Gs : Def P w K mg base 1 "sum_at" P_sum_at (spD K wSum0)) (Gk : Def P w K mg base 1 "compare" P_compare (spD K wCmp)) : FnOk P w K mg base CX0 2 f fd P_holds (spD K wHol) := by
  refine okD F sc_holds (fun ds R h => by obtain ⟨r, k, rfl, _⟩ := h; rfl) fun cdv A outer s H E hr ds R h => ?_
  obtain ⟨⟨ps, sg, b⟩, k, rfl, hp, hb, hk, r⟩ := h
  have hp : ps = [] := hp
  subst hp
  have hb : Sz k k b := hb
  refine bs_cons (s_asg (w_var 0 rfl (tg_tup (tgs_cons <| tg_name 2 (tgs_cons <| tg_name 3 (tgs_cons <| tg_name 4 (tgs_nil ?_) sc_holds.nd) sc_holds.nd) sc_holds.nd) rfl rfl)))
  refine bs_cons (s_set 5 (w_call Gk hr <| wa_v <| w_call Gs hr <| wa_v <| w_var 2 rfl <| wa_v <| w_var 1 rfl <| wa_nil ⟨rfl, wa_v <| w_var 4 rfl <| wa_nil ⟨0, b, k + 1, rfl, Sz.zero.mono (by omega) (by omega), hb.mono (by omega) (by omega), by omega, ?_⟩⟩) sc_holds.nd)
  refine bs_If <| wt_cmp <| w_var 3 rfl <| w_str <| opw_eqS ⟨_, rfl, ?_⟩
  rw [str_eq]
  cases sg with
  | eq =>
    refine bs_cons <| s_ret <| w_cmp <| w_var 5 rfl <| w_int <| opw_eqI ?_
    rw [decide_eq_decide.mpr (cmpQ_eq 0 b)]
    exact ⟨_, rfl, rfl, r⟩
  | le =>
    refine bs_nil <| bs_cons <| s_ret <| w_or <| w_cmp <| w_var 5 rfl <| w_int <| opw_lt ⟨_, rfl, ?_⟩
    rw [decide_eq_decide.mpr (cmpQ_lt 0 b)]
    have r' : R (.bl (decide (0 < b) || decide ((0 : Rat) = b))) := r
    cases h1 : decide (0 < b) with
    | true => rw [h1] at r'; exact ⟨_, rfl, rfl, r'⟩
    | false =>
      rw [h1] at r'
      refine w_one <| w_and <| w_cmp <| w_var 5 rfl <| w_int <| opw_eqI ⟨_, rfl, ?_⟩
      rw [decide_eq_decide.mpr (cmpQ_eq 0 b)]
      cases h2 : decide ((0 : Rat) = b) with
      | false => rw [h2] at r'; exact ⟨_, rfl, rfl, r'⟩
      | true =>
        rw [h2] at r'
        exact w_one <| w_cmp <| w_var 3 rfl <| w_str <| opw_eqS ⟨_, rfl, rfl, r'⟩
  | lt =>
    refine bs_nil <| bs_cons <| s_ret <| w_or <| w_cmp <| w_var 5 rfl <| w_int <| opw_lt ⟨_, rfl, ?_⟩
    rw [decide_eq_decide.mpr (cmpQ_lt 0 b)]
    have r' : R (.bl (decide (0 < b))) := r
    cases h1 : decide (0 < b) with
    | true => rw [h1] at r'; exact ⟨_, rfl, rfl, r'⟩
    | false =>
      rw [h1] at r'
      refine w_one <| w_and <| w_cmp <| w_var 5 rfl <| w_int <| opw_eqI ⟨_, rfl, ?_⟩
      rw [decide_eq_decide.mpr (cmpQ_eq 0 b)]
      cases h2 : decide ((0 : Rat) = b) with
      | false => exact ⟨_, rfl, rfl, r'⟩
      | true => exact w_one <| w_cmp <| w_var 3 rfl <| w_str <| opw_eqS ⟨_, rfl, rfl, r'⟩
theorem nor_of {qs : Pts} {sg : Sg} {b : Rat} (c : Canon qs) (s : SzL 2 1 qs) (l : qs.length ≤ 8) (hb : Sz 20 20 b) : NorOk 2 1 20 20 ⟨qs, sg, b⟩ :=
  ⟨s, c.nz, hb, l, by show 2 + qs.length * 1 + 20 + 20 + 1 + 10 < 8900; omega⟩
theorem nor_neg {qs : Pts} {sg : Sg} {b : Rat} (c : Canon qs) (s : SzL 2 1 qs) (l : qs.length ≤ 8) (hb : Sz 20 20 b) : NorOk 2 1 20 20 ⟨qs.map fun p => (p.1, -1 * p.2), sg, -b⟩ := by
  refine nor_of (c.map (by decide)) (fun p hp => ?_) (by rw [List.length_map]; exact l) hb.neg
  obtain ⟨q, hq, rfl⟩ := List.mem_map.mp hp
  rw [show (-1 : Rat) * q.2 = -q.2 by grind]
  exact (s q hq).neg
theorem ok_row (F : Fun K "row" "row" s_row f fd) (Gg : Def P w K mg base 4 "gathered" P_gathered (spD K wGath)) (Gn : Def P w K mg base 5 "normal" P_normal (spD K wNor)) (Gm : Def P w K mg base 4 "multiplied" P_multiplied (spD K wMul)) (Go : Def P w K mg base 1 "opposite" P_opposite (spD K wOpp)) : FnOk P w K mg base CX0 6 f fd P_row (spD K wRow) := by
  refine okD F sc_row (fun ds R h => by obtain ⟨ps, sn, b, rfl, _⟩ := h; rfl) fun cdv A outer s H E hr ds R h => ?_
  obtain ⟨ps, sn, b, rfl, h1, h2, h3, h4, r⟩ := h
  have hu := hr.units
  refine bs_cons (s_set 3 (w_call Gg (hr.mono (by decide)) <| wa_v <| w_var 0 rfl <| wa_nil ⟨ps, 2, 1, 1, rfl, h1, h2, by decide, by decide, by decide, by decide, by decide, by omega, ?_⟩) sc_row.nd)
  have c := gath_canon ps
  have hc := gath_coef ps
  generalize gath ps = qs at *
  have s2 : SzL 2 1 qs := (c.sz hc (by decide) (by decide) (by decide) h1 h2).mono (by decide) (by decide)
  have hl : qs.length ≤ 8 := Nat.le_trans (canon_len c hc) h3
  have m5 := hr
  have m4 := hr.mono (show 4 ≤ 5 by decide)
  have m1 := hr.mono (show 1 ≤ 5 by decide)
  have hin : ∀ k : Bool, (k = true ↔ (D.str sn.str) ∈ [D.str ">=", D.str ">"]) → BS (cxOf CX0 P w K mg base N_row "row" (defScope s_row) f cdv A outer s H E).nox H noR [some (.lst (ps.map dPt)), some (.str sn.str), some (dQ b), some (dPts qs)]
      ((defBody s_row).drop 1) (PD R) := by
    intro k hk
    refine bs_If <| wt_cmp <| w_var 1 rfl <| w_tup <| wi_cons <| w_str <| wi_cons <| w_str <| wi_nil ⟨by show 2 ≤ sizeLine; decide, opw_inT hu (xs := [D.str ">=", D.str ">"]) rfl hk ⟨_, rfl, ?_⟩ (fun x hx => by rcases List.mem_cons.mp hx with rfl | hx; rfl; rcases List.mem_cons.mp hx with rfl | hx; rfl; cases hx)⟩
    have neg : ∀ sg : Sg, R (dRow (norm ⟨qs.map fun p => (p.1, -1 * p.2), sg, -b⟩)) → (sn.str = ">=" → sg = .le) → (sn.str ≠ ">=" → sg = .lt) → BS (cxOf CX0 P w K mg base N_row "row" (defScope s_row) f cdv A outer s H E).nox H noR [some (.lst (ps.map dPt)), some (.str sn.str), some (dQ b), some (dPts qs)]
        (match (defBody s_row)[1]? with | some (Stmt.If _ b _ _) => b | _ => []) { PD R with nx := fun ρ' δ' => BS (cxOf CX0 P w K mg base N_row "row" (defScope s_row) f cdv A outer s H E).nox H ρ' δ' ((defBody s_row).drop 2) (PD R) } := by
      intro sg hR hs1 hs2
      refine bs_cons <| s_ret <| w_call Gn m5 <| wa_v <| w_tup <| wi_cons <| w_call Gm m4 <| wa_v <| w_var 3 rfl <| wa_v <| w_tup <| wi_cons <| w_neg <| w_int ⟨1, rfl, wi_cons <| w_int <| wi_nil ⟨by show 2 ≤ sizeLine; decide, wa_nil ⟨qs, -1, 2, 1, 1, 1, rfl, s2, Sz.one.neg, by decide, by decide, by decide, by omega, wi_cons <| w_ifE <| wt_cmp <| w_var 1 rfl <| w_str <| opw_eqS ⟨_, rfl, ?_⟩⟩⟩⟩
      have tail : ∀ sg, R (dRow (norm ⟨qs.map fun p => (p.1, -1 * p.2), sg, -b⟩)) → True := fun _ _ => trivial
      by_cases hq : sn.str = ">="
      · rw [decide_eq_true hq]
        have e := hs1 hq
        subst e
        exact w_str <| wi_cons <| w_call Go m1 <| wa_v <| w_var 2 rfl <| wa_nil ⟨b, rfl, wi_nil ⟨by show 3 ≤ sizeLine; decide, wa_nil ⟨⟨qs.map fun p => (p.1, -1 * p.2), .le, -b⟩, 2, 1, 20, 20, rfl, nor_neg c s2 hl h4, _, rfl, flat_row _, hR⟩⟩⟩
      · rw [decide_eq_false hq]
        have e := hs2 hq
        subst e
        exact w_str <| wi_cons <| w_call Go m1 <| wa_v <| w_var 2 rfl <| wa_nil ⟨b, rfl, wi_nil ⟨by show 3 ≤ sizeLine; decide, wa_nil ⟨⟨qs.map fun p => (p.1, -1 * p.2), .lt, -b⟩, 2, 1, 20, 20, rfl, nor_neg c s2 hl h4, _, rfl, flat_row _, hR⟩⟩⟩
    have pos : ∀ sg : Sg, R (dRow (norm ⟨qs, sg, b⟩)) → sg.str = sn.str → BS (cxOf CX0 P w K mg base N_row "row" (defScope s_row) f cdv A outer s H E).nox H noR [some (.lst (ps.map dPt)), some (.str sn.str), some (dQ b), some (dPts qs)] ((defBody s_row).drop 2) (PD R) := by
      intro sg hR e
      refine bs_cons <| s_ret <| w_call Gn m5 <| wa_v <| w_tup <| wi_cons <| w_var 3 rfl <| wi_cons <| w_var 1 rfl <| wi_cons <| w_var 2 rfl <| wi_nil ⟨by show 3 ≤ sizeLine; decide, wa_nil ⟨⟨qs, sg, b⟩, 2, 1, 20, 20, ?_, nor_of c s2 hl h4, _, rfl, flat_row _, hR⟩⟩
      unfold dRow
      rw [e]
    cases sn with
    | eq =>
      have : k = false := by
        cases k with
        | false => rfl
        | true => exact absurd (hk.mp rfl) (by simp [Sn.str]; decide)
      subst this
      exact bs_nil (pos .eq r rfl)
    | le =>
      have : k = false := by
        cases k with
        | false => rfl
        | true => exact absurd (hk.mp rfl) (by simp [Sn.str]; decide)
      subst this
      exact bs_nil (pos .le r rfl)
    | lt =>
      have : k = false := by
        cases k with
        | false => rfl
        | true => exact absurd (hk.mp rfl) (by simp [Sn.str]; decide)
      subst this
      exact bs_nil (pos .lt r rfl)
    | ge =>
      have : k = true := hk.mpr (by simp [Sn.str])
      subst this
      exact neg .le r (fun _ => rfl) (fun z => absurd rfl z)
    | gt =>
      have : k = true := hk.mpr (by simp [Sn.str])
      subst this
      exact neg .lt r (fun z => absurd z (by decide)) (fun _ => rfl)
  by_cases hq : (D.str sn.str) ∈ [D.str ">=", D.str ">"]
  · exact hin true ⟨fun _ => hq, fun _ => rfl⟩
  · exact hin false ⟨(fun z => by cases z), fun z => absurd z hq⟩
end
end LP
set_option maxRecDepth 100000
/-! Fm: formulas. -/
namespace LP
open L2
inductive Fm where
  | row (r : Row)
  | tt
  | ff
  | conj (l : List Fm)
  | disj (l : List Fm)
  | neg (f : Fm)
mutual
def dF : Fm → D
  | .row r => .tup [.str "row", dRow r]
  | .tt => .tup [.str "true"]
  | .ff => .tup [.str "false"]
  | .conj l => .tup [.str "and", .tup (dFs l)]
  | .disj l => .tup [.str "or", .tup (dFs l)]
  | .neg f => .tup [.str "not", dF f]
def dFs : List Fm → List D
  | [] => []
  | f :: fs => dF f :: dFs fs
end
theorem dFs_map : ∀ l : List Fm, dFs l = l.map dF
  | [] => rfl
  | f :: fs => by rw [dFs, dFs_map fs]; rfl
mutual
def pl : Fm → Fm
  | .neg f => dn f
  | .conj l => .conj (pls l)
  | .disj l => .disj (pls l)
  | .row r => .row r
  | .tt => .tt
  | .ff => .ff
def dn : Fm → Fm
  | .neg f => pl f
  | .conj l => .disj (dns l)
  | .disj l => .conj (dns l)
  | .tt => .ff
  | .ff => .tt
  | .row r => match (opps r).map Fm.row with
    | [x] => x
    | xs => .disj xs
def pls : List Fm → List Fm
  | [] => []
  | f :: fs => pl f :: pls fs
def dns : List Fm → List Fm
  | [] => []
  | f :: fs => dn f :: dns fs
end
theorem pls_map : ∀ l : List Fm, pls l = l.map pl
  | [] => rfl
  | f :: fs => by rw [pls, pls_map fs]; rfl
theorem dns_map : ∀ l : List Fm, dns l = l.map dn
  | [] => rfl
  | f :: fs => by rw [dns, dns_map fs]; rfl
mutual
def dep : Fm → Nat
  | .neg f => dep f + 1
  | .conj l => deps l + 1
  | .disj l => deps l + 1
  | _ => 0
def deps : List Fm → Nat
  | [] => 0
  | f :: fs => max (dep f) (deps fs)
end
theorem deps_mem : ∀ {l : List Fm} {f : Fm}, f ∈ l → dep f ≤ deps l
  | g :: l, f, h => by
    rw [deps]
    rcases List.mem_cons.mp h with rfl | h
    · omega
    · have := deps_mem h; omega
/-- rows as they are given, lists not long -/
structure RowIn (r : Row) : Prop where
  c : Canon r.ps
  s : SzL 2 1 r.ps
  l : r.ps.length ≤ 8
  b : Sz 20 20 r.b
mutual
def FmIn : Fm → Prop
  | .row r => RowIn r
  | .neg f => FmIn f
  | .conj l => l.length ≤ 1000 ∧ FmsIn l
  | .disj l => l.length ≤ 1000 ∧ FmsIn l
  | _ => True
def FmsIn : List Fm → Prop
  | [] => True
  | f :: fs => FmIn f ∧ FmsIn fs
end
theorem fmsIn_mem : ∀ {l : List Fm} {f : Fm}, FmsIn l → f ∈ l → FmIn f
  | g :: l, f, h, m => by
    rw [FmsIn] at h
    rcases List.mem_cons.mp m with rfl | m
    · exact h.1
    · exact fmsIn_mem h.2 m
mutual
theorem dF_flat : ∀ f : Fm, (dF f).flat = true
  | .row r => by
    show (true && ((dRow r).flat && true)) = true
    rw [flat_row]; rfl
  | .tt => rfl
  | .ff => rfl
  | .conj l => by
    show (true && (D.flats (dFs l) && true)) = true
    rw [dFs_flat l]; rfl
  | .disj l => by
    show (true && (D.flats (dFs l) && true)) = true
    rw [dFs_flat l]; rfl
  | .neg f => by
    show (true && ((dF f).flat && true)) = true
    rw [dF_flat f]; rfl
theorem dFs_flat : ∀ l : List Fm, D.flats (dFs l) = true
  | [] => rfl
  | f :: fs => by
    rw [dFs]
    show ((dF f).flat && D.flats (dFs fs)) = true
    rw [dF_flat f, dFs_flat fs]; rfl
end
end LP
set_option maxRecDepth 100000
set_option maxHeartbeats 4000000
/-! Pn9: opposites, denied, plain. -/
namespace LP
open PySem PySem.Spec PyProof.Rows L2
section
variable {X : Cx} {H0 : Hp} {ρ : Rho} {δ : Del} {b e : Expr} {pos p : Pos}
theorem opw_inS {x : Str} {d : D} (l : List Str) {k : Bool} {R : D → Prop} (hu : X.A.units + 64 < cLine) (hs : SeqD ρ d (l.map .str)) (hk : decide (x ∈ l) = k) (r : R (.bl k)) : OpW X H0 ρ (compareOp .In) (.str x) d R :=
  opw_inT hu hs (by
    rw [← hk, decide_eq_true_eq]
    constructor
    · exact fun h => List.mem_map_of_mem h
    · intro h
      obtain ⟨y, hy, e⟩ := List.mem_map.mp h
      cases e
      exact hy) r (fun y hy => by obtain ⟨z, _, rfl⟩ := List.mem_map.mp hy; rfl)
/-- a written dict of texts -/
def GDct (K : PySem.W.Frag) (w : World) (mg : Str → Option Value) (x z o : Str) : Prop := ∃ q, mg x = some (.ref q) ∧ KDct K w q z (.str o)
theorem w_kdict {x z o : Str} {R : D → Prop} (h : GDct X.K X.w X.mg x z o) (hb : W X H0 ρ δ b (· = .str z)) (r : R (.str o)) (hg : Gl X x := by rfl) (hd : (x == ("__debug__" : Str)) = false := by decide) (hs : PlainIx b := by intro _ _; rfl) : W X H0 ρ δ (.Subscript (.Name x p) b pos) R := by
  obtain ⟨q, hm, k⟩ := h
  exact w_of (pe_ix ix_kdict (pe_glob hg hm (v := .ref q) rfl hd) pe_E hs) fun σ H F S Q qq => hb σ H F S _ fun y H1 d ed e1 iy => by
    subst ed
    cases iy
    exact ⟨q, z, _, rfl, rfl, k, qq _ H1 _ r e1 rfl⟩
end
def wOpps : List D → (List D → Prop) → Prop := fun ds R => ∃ r : Row, ds = [dRow r] ∧ RowIn r ∧ R ((opps r).map dRow)
theorem cnt_canon {ps : Pts} (c : Canon ps) (u : Str) : cnt ps u ≤ 1 := cnt_nd c.nd
def oppsG (r : Row) : List Row := match r.sg with
  | .le => [mkRow .gt (gath r.ps) r.b]
  | .lt => [mkRow .ge (gath r.ps) r.b]
  | .eq => [mkRow .lt (gath r.ps) r.b, mkRow .gt (gath r.ps) r.b]
theorem flat_rows (l : List Row) : D.flats (l.map dRow) = true := by
  induction l with
  | nil => rfl
  | cons r l ih =>
    rw [List.map_cons]
    show ((dRow r).flat && D.flats (l.map dRow)) = true
    rw [flat_row, ih]; rfl
section
variable {P : Program} {w : World} {K : PySem.W.Frag} {mg : Str → Option Value} {base : Heap} {f : Addr} {fd : FuncData}
theorem ok_opposites (F : Fun K "opposites" "opposites" s_opposites f fd) (Gr : Def P w K mg base 6 "row" P_row (spD K wRow)) (hL : mg "list" = none) : FnOk P w K mg base CX0 7 f fd P_opposites (spL K wOpps) := by
  refine okL F sc_opposites (fun ds R h => by obtain ⟨r, rfl, _⟩ := h; rfl) fun cdv A outer s H E hr ds R h => ?_
  obtain ⟨⟨ps, sg, b⟩, rfl, ok, r⟩ := h
  refine bs_cons (s_asg (w_var 0 rfl (tg_tup (tgs_cons <| tg_name 1 (tgs_cons <| tg_name 2 (tgs_cons <| tg_name 3 (tgs_nil ?_) sc_opposites.nd) sc_opposites.nd) sc_opposites.nd) rfl rfl)))
  refine bs_cons (s_setL 4 (wl_list (w_var 1 rfl ⟨_, rfl, fun p hp => ?_⟩) hL) sc_opposites.nd)
  have call : ∀ (sn : Sn) (R : D → Prop), R (dRow (mkRow sn (gath ps) b)) → wRow [D.lst (ps.map dPt), .str sn.str, dQ b] R := fun sn R h => ⟨ps, sn, b, rfl, ok.s, cnt_canon ok.c, ok.l, ok.b, h⟩
  have key := fun (sn : Sn) (c : Expr) (R' : D → Prop) => call sn R'
  refine bs_If <| wt_cmp <| w_var 2 rfl <| w_str <| opw_eqS ⟨_, rfl, ?_⟩
  rw [str_le]
  cases sg with
  | le =>
    refine bs_cons <| s_retL <| wl_lst <| wi_cons <| w_call Gr hr <| wa_o <| w_var 4 rfl ⟨p, _, rfl, put_same, wa_v <| w_str <| wa_v <| w_var 3 rfl <| wa_nil (call .gt _ (wi_nil ⟨by show 1 ≤ sizeLine; decide, ?_⟩))⟩
    exact ⟨_, rfl, flat_rows [mkRow .gt (gath ps) b], r⟩
  | lt =>
    refine bs_nil <| bs_If <| wt_cmp <| w_var 2 rfl <| w_str <| opw_eqS ⟨_, rfl, ?_⟩
    rw [str_lt]
    refine bs_cons <| s_retL <| wl_lst <| wi_cons <| w_call Gr hr <| wa_o <| w_var 4 rfl ⟨p, _, rfl, put_same, wa_v <| w_str <| wa_v <| w_var 3 rfl <| wa_nil (call .ge _ (wi_nil ⟨by show 1 ≤ sizeLine; decide, ?_⟩))⟩
    exact ⟨_, rfl, flat_rows [mkRow .ge (gath ps) b], r⟩
  | eq =>
    refine bs_nil <| bs_If <| wt_cmp <| w_var 2 rfl <| w_str <| opw_eqS ⟨_, rfl, ?_⟩
    rw [str_lt]
    refine bs_nil <| bs_cons <| s_retL <| wl_lst <| wi_cons <| w_call Gr hr <| wa_o <| w_var 4 rfl ⟨p, _, rfl, put_same, wa_v <| w_str <| wa_v <| w_var 3 rfl <| wa_nil (call .lt _ (wi_cons <| w_call Gr hr <| wa_o <| w_var 4 rfl ⟨p, _, rfl, put_same, wa_v <| w_str <| wa_v <| w_var 3 rfl <| wa_nil (call .gt _ (wi_nil ⟨by show 2 ≤ sizeLine; decide, ?_⟩))⟩))⟩
    exact ⟨_, rfl, flat_rows [mkRow .lt (gath ps) b, mkRow .gt (gath ps) b], r⟩
end
end LP
set_option maxRecDepth 100000
set_option maxHeartbeats 4000000
/-! Pn10: denied, plain. -/
namespace LP
open PySem PySem.Spec PyProof.Rows L2
def wDen (n : Nat) : List D → (D → Prop) → Prop := fun ds R => ∃ g : Fm, ds = [dF g] ∧ dep g ≤ n ∧ FmIn g ∧ R (dF (dn g))
def wPln (n : Nat) : List D → (D → Prop) → Prop := fun ds R => ∃ g : Fm, ds = [dF g] ∧ dep g ≤ n ∧ FmIn g ∧ R (dF (pl g))
/-- the words' dict -/
structure Oth (K : PySem.W.Frag) (w : World) (mg : Str → Option Value) : Prop where
  a : GDct K w mg "OTHER" "and" "or"
  o : GDct K w mg "OTHER" "or" "and"
  t : GDct K w mg "OTHER" "true" "false"
  f : GDct K w mg "OTHER" "false" "true"
theorem dF_conj (l : List Fm) : dF (.conj l) = .tup [.str "and", .tup (l.map dF)] := by rw [dF, dFs_map]
theorem dF_disj (l : List Fm) : dF (.disj l) = .tup [.str "or", .tup (l.map dF)] := by rw [dF, dFs_map]
theorem dF_neg (g : Fm) : dF (.neg g) = .tup [.str "not", dF g] := rfl
theorem dF_row (r : Row) : dF (.row r) = .tup [.str "row", dRow r] := rfl
section
variable {P : Program} {w : World} {K : PySem.W.Frag} {mg : Str → Option Value} {base : Heap} {f : Addr} {fd : FuncData}
theorem step_denied (m : Nat) (F : Fun K "denied" "denied" s_denied f fd) (Gd : m ≠ 0 → Def P w K mg base (7 + m) "denied" P_denied (spD K (wDen (m - 1)))) (Gp : m ≠ 0 → Def P w K mg base (7 + m) "plain" P_plain (spD K (wPln (m - 1))))
    (Go : Def P w K mg base 7 "opposites" P_opposites (spL K wOpps)) (hO : Oth K w mg) (hT : mg "tuple" = none) (hL : mg "len" = none) : FnOk P w K mg base CX0 (8 + m) f fd P_denied (spD K (wDen m)) := by
  rw [show 8 + m = 7 + m + 1 by omega]
  refine okD F sc_denied (fun ds R h => by obtain ⟨g, rfl, _⟩ := h; rfl) fun cdv A outer s H E hr ds R h => ?_
  obtain ⟨g, rfl, hd, hin, r⟩ := h
  have hu := hr.units
  have m7 := hr.mono (show 7 ≤ 7 + m by omega)
  cases g with
  | neg g =>
    have h1 : dep g + 1 ≤ m := hd
    have hm : m ≠ 0 := by omega
    refine bs_cons (s_set 1 (w_ixT (xs := [.str "not", dF g]) 0 0 rfl (r := ?_)) sc_denied.nd)
    refine bs_If <| wt_cmp <| w_var 1 rfl <| w_str <| opw_eqS ⟨_, rfl, ?_⟩
    exact bs_cons <| s_ret <| w_call (Gp hm) hr <| wa_v <| w_ixT (xs := [.str "not", dF g]) 0 1 rfl (r := wa_nil ⟨g, rfl, by omega, hin, _, rfl, dF_flat _, r⟩)
  | conj l =>
    have h1 : deps l + 1 ≤ m := hd
    have hm : m ≠ 0 := by omega
    rw [dF_conj]
    rw [dn, dns_map, dF_disj] at r
    refine bs_cons (s_set 1 (w_ixT (xs := [.str "and", .tup (l.map dF)]) 0 0 rfl (r := ?_)) sc_denied.nd)
    refine bs_If <| wt_cmp <| w_var 1 rfl <| w_str <| opw_eqS ⟨_, rfl, ?_⟩
    refine bs_nil <| bs_If <| wt_cmp <| w_var 1 rfl <| w_tup <| wi_cons <| w_str <| wi_cons <| w_str <| wi_nil ⟨by show 2 ≤ sizeLine; decide, opw_inS ["and", "or"] hu rfl (k := true) (by decide) ⟨_, rfl, ?_⟩⟩
    refine bs_cons <| s_ret <| w_tup <| wi_cons <| w_kdict hO.a (w_var 1 rfl rfl) <| wi_cons <| w_tupL (lc1 (α := Fm) [("part", 4)] 4 sc_denied.nd (it_tup <| w_ixT (xs := [.str "and", .tup (l.map dF)]) 0 1 rfl (r := ⟨_, rfl, by rw [List.length_map]; exact le_line (by have := hin.1; omega), l, dF, fun g => dF (dn g), rfl, fun a ha s' H' C cl fp => ?_, wi_nil ⟨by show 2 ≤ sizeLine; decide, _, rfl, ?_, ?_⟩⟩))) hT
    · exact w_call (Gd hm) hr <| wa_v <| w_var 4 rfl <| wa_nil ⟨a, rfl, by have := deps_mem ha; omega, fmsIn_mem hin.2 ha, rfl⟩
    · have := dF_flat (.disj (l.map dn))
      rw [dF_disj, List.map_map] at this
      exact this
    · rw [List.map_map] at r
      exact r
  | disj l =>
    have h1 : deps l + 1 ≤ m := hd
    have hm : m ≠ 0 := by omega
    rw [dF_disj]
    rw [dn, dns_map, dF_conj] at r
    refine bs_cons (s_set 1 (w_ixT (xs := [.str "or", .tup (l.map dF)]) 0 0 rfl (r := ?_)) sc_denied.nd)
    refine bs_If <| wt_cmp <| w_var 1 rfl <| w_str <| opw_eqS ⟨_, rfl, ?_⟩
    refine bs_nil <| bs_If <| wt_cmp <| w_var 1 rfl <| w_tup <| wi_cons <| w_str <| wi_cons <| w_str <| wi_nil ⟨by show 2 ≤ sizeLine; decide, opw_inS ["and", "or"] hu rfl (k := true) (by decide) ⟨_, rfl, ?_⟩⟩
    refine bs_cons <| s_ret <| w_tup <| wi_cons <| w_kdict hO.o (w_var 1 rfl rfl) <| wi_cons <| w_tupL (lc1 (α := Fm) [("part", 4)] 4 sc_denied.nd (it_tup <| w_ixT (xs := [.str "or", .tup (l.map dF)]) 0 1 rfl (r := ⟨_, rfl, by rw [List.length_map]; exact le_line (by have := hin.1; omega), l, dF, fun g => dF (dn g), rfl, fun a ha s' H' C cl fp => ?_, wi_nil ⟨by show 2 ≤ sizeLine; decide, _, rfl, ?_, ?_⟩⟩))) hT
    · exact w_call (Gd hm) hr <| wa_v <| w_var 4 rfl <| wa_nil ⟨a, rfl, by have := deps_mem ha; omega, fmsIn_mem hin.2 ha, rfl⟩
    · have := dF_flat (.conj (l.map dn))
      rw [dF_conj, List.map_map] at this
      exact this
    · rw [List.map_map] at r
      exact r
  | tt =>
    refine bs_cons (s_set 1 (w_ixT (xs := [.str "true"]) 0 0 rfl (r := ?_)) sc_denied.nd)
    refine bs_If <| wt_cmp <| w_var 1 rfl <| w_str <| opw_eqS ⟨_, rfl, ?_⟩
    refine bs_nil <| bs_If <| wt_cmp <| w_var 1 rfl <| w_tup <| wi_cons <| w_str <| wi_cons <| w_str <| wi_nil ⟨by show 2 ≤ sizeLine; decide, opw_inS ["and", "or"] hu rfl (k := false) (by decide) ⟨_, rfl, ?_⟩⟩
    refine bs_nil <| bs_If <| wt_cmp <| w_var 1 rfl <| w_tup <| wi_cons <| w_str <| wi_cons <| w_str <| wi_nil ⟨by show 2 ≤ sizeLine; decide, opw_inS ["true", "false"] hu rfl (k := true) (by decide) ⟨_, rfl, ?_⟩⟩
    exact bs_cons <| s_ret <| w_tup <| wi_cons <| w_kdict hO.t (w_var 1 rfl rfl) <| wi_nil ⟨by show 1 ≤ sizeLine; decide, _, rfl, rfl, r⟩
  | ff =>
    refine bs_cons (s_set 1 (w_ixT (xs := [.str "false"]) 0 0 rfl (r := ?_)) sc_denied.nd)
    refine bs_If <| wt_cmp <| w_var 1 rfl <| w_str <| opw_eqS ⟨_, rfl, ?_⟩
    refine bs_nil <| bs_If <| wt_cmp <| w_var 1 rfl <| w_tup <| wi_cons <| w_str <| wi_cons <| w_str <| wi_nil ⟨by show 2 ≤ sizeLine; decide, opw_inS ["and", "or"] hu rfl (k := false) (by decide) ⟨_, rfl, ?_⟩⟩
    refine bs_nil <| bs_If <| wt_cmp <| w_var 1 rfl <| w_tup <| wi_cons <| w_str <| wi_cons <| w_str <| wi_nil ⟨by show 2 ≤ sizeLine; decide, opw_inS ["true", "false"] hu rfl (k := true) (by decide) ⟨_, rfl, ?_⟩⟩
    exact bs_cons <| s_ret <| w_tup <| wi_cons <| w_kdict hO.f (w_var 1 rfl rfl) <| wi_nil ⟨by show 1 ≤ sizeLine; decide, _, rfl, rfl, r⟩
  | row rw_ =>
    refine bs_cons (s_set 1 (w_ixT (xs := [.str "row", dRow rw_]) 0 0 rfl (r := ?_)) sc_denied.nd)
    refine bs_If <| wt_cmp <| w_var 1 rfl <| w_str <| opw_eqS ⟨_, rfl, ?_⟩
    refine bs_nil <| bs_If <| wt_cmp <| w_var 1 rfl <| w_tup <| wi_cons <| w_str <| wi_cons <| w_str <| wi_nil ⟨by show 2 ≤ sizeLine; decide, opw_inS ["and", "or"] hu rfl (k := false) (by decide) ⟨_, rfl, ?_⟩⟩
    refine bs_nil <| bs_If <| wt_cmp <| w_var 1 rfl <| w_tup <| wi_cons <| w_str <| wi_cons <| w_str <| wi_nil ⟨by show 2 ≤ sizeLine; decide, opw_inS ["true", "false"] hu rfl (k := false) (by decide) ⟨_, rfl, ?_⟩⟩
    have hlen : (opps rw_).length ≤ 2 := by unfold opps; split <;> simp
    refine bs_nil <| bs_cons (LC.set 2 sc_denied.nd (lc1' (α := Row) [("other", 3)] 3 sc_denied.nd (it_new <| wl_call Go m7 <| wa_v <| w_ixT (xs := [.str "row", dRow rw_]) 0 1 rfl (r := wa_nil ⟨rw_, rfl, hin, fun a ha => ⟨by rw [List.length_map]; exact le_line (by omega), opps rw_, dRow, fun g => dF (.row g), rfl, fun a ha s' H' C cl fp => ?_, fun p hp => ?_⟩⟩))))
    · exact w_tup <| wi_cons <| w_str <| wi_cons <| w_var 3 rfl <| wi_nil ⟨by show 2 ≤ sizeLine; decide, rfl⟩
    · refine bs_If <| wt_cmp <| w_len (w_var 2 rfl ⟨_, put_same, w_int <| opw_eqI ⟨_, rfl, ?_⟩⟩) hL
      have fl : D.flats ((opps rw_).map fun g => dF (.row g)) = true := flat_map _ (fun _ _ => dF_flat _) _
      unfold dn at r
      revert r fl
      unfold opps
      cases rw_.sg with
      | eq =>
        intro fl r
        refine bs_nil <| bs_cons <| s_ret <| w_tup <| wi_cons <| w_str <| wi_cons <| w_tupO (w_var 2 rfl ⟨_, put_same, wi_nil ⟨by show 2 ≤ sizeLine; decide, _, rfl, ?_, ?_⟩⟩) hT
        · show (true && (D.flats _ && true)) = true
          rw [fl]; rfl
        · exact r
      | le =>
        intro fl r
        exact bs_cons <| s_ret <| w_ix <| w_var 2 rfl <| w_int ⟨0, _, _, rfl, put_same, rfl, _, rfl, dF_flat _, r⟩
      | lt =>
        intro fl r
        exact bs_cons <| s_ret <| w_ix <| w_var 2 rfl <| w_int ⟨0, _, _, rfl, put_same, rfl, _, rfl, dF_flat _, r⟩
theorem step_plain (m : Nat) (F : Fun K "plain" "plain" s_plain f fd) (Gd : m ≠ 0 → Def P w K mg base (7 + m) "denied" P_denied (spD K (wDen (m - 1)))) (Gp : m ≠ 0 → Def P w K mg base (7 + m) "plain" P_plain (spD K (wPln (m - 1))))
    (hT : mg "tuple" = none) : FnOk P w K mg base CX0 (8 + m) f fd P_plain (spD K (wPln m)) := by
  rw [show 8 + m = 7 + m + 1 by omega]
  refine okD F sc_plain (fun ds R h => by obtain ⟨g, rfl, _⟩ := h; rfl) fun cdv A outer s H E hr ds R h => ?_
  obtain ⟨g, rfl, hd, hin, r⟩ := h
  have hu := hr.units
  cases g with
  | neg g =>
    have h1 : dep g + 1 ≤ m := hd
    have hm : m ≠ 0 := by omega
    refine bs_cons (s_set 1 (w_ixT (xs := [.str "not", dF g]) 0 0 rfl (r := ?_)) sc_plain.nd)
    refine bs_If <| wt_cmp <| w_var 1 rfl <| w_str <| opw_eqS ⟨_, rfl, ?_⟩
    exact bs_cons <| s_ret <| w_call (Gd hm) hr <| wa_v <| w_ixT (xs := [.str "not", dF g]) 0 1 rfl (r := wa_nil ⟨g, rfl, by omega, hin, _, rfl, dF_flat _, r⟩)
  | conj l =>
    have h1 : deps l + 1 ≤ m := hd
    have hm : m ≠ 0 := by omega
    rw [dF_conj]
    rw [pl, pls_map, dF_conj] at r
    refine bs_cons (s_set 1 (w_ixT (xs := [.str "and", .tup (l.map dF)]) 0 0 rfl (r := ?_)) sc_plain.nd)
    refine bs_If <| wt_cmp <| w_var 1 rfl <| w_str <| opw_eqS ⟨_, rfl, ?_⟩
    refine bs_nil <| bs_If <| wt_cmp <| w_var 1 rfl <| w_tup <| wi_cons <| w_str <| wi_cons <| w_str <| wi_nil ⟨by show 2 ≤ sizeLine; decide, opw_inS ["and", "or"] hu rfl (k := true) (by decide) ⟨_, rfl, ?_⟩⟩
    refine bs_cons <| s_ret <| w_tup <| wi_cons <| w_var 1 rfl <| wi_cons <| w_tupL (lc1 (α := Fm) [("part", 2)] 2 sc_plain.nd (it_tup <| w_ixT (xs := [.str "and", .tup (l.map dF)]) 0 1 rfl (r := ⟨_, rfl, by rw [List.length_map]; exact le_line (by have := hin.1; omega), l, dF, fun g => dF (pl g), rfl, fun a ha s' H' C cl fp => ?_, wi_nil ⟨by show 2 ≤ sizeLine; decide, _, rfl, ?_, ?_⟩⟩))) hT
    · exact w_call (Gp hm) hr <| wa_v <| w_var 2 rfl <| wa_nil ⟨a, rfl, by have := deps_mem ha; omega, fmsIn_mem hin.2 ha, rfl⟩
    · have := dF_flat (.conj (l.map pl))
      rw [dF_conj, List.map_map] at this
      exact this
    · rw [List.map_map] at r
      exact r
  | disj l =>
    have h1 : deps l + 1 ≤ m := hd
    have hm : m ≠ 0 := by omega
    rw [dF_disj]
    rw [pl, pls_map, dF_disj] at r
    refine bs_cons (s_set 1 (w_ixT (xs := [.str "or", .tup (l.map dF)]) 0 0 rfl (r := ?_)) sc_plain.nd)
    refine bs_If <| wt_cmp <| w_var 1 rfl <| w_str <| opw_eqS ⟨_, rfl, ?_⟩
    refine bs_nil <| bs_If <| wt_cmp <| w_var 1 rfl <| w_tup <| wi_cons <| w_str <| wi_cons <| w_str <| wi_nil ⟨by show 2 ≤ sizeLine; decide, opw_inS ["and", "or"] hu rfl (k := true) (by decide) ⟨_, rfl, ?_⟩⟩
    refine bs_cons <| s_ret <| w_tup <| wi_cons <| w_var 1 rfl <| wi_cons <| w_tupL (lc1 (α := Fm) [("part", 2)] 2 sc_plain.nd (it_tup <| w_ixT (xs := [.str "or", .tup (l.map dF)]) 0 1 rfl (r := ⟨_, rfl, by rw [List.length_map]; exact le_line (by have := hin.1; omega), l, dF, fun g => dF (pl g), rfl, fun a ha s' H' C cl fp => ?_, wi_nil ⟨by show 2 ≤ sizeLine; decide, _, rfl, ?_, ?_⟩⟩))) hT
    · exact w_call (Gp hm) hr <| wa_v <| w_var 2 rfl <| wa_nil ⟨a, rfl, by have := deps_mem ha; omega, fmsIn_mem hin.2 ha, rfl⟩
    · have := dF_flat (.disj (l.map pl))
      rw [dF_disj, List.map_map] at this
      exact this
    · rw [List.map_map] at r
      exact r
  | tt =>
    refine bs_cons (s_set 1 (w_ixT (xs := [.str "true"]) 0 0 rfl (r := ?_)) sc_plain.nd)
    refine bs_If <| wt_cmp <| w_var 1 rfl <| w_str <| opw_eqS ⟨_, rfl, ?_⟩
    refine bs_nil <| bs_If <| wt_cmp <| w_var 1 rfl <| w_tup <| wi_cons <| w_str <| wi_cons <| w_str <| wi_nil ⟨by show 2 ≤ sizeLine; decide, opw_inS ["and", "or"] hu rfl (k := false) (by decide) ⟨_, rfl, ?_⟩⟩
    exact bs_nil <| bs_cons <| s_ret <| w_var 0 rfl ⟨_, rfl, rfl, r⟩
  | ff =>
    refine bs_cons (s_set 1 (w_ixT (xs := [.str "false"]) 0 0 rfl (r := ?_)) sc_plain.nd)
    refine bs_If <| wt_cmp <| w_var 1 rfl <| w_str <| opw_eqS ⟨_, rfl, ?_⟩
    refine bs_nil <| bs_If <| wt_cmp <| w_var 1 rfl <| w_tup <| wi_cons <| w_str <| wi_cons <| w_str <| wi_nil ⟨by show 2 ≤ sizeLine; decide, opw_inS ["and", "or"] hu rfl (k := false) (by decide) ⟨_, rfl, ?_⟩⟩
    exact bs_nil <| bs_cons <| s_ret <| w_var 0 rfl ⟨_, rfl, rfl, r⟩
  | row rw_ =>
    refine bs_cons (s_set 1 (w_ixT (xs := [.str "row", dRow rw_]) 0 0 rfl (r := ?_)) sc_plain.nd)
    refine bs_If <| wt_cmp <| w_var 1 rfl <| w_str <| opw_eqS ⟨_, rfl, ?_⟩
    refine bs_nil <| bs_If <| wt_cmp <| w_var 1 rfl <| w_tup <| wi_cons <| w_str <| wi_cons <| w_str <| wi_nil ⟨by show 2 ≤ sizeLine; decide, opw_inS ["and", "or"] hu rfl (k := false) (by decide) ⟨_, rfl, ?_⟩⟩
    exact bs_nil <| bs_cons <| s_ret <| w_var 0 rfl ⟨_, rfl, dF_flat _, r⟩
/-- a def's name -/
structure Nm (K : PySem.W.Frag) (mg : Str → Option Value) (x : Str) (ps : List Str) (f : Addr) (fd : FuncData) : Prop where
  hm : mg x = some (.ref f)
  hk : PySem.W.keepIn K (.ref f) = true
  hb : Binds K fd ps []
theorem Nm.defn {k : Nat} {x : Str} {ps : List Str} {sp : Sp} (n : Nm K mg x ps f fd) (h : FnOk P w K mg base CX0 k f fd ps sp) : Def P w K mg base k x ps sp := ⟨f, fd, h, n.hm, n.hk, n.hb⟩
theorem ok_formulas {f1 f2 : Addr} {fd1 fd2 : FuncData} (F1 : Fun K "denied" "denied" s_denied f1 fd1) (F2 : Fun K "plain" "plain" s_plain f2 fd2) (N1 : Nm K mg "denied" P_denied f1 fd1) (N2 : Nm K mg "plain" P_plain f2 fd2)
    (Go : Def P w K mg base 7 "opposites" P_opposites (spL K wOpps)) (hO : Oth K w mg) (hT : mg "tuple" = none) (hL : mg "len" = none) : ∀ m : Nat, FnOk P w K mg base CX0 (8 + m) f1 fd1 P_denied (spD K (wDen m)) ∧ FnOk P w K mg base CX0 (8 + m) f2 fd2 P_plain (spD K (wPln m)) := by
  intro m
  induction m with
  | zero => exact ⟨step_denied 0 F1 (fun z => absurd rfl z) (fun z => absurd rfl z) Go hO hT hL, step_plain 0 F2 (fun z => absurd rfl z) (fun z => absurd rfl z) hT⟩
  | succ m ih =>
    have e : 7 + (m + 1) = 8 + m := by omega
    have Gd : m + 1 ≠ 0 → Def P w K mg base (7 + (m + 1)) "denied" P_denied (spD K (wDen (m + 1 - 1))) := fun _ => by rw [e]; exact N1.defn ih.1
    have Gp : m + 1 ≠ 0 → Def P w K mg base (7 + (m + 1)) "plain" P_plain (spD K (wPln (m + 1 - 1))) := fun _ => by rw [e]; exact N2.defn ih.2
    exact ⟨step_denied (m + 1) F1 Gd Gp Go hO hT hL, step_plain (m + 1) F2 Gd Gp hT⟩
end
end LP
set_option maxRecDepth 100000
set_option maxHeartbeats 4000000
/-! Gs: all(test of x for x in a list of texts); promises that ask for the code table. -/
namespace LP
open PySem PySem.Spec PyProof.Rows L2
/-- what the element tells of a text -/
def EltT (prog : Program) (w : World) (scope : Scope) (x : Str) (elt : Expr) (pb : Str → Bool) : Prop :=
  ∀ (ce : Env) (B : Around) (Er : Value → Shared → Prop) (a : Str) (t : Tok) (z : Shared) (m : Str → Option Value), ce.scope = scope → z.heap.Ns ce.locals m → m x = some (.str a t) →
    wpAny (model prog w) B (eval elt ce) (fun y z' => y = .bool (pb a) ∧ Keeps z z') Er z
theorem eltT_eq {prog : Program} {w : World} {scope : Scope} {x k : Str} {j : Nat} {p1 p2 p3 : Pos} (hk : scope.kind = .function) (hl : scope.names.lookup x = some .local) (hd : (x == ("__debug__" : Str)) = false := by decide) :
    EltT prog w scope x (.Compare (.Name x p1) [.Eq] [.Constant (.str k) j p2] p3) (fun a => a.cps.toList == k.cps.toList) := by
  intro ce B Er a t z m hs hn hm
  refine wpAny_Compare1 (wpAny_Name (wpAny_loadName_local (by rw [hs]; exact hk) (show ce.scope.names.lookup x = some .local by rw [hs]; exact hl) hn hm ?_) hd)
  exact Calls.Constant_str (PySem.P.eq_str ⟨rfl, GxR.keeps_tok _ _⟩)
section
variable {X : Cx} {pins : List (Addr × Obj)} {σ : L2.St} {H : Hp} {s : Shared}
/-- a generator over the texts ts stands ready -/
def GenUp (X : Cx) (pins : List (Addr × Obj)) (σ : L2.St) (H1 : Hp) (P : Addr) (ts : List Str) (pb : Str → Bool) (g : Addr) (z : Shared) : Prop :=
  ∃ (fp wr : List Addr) (G : Array GenState → Array GenState → Prop) (F : Nat → Value → Prop) (St : Nat → Shared → Prop),
    WalksS X.prog X.w X.A.in1 g fp wr G ts.length F St ∧ St 0 z ∧ TruthOf X.prog X.w X.A.in1 F (fun j => (ts[j]?.map pb).getD false) ∧
    ∀ z', Moved wr G z z' → ∃ H2, GxR.Tabbed P H1 H2 ∧ Inv X pins σ H2 z'
theorem gen_up {c P : Addr} {elt iter : Expr} {x : Str} {px gpos : Pos} {scope : Scope} {pb : Str → Bool} {te : TE} {k : Nat} {Qe : Value → Shared → Prop} {R : List Str → Hp → Prop}
    (room : Room k X.A) (tb : GxR.TabB X.base X.mg c P) (cod : X.env.code = .ref c) (gs : GxR.GenS X.env scope x) (hi : PE X iter te) (hel : EltT X.prog X.w scope x elt pb)
    (nf : ∀ v, genFold iter X.env v = pure v) (I : Inv X pins σ H s) (h : te σ H fun v H1 => ∃ (l : Addr) (ts : List Str), v = .ref l ∧ SqL X.K H1 l (ts.map V.str) ∧ GxR.TabG H1 P ∧ R ts H1)
    (up : ∀ ts H1 g z, R ts H1 → GenUp X pins σ H1 P ts pb g z → Qe (.ref g) z) :
    wpAny (model X.prog X.w) X.A (eval (.GeneratorExp elt [⟨.Name x px, iter, [], 0⟩] scope gpos) X.env) Qe X.xe s := by
  refine wpAny_GeneratorExp_walksQ room.hd gs.co (closure_ok gs.free) gs.cell gs.dot gs.loc gs.kind (by have := room.dp; omega) ?_ nf
  refine thn (hi.run pins s σ H _ I h) fun xv z1 ⟨v, H1, I1, rv1, q1⟩ => ?_
  obtain ⟨l, ts, rfl, hsl, ⟨ps, tP, tOk⟩, q1⟩ := q1
  obtain rfl : xv = Value.ref l := rv1
  obtain ⟨us, ru, pls, _⟩ := I1.list hsl
  have isl := pls.isList
  have nlen : us.length = ts.length := by rw [← ru.length, List.length_map]
  have each : ∀ (i : Nat) (v : Value), us.toArray[i]? = some v → ∃ (a : Str) (u : Tok), ts[i]? = some a ∧ v = .str a u := fun i v hv => by
    have hv' : us[i]? = some v := by simpa using hv
    have lt : i < us.length := (List.getElem?_eq_some_iff.mp hv').1
    obtain ⟨a, ea⟩ : ∃ a, ts[i]? = some a := ⟨ts[i]'(by omega), List.getElem?_eq_getElem _⟩
    have eb : (ts.map V.str)[i]? = some (V.str a) := by rw [List.getElem?_map, ea] <;> rfl
    obtain ⟨u, eu, rr⟩ := ru.get eb
    rw [hv'] at eu
    cases eu
    obtain ⟨t, e⟩ := (show ∃ t, v = Value.str a t from rr)
    exact ⟨a, t, ea, e⟩
  refine wpAny_pyIter_list isl ?_
  generalize hob : ({ cls := .type "list_iterator", data := .fields #[.ref l, .int 0 0] } : Obj) = ob
  have itr : (z1.heap.push ob).IsListIter z1.heap.objs.size l 0 := by
    subst hob
    exact ⟨_, Heap.get?_push_size _ rfl, rfl, rfl⟩
  have llt : l < z1.heap.objs.size := by
    obtain ⟨_, e, _⟩ := _root_.id isl
    exact Heap.lt_size e
  have pAt : z1.heap.get? P = some { cls := .none, data := .fields ps } := I1.hok P _ tP
  have plt : P < z1.heap.objs.size := Heap.lt_size pAt
  have pAt2 : (z1.heap.push ob).get? P = some { cls := .none, data := .fields ps } := Heap.get?_push_of_some _ pAt
  have chd : PySem.W.CodeHd (z1.heap.push ob) c P := tb.code.keeps fun b u e => Heap.get?_push_of_some _ (I1.bk b u e)
  have noL : (z1.heap.push ob).NoLimit := I1.nolimit.push ob
  have go : ∀ (code : Value) (h3 : Heap) (tk : Nat) (ps' : Array Value), Heap.ExtBut P (z1.heap.push ob) h3 → (z1.heap.push ob).objs.size ≤ h3.objs.size → h3.get? P = some { cls := .none, data := .fields ps' } → (∃ more, ps' = ps ++ more) → TriplesOk ps'.toList →
      wpAny (model X.prog X.w) X.A (builtinsFor X.env.globals X.env.builtins) (fun bi z4 =>
        ∃ Ia fp wr n₀ Pf St₀ pz F, Value.ref z1.heap.objs.size = .ref Ia ∧ (∀ B : Around, B.handled = none → Walks X.prog X.w B Ia fp wr n₀ Pf St₀) ∧ St₀ 0 z4.heap ∧ (∀ b ∈ fp, b < z4.heap.objs.size) ∧ z4.heap.NoLimit ∧ cStatics ∉ wr ∧
          (∀ hr : Heap, (∀ b o, z4.heap.get? b = some o → hr.get? b = some o) →
            QuietGen X.prog X.w (genEnv scope (cloFrom X.env.cells scope.names []) z4.heap.objs.size code bi X.env) x [] elt (List.range z4.heap.objs.size) wr Pf pz F hr) ∧
          (∀ a h5 tk gg, gg.bare = true → z4.heap.objs.size < a → h5.objs.size = a + 1 → (∀ b o, z4.heap.get? b = some o → h5.get? b = some o) →
            WalksS X.prog X.w X.A.in4 a (a :: z4.heap.objs.size :: List.range z4.heap.objs.size) (z4.heap.objs.size :: wr) (GenOnlyQ z4.gens.size) (passing pz n₀ 0).length
              (fun j y => ∃ i, (passing pz n₀ 0)[j]? = some i ∧ F i y) (GenAt X.prog X.w X.A.in4 a z4.gens.size z4.heap.objs.size (List.range z4.heap.objs.size) wr pz n₀ F) →
            GenAt X.prog X.w X.A.in4 a z4.gens.size z4.heap.objs.size (List.range z4.heap.objs.size) wr pz n₀ F 0 { z4 with gens := z4.gens.push gg, toks := tk, heap := h5 } →
            Qe (.ref a) { z4 with gens := z4.gens.push gg, toks := tk, heap := h5 })) X.xe { z1 with heap := h3, toks := tk } := by
    intro code h3 tk ps' hx hsz pAt3 hmore ok3
    obtain ⟨bm, bo, b1, b2, b3, b4, b5, b6, b7, b8⟩ := tb.bm
    have sP : cStatics ≠ P := fun e => by
      obtain ⟨_, ⟨o', es, ep, ho, hd, _⟩, _⟩ := I1.nolimit
      rw [e, pAt] at ho
      cases ho
      cases hd
    have slt : cStatics < z1.heap.objs.size := let ⟨_, hns, _⟩ := I1.nolimit; hns.lt
    have psz : (z1.heap.push ob).objs.size = z1.heap.objs.size + 1 := Heap.size_push ..
    have kp3 : ∀ b u, b ≠ P → z1.heap.get? b = some u → h3.get? b = some u := fun b u hb e => hx b u hb (Heap.get?_push_of_some _ e)
    refine wpAny_builtinsFor (m := X.mg) (by rw [I1.ok.glob]; exact ((I1.mod.glob.keeps I1.bk).push ob).extBut hx tb.gP) b1 b2 (kp3 _ _ b4 (I1.bk _ _ b5)) b6 b7 b8 ?_
    have lP : l ≠ P := fun e => by
      obtain ⟨_, e1, _, _, d1⟩ := _root_.id isl
      rw [e, pAt] at e1
      cases e1
      cases d1
    have isl3 : h3.IsList l us.toArray := by
      obtain ⟨o2, e, r⟩ := _root_.id isl
      exact ⟨o2, kp3 _ _ lP e, r⟩
    have itr3 : h3.IsListIter z1.heap.objs.size l 0 := itr.at fun u e => hx _ u (Nat.ne_of_gt plt) e
    refine ⟨z1.heap.objs.size, [z1.heap.objs.size, l], [z1.heap.objs.size], us.toArray.size, (fun i v => us.toArray[i]? = some v), (fun i hh => hh.IsListIter z1.heap.objs.size l i ∧ hh.IsList l us.toArray), (fun _ => true),
      (fun i y => ∃ a : Str, ts[i]? = some a ∧ y = .bool (pb a)), rfl, (fun B hB => Walks.list hB _ _ (Nat.ne_of_lt llt) _), ⟨itr3, isl3⟩, ?_, noL.extBut hx sP, ?_, ?_, ?_⟩
    · intro b hb
      have big : z1.heap.objs.size < h3.objs.size := by omega
      have hb' : b = z1.heap.objs.size ∨ b = l := by simpa using hb
      rcases hb' with rfl | rfl
      · exact big
      · exact Nat.lt_trans llt big
    · intro z
      have z' : cStatics = z1.heap.objs.size := by simpa using z
      exact Nat.ne_of_lt slt z'
    · intro hr hhr
      refine ⟨fun B Er i v z2 m2 hB hPv hn hm hk => ?_, fun B Er i v z2 m2 hB hPv hp hn hm hk => ?_⟩
      · simp only [List.forIn_nil]
        exact wpAny_pure ⟨rfl, GxR.keeps_refl _⟩
      · obtain ⟨a, u, ea, rfl⟩ := each i v hPv
        exact wpAny_mono (hel _ B Er a u z2 m2 rfl hn hm) (fun y z3 r => ⟨⟨a, ea, r.1⟩, r.2⟩) fun _ _ e => e
    · intro g h5 tk5 gg bare ag sz5 k5 W5 gat
      simp only [GxR.passing_true, List.length_range] at W5
      have n5 : us.toArray.size = ts.length := by rw [List.size_toArray, nlen]
      rw [n5] at W5 gat
      refine up ts H1 g _ q1 ⟨_, _, _, _, _, W5.in4_1, gat, ?_, fun z' mv => ?_⟩
      · intro j y zj Qj Ej hy hQj
        obtain ⟨i, hij, a, ea, rfl⟩ := hy
        obtain ⟨lt, ej⟩ := List.getElem?_eq_some_iff.mp hij
        rw [List.getElem_range] at ej
        subst ej
        have hQ2 : Qj ((ts[j]?.map pb).getD false) zj := hQj
        rw [ea] at hQ2
        exact wpAny_truthy_bool hQ2
      · obtain ⟨more, em⟩ := hmore
        have notw : ∀ b u, z1.heap.get? b = some u → b ∉ h3.objs.size :: [z1.heap.objs.size] := fun b u e hb => by
          have lt := Heap.lt_size e
          have hb' : b = h3.objs.size ∨ b = z1.heap.objs.size := by simpa using hb
          rcases hb' with rfl | rfl
          · have h1 : (z1.heap.push ob).objs.size ≤ h3.objs.size := hsz
            have h2 : h3.objs.size < z1.heap.objs.size := lt
            rw [psz] at h1
            omega
          · exact Nat.lt_irrefl _ lt
        have J := GxR.inv_tab (more := more) (h' := z'.heap) (g' := z'.gens) (d' := z'.drawn) (t' := z'.toks) I1 tP (fun b u hb e => mv.heap b u (notw b u e) (k5 b u (kp3 b u hb e)))
          (by rw [← em]; exact mv.heap P _ (notw P _ pAt) (k5 P _ pAt3)) (AllBare.movedS (I1.bare.push bare) mv)
        rw [GxR.sh_eta z1 z' mv.os] at J
        exact ⟨upd H1 P (.tbl (ps ++ more)), ⟨⟨ps ++ more, upd_same, by rw [← em]; exact ok3⟩, fun b hb => upd_ne hb⟩, J⟩
  refine ⟨noL, ?_⟩
  cases hf : codeAmong gpos ps.toList with
  | none =>
    refine wpAny_genexprCodeX cod (chd.code pAt2 tOk) (chd.tab pAt2) hf fun c' h' tk hx hge hlt hco _ htab _ => ?_
    obtain ⟨o1, vs, f1, tf, fl, tg, inF, tx, tt, op, _, _, _, _, _, _, _, _, _, htr, _⟩ := hco
    exact go _ h' tk _ hx (Nat.le_trans hge (Nat.le_of_lt hlt)) htab.2 ⟨_, rfl⟩ htr
  | some cv =>
    refine wpAny_genexprCode_hit cod (chd.code pAt2 tOk) hf ?_
    exact go cv (z1.heap.push ob) z1.toks ps (Heap.ExtBut.refl _ _) (Nat.le_refl _) pAt2 ⟨#[], by simp⟩ tOk
def tAllT (K : PySem.W.Frag) (P : Addr) (pb : Str → Bool) (te : TE) : TE := fun σ H Q => te σ H fun v H1 => ∃ (l : Addr) (ts : List Str), v = .ref l ∧ SqL K H1 l (ts.map V.str) ∧ GxR.TabG H1 P ∧ ∀ H2, GxR.Tabbed P H1 H2 → Q (.bl (ts.all pb)) H2
theorem all_at (ts : List Str) (pb : Str → Bool) : (List.range ts.length).all (fun j => (ts[j]?.map pb).getD false) = ts.all pb := by
  rw [Bool.eq_iff_iff, List.all_eq_true, List.all_eq_true]
  constructor
  · intro h b hb
    obtain ⟨j, hj, e⟩ := List.getElem_of_mem hb
    have q := h j (List.mem_range.mpr hj)
    rw [List.getElem?_eq_getElem hj, e] at q
    exact q
  · intro h j hj
    have lt := List.mem_range.mp hj
    rw [List.getElem?_eq_getElem lt]
    exact h _ (List.getElem_mem lt)
theorem pe_allT {c P : Addr} {elt iter : Expr} {x : Str} {px p pos gpos : Pos} {scope : Scope} {pb : Str → Bool} {te : TE} {k : Nat}
    (room : Room k X.A) (hg : Gl X "all") (hm : X.mg "all" = none) (hb : bootBuiltins "all" = some (.builtin "all")) (tb : GxR.TabB X.base X.mg c P) (cod : X.env.code = .ref c) (gs : GxR.GenS X.env scope x) (hi : PE X iter te) (hel : EltT X.prog X.w scope x elt pb)
    (nf : ∀ v, genFold iter X.env v = pure v)
    (he : starEach [.GeneratorExp elt [⟨.Name x px, iter, [], 0⟩] scope gpos] X.env = (false, eval (.GeneratorExp elt [⟨.Name x px, iter, [], 0⟩] scope gpos) X.env) :: starEach [] X.env := by rfl) :
    PE X (.Call (.Name "all" p) [.GeneratorExp elt [⟨.Name x px, iter, [], 0⟩] scope gpos] [] pos) (tAllT X.K P pb te) := by
  refine ⟨fun pins s σ H Q I h => ?_⟩
  refine wpAny_Call_Name_kw (ld_blt I hg hm hb ?_)
  refine PyProof.Rows.callWith_builtin1 ?_ he (by rfl)
  rw [he]
  show wpAny _ _ (spliced ((false, eval (.GeneratorExp elt [⟨.Name x px, iter, [], 0⟩] scope gpos) X.env) :: backTo pos (starEach [] X.env))) _ _ s
  refine Calls.spliced_cons (gen_up (R := fun ts H1 => ∀ H2, GxR.Tabbed P H1 H2 → Q (.bl (ts.all pb)) H2) room tb cod gs hi hel nf I h fun ts H1 g z hR hG => ?_)
  obtain ⟨fp, wr, G, F, St, W, st0, tr, fin⟩ := hG
  refine Calls.spliced_nil (call_all_walkS (W.self 0 _ _ _ st0 ⟨g, fp, wr, G, _, F, St, _, rfl, W, st0, tr, fun z' mv => ?_⟩))
  obtain ⟨H2, hT, J⟩ := fin z' mv
  refine ⟨.bl _, H2, J, rfl, ?_⟩
  rw [all_at ts pb]
  exact hR H2 hT
end
theorem isVs_strV {K : PySem.W.Frag} {H0 H : Hp} : ∀ {ts : List Str} {vs : List V}, IsVs K H0 H vs (ts.map .str) → vs = ts.map V.str
  | [], _, h => h
  | t :: ts, vs, h => by
    obtain ⟨v, r, rfl, h1, h2⟩ := h
    cases h1
    rw [isVs_strV h2]
    rfl
theorem tabG_ex {H H' : Hp} {P : Addr} (e : Ex H H') (h : GxR.TabG H P) : GxR.TabG H' P := by
  obtain ⟨ps, h1, h2⟩ := h
  obtain ⟨ps', h3, h4⟩ := e.tbl h1
  exact ⟨ps', h3, h4 h2⟩
theorem tabbed_ex {H H' : Hp} {P : Addr} (h0 : GxR.TabG H P) (h : GxR.Tabbed P H H') : Ex H H' := fun b o hb => by
  by_cases e : b = P
  · subst e
    obtain ⟨ps, h1, _⟩ := h0
    rw [h1] at hb
    cases hb
    obtain ⟨⟨ps', h3, h4⟩, _⟩ := h
    exact ⟨ps', h3, fun _ => h4⟩
  · exact .same (by rw [h.2 b e]; exact hb)
section
variable {X : Cx} {H0 : Hp} {ρ : Rho} {δ : Del} {elt iter : Expr} {x : Str} {px p pos gpos : Pos} {scope : Scope} {pb : Str → Bool}
theorem w_allT {c P : Addr} {R : D → Prop} {k : Nat} (hT : GxR.TabG H0 P) (h : W X H0 ρ δ iter fun d => ∃ ts : List Str, SeqDL ρ d (ts.map .str) ∧ R (.bl (ts.all pb))) (room : Room k X.A) (tb : GxR.TabB X.base X.mg c P) (cod : X.env.code = .ref c)
    (hel : EltT X.prog X.w scope x elt pb) (hm : X.mg "all" = none) (gs : GxR.GenS X.env scope x) (hg : Gl X "all" := by rfl) (nf : ∀ v, genFold iter X.env v = pure v := by intro _; rfl)
    (he : starEach [.GeneratorExp elt [⟨.Name x px, iter, [], 0⟩] scope gpos] X.env = (false, eval (.GeneratorExp elt [⟨.Name x px, iter, [], 0⟩] scope gpos) X.env) :: starEach [] X.env := by rfl) :
    W X H0 ρ δ (.Call (.Name "all" p) [.GeneratorExp elt [⟨.Name x px, iter, [], 0⟩] scope gpos] [] pos) R :=
  w_of (pe_allT room hg hm (by decide +kernel) tb cod gs pe_E hel nf he) fun σ H F S Q q => h σ H F S _ fun v H1 d ⟨ts, sd, r⟩ e1 iv => by
    obtain ⟨l, vs, rfl, hl, iv⟩ := sd.at_ (F.step e1) iv
    have hvs : vs = ts.map V.str := isVs_strV iv
    subst hvs
    have t1 := tabG_ex (F.step e1).ex hT
    exact ⟨l, ts, rfl, hl, t1, fun H2 tb2 => q _ H2 _ r (e1.trans (tabbed_ex t1 tb2)) rfl⟩
end
end LP
set_option maxRecDepth 100000
set_option maxHeartbeats 4000000
/-! Tp: promises that ask for the code table. -/
namespace LP
open PySem PySem.Spec PyProof.Rows L2
def spT (T : Addr) (sp : Sp) : Sp := fun vs H Q E => GxR.TabG H T ∧ sp vs H Q E
section
variable {X : Cx} {H0 : Hp} {ρ : Rho} {δ : Del} {e : Expr} {es : List Expr} {pos p : Pos} {T : Addr}
theorem w_callT {k : Nat} {x : Str} {ps : List Str} {Wf : List D → (D → Prop) → Prop} {R : D → Prop} (hT : GxR.TabG H0 T) (G : Def X.prog X.w X.K X.mg X.base k x ps (spT T (spD X.K Wf))) (hr : Room k X.A)
    (h : WA X H0 ρ δ (e :: es) fun ds => Wf ds R) (hg : Gl X x := by rfl) (hdb : (x == ("__debug__" : Str)) = false := by decide)
    (he : starEach (e :: es) X.env = (false, eval e X.env) :: starEach es X.env := by rfl) (hpl : (backTo pos (starEach es X.env)).any (·.1) = false := by rfl) : W X H0 ρ δ (.Call (.Name x p) (e :: es) [] pos) R := by
  obtain ⟨f, fd, F1, hm, hk, hb⟩ := G.is
  refine w_of (pe_call F1 hr hg hm hk hb .nil pass0 pa_A hdb he hpl) fun σ H F S Q q => h σ H F S _ fun vs H1 ds wf e1 iv => ?_
  show spT T (spD X.K Wf) (vs ++ []) H1 Q E0
  rw [List.append_nil]
  exact ⟨tabG_ex (F.step e1).ex hT, ds, R, wf, iv, fun v H' d r fl e2 iv => q v H' d r (e1.trans e2) (iv.rebase _ fl)⟩
theorem wl_callT {k : Nat} {x : Str} {ps : List Str} {Wf : List D → (List D → Prop) → Prop} {R : List D → Prop} (hT : GxR.TabG H0 T) (G : Def X.prog X.w X.K X.mg X.base k x ps (spT T (spL X.K Wf))) (hr : Room k X.A)
    (h : WA X H0 ρ δ (e :: es) fun ds => Wf ds R) (hg : Gl X x := by rfl) (hdb : (x == ("__debug__" : Str)) = false := by decide)
    (he : starEach (e :: es) X.env = (false, eval e X.env) :: starEach es X.env := by rfl) (hpl : (backTo pos (starEach es X.env)).any (·.1) = false := by rfl) : WL X H0 ρ δ (.Call (.Name x p) (e :: es) [] pos) R := by
  obtain ⟨f, fd, F1, hm, hk, hb⟩ := G.is
  refine fun σ H F S Q q => E_of (pe_call F1 hr hg hm hk hb .nil pass0 pa_A hdb he hpl) (h σ H F S _ fun vs H1 ds wf e1 iv => ?_)
  show spT T (spL X.K Wf) (vs ++ []) H1 Q E0
  rw [List.append_nil]
  refine ⟨tabG_ex (F.step e1).ex hT, ds, R, wf, iv, fun p H' es r fl hn e2 oa => q p H' es r (e1.free hn) (e1.trans e2) ?_⟩
  obtain ⟨us, h1, h2⟩ := oa
  exact ⟨us, h1, h2.rebase _ fl⟩
end
/-- a def with its code object -/
structure FunC (K : PySem.W.Frag) (x qual : Str) (st : Stmt) (f : Addr) (fd : FuncData) (c : Addr) : Prop where
  ex : ∃ (oc : Value) (od : Option Addr) (kV doc pm : Value) (an : Option Addr) (ct : Value) (osl : Array (Option Value)),
    fd = PySem.W.fnOf x qual (defArgs st) (defBody st) (defScope st) .none kV doc pm an (.ref c) ct ∧ K.lookup f = some ⟨oc, od, .func fd, osl⟩ ∧ PySem.W.codeIn K (.ref c) qual = true
section
variable {P : Program} {w : World} {K : PySem.W.Frag} {mg : Str → Option Value} {base : Heap} {x qual : Str} {st : Stmt} {f : Addr} {fd : FuncData} {N ps : List Str} {k : Nat} {T : Addr}
theorem okDT {Wf : List D → (D → Prop) → Prop} (F : Fun K x qual st f fd) (S : FnScope N ps (defScope st)) (len : ∀ ds R, Wf ds R → ds.length = ps.length)
    (body : ∀ (cdv : Value) (A : Around) (outer : List Env) (s : Shared) (H : Hp) (E : XK), GxR.TabG H T → Room k (A.deeper (envOfC qual (defScope st) s.heap.objs.size f cdv)) → ∀ ds R, Wf ds R →
      BS (cxOf CX0 P w K mg base N qual (defScope st) f cdv A outer s H E).nox H noR (startD N ds) (defBody st) (PD R)) : FnOk P w K mg base CX0 (k + 1) f fd ps (spT T (spD K Wf)) := by
  refine F.ok S (fun vs H Q E h => ?_) fun cdv A outer s H vs Q E hr h => ?_
  · obtain ⟨_, ds, R, wf, iv, _⟩ := h
    rw [iv.len]
    exact len ds R wf
  · obtain ⟨ht, ds, R, wf, iv, q⟩ := h
    refine ⟨_, pss_B, body cdv A outer s H E ht hr ds R wf _ H ⟨.refl H, fun _ _ e => by cases e⟩ (sl_start iv) _ ⟨?_, ?_, ?_, ?_⟩⟩
    · exact fun ρ δ σ H' r F' S' t => q .non H' .non r rfl F'.ex rfl
    · rintro r v H' ρ ⟨d, rfl, fl, r⟩ F' iv'
      exact q v H' d r fl F'.ex (iv'.rebase _ fl)
    · exact fun _ _ _ _ z => z.elim
    · exact fun _ _ _ _ z => z.elim
theorem okLT {Wf : List D → (List D → Prop) → Prop} (F : Fun K x qual st f fd) (S : FnScope N ps (defScope st)) (len : ∀ ds R, Wf ds R → ds.length = ps.length)
    (body : ∀ (cdv : Value) (A : Around) (outer : List Env) (s : Shared) (H : Hp) (E : XK), GxR.TabG H T → Room k (A.deeper (envOfC qual (defScope st) s.heap.objs.size f cdv)) → ∀ ds R, Wf ds R →
      BS (cxOf CX0 P w K mg base N qual (defScope st) f cdv A outer s H E).nox H noR (startD N ds) (defBody st) (PL R)) : FnOk P w K mg base CX0 (k + 1) f fd ps (spT T (spL K Wf)) := by
  refine F.ok S (fun vs H Q E h => ?_) fun cdv A outer s H vs Q E hr h => ?_
  · obtain ⟨_, ds, R, wf, iv, _⟩ := h
    rw [iv.len]
    exact len ds R wf
  · obtain ⟨ht, ds, R, wf, iv, q⟩ := h
    refine ⟨_, pss_B, body cdv A outer s H E ht hr ds R wf _ H ⟨.refl H, fun _ _ e => by cases e⟩ (sl_start iv) _ ⟨?_, ?_, ?_, ?_⟩⟩
    · exact fun ρ δ σ H' r F' S' t => r.elim
    · rintro r v H' ρ ⟨d, rfl, fl, r⟩ F' ⟨p, rfl, hn, us, h1, h2⟩
      exact q p H' d r fl hn F'.ex ⟨us, h1, h2.rebase _ fl⟩
    · exact fun _ _ _ _ z => z.elim
    · exact fun _ _ _ _ z => z.elim
/-- with the code object known -/
theorem okDC {c : Addr} {Wf : List D → (D → Prop) → Prop} (F : FunC K x qual st f fd c) (S : FnScope N ps (defScope st)) (len : ∀ ds R, Wf ds R → ds.length = ps.length)
    (body : ∀ (A : Around) (outer : List Env) (s : Shared) (H : Hp) (E : XK), GxR.TabG H T → Room k (A.deeper (envOfC qual (defScope st) s.heap.objs.size f (.ref c))) → ∀ ds R, Wf ds R →
      BS (cxOf CX0 P w K mg base N qual (defScope st) f (.ref c) A outer s H E).nox H noR (startD N ds) (defBody st) (PD R)) : FnOk P w K mg base CX0 (k + 1) f fd ps (spT T (spD K Wf)) := by
  obtain ⟨oc, od, kV, doc, pm, an, ct, osl, rfl, lk, hcd⟩ := F.ex
  refine fn_of lk hcd S (fun vs H Q E h => ?_) fun A outer s H vs Q E hr h => ?_
  · obtain ⟨_, ds, R, wf, iv, _⟩ := h
    rw [iv.len]
    exact len ds R wf
  · obtain ⟨ht, ds, R, wf, iv, q⟩ := h
    have key := body A outer s H E ht hr ds R wf _ H ⟨.refl H, fun _ _ e => by cases e⟩ (sl_start iv) { nx := fun _ H' => Q .non H', rt := Q } ⟨fun ρ δ σ H' r F' S' t => q .non H' .non r rfl F'.ex rfl, by
      rintro r v H' ρ ⟨d, rfl, fl, r⟩ F' iv'
      exact q v H' d r fl F'.ex (iv'.rebase _ fl), fun _ _ _ _ z => z.elim, fun _ _ _ _ z => z.elim⟩
    exact ⟨_, (pss_B (X := (cxOf CX0 P w K mg base N qual (defScope st) f (.ref c) A outer s H E).nox) (sts := defBody st)).nox, key⟩
end
end LP
set_option maxRecDepth 100000
set_option maxHeartbeats 4000000
/-! Pn11: papers. -/
namespace LP
open PySem PySem.Spec PyProof.Rows L2
abbrev Pap := List (Nat × Rat)
def dIx (p : Nat × Rat) : D := .tup [.int (p.1 : Int), dQ p.2]
def dPap (ps : Pap) : D := .tup (ps.map dIx)
def isM (v : Rat) (sg : Sg) : Bool := if sg = .eq then decide (v ≠ 0) else decide (0 < v)
def wIsM : List D → (D → Prop) → Prop := fun ds R => ∃ (v : Rat) (sg : Sg) (k : Nat), ds = [dQ v, .str sg.str] ∧ Sz k k v ∧ k ≤ 80000 ∧ R (.bl (isM v sg))
structure PapOk (k : Nat) (rows : List Row) (pap : Pap) : Prop where
  asc : (pap.map (·.1)).Pairwise (· < ·)
  each : ∀ p ∈ pap, ∃ r, rows[p.1]? = some r ∧ isM p.2 r.sg = true ∧ Sz k 1 p.2
def wIsP : List D → (D → Prop) → Prop := fun ds R => ∃ (rows : List Row) (pap : Pap) (k : Nat), ds = [.lst (rows.map dRow), dPap pap] ∧ PapOk k rows pap ∧ 1 ≤ k ∧ k ≤ 80000 ∧ R (.bl true)
def signOf (l : List Sg) : Sg := if l.all (· = .eq) then .eq else if .lt ∈ l then .lt else .le
def wSgn : List D → (D → Prop) → Prop := fun ds R => ∃ l : List Sg, ds = [.lst (l.map fun s => .str s.str)] ∧ R (.str (signOf l).str)
/-- rows as solve takes them -/
structure LRow (r : Row) : Prop where
  c : Canon r.ps
  s : SzL 2 1 r.ps
  l : r.ps.length ≤ 3
  b : Sz 6 6 r.b
def rowAt (rows : List Row) (i : Nat) : Row := rows.getD i ⟨[], .le, 0⟩
def combP (rows : List Row) : Pap → Pts
  | [] => []
  | p :: ps => ((rowAt rows p.1).ps.map fun q => (q.1, p.2 * q.2)) ++ combP rows ps
def combB (rows : List Row) : Pap → Rat
  | [] => 0
  | p :: ps => p.2 * (rowAt rows p.1).b + combB rows ps
def totRow (rows : List Row) (pap : Pap) : Row := ⟨gath (combP rows pap), signOf (pap.map fun p => (rowAt rows p.1).sg), combB rows pap⟩
def wSumOf : List D → (D → Prop) → Prop := fun ds R => ∃ (rows : List Row) (pap : Pap) (k : Nat), ds = [.lst (rows.map dRow), dPap pap] ∧ PapOk k rows pap ∧ (∀ r ∈ rows, LRow r) ∧ pap.length ≤ 8 ∧ 1 ≤ k ∧ k ≤ 20000 ∧ R (dRow (totRow rows pap))
def wRef : List D → (D → Prop) → Prop := fun ds R => ∃ (rows : List Row) (pap : Pap) (k : Nat), ds = [.lst (rows.map dRow), dPap pap] ∧ PapOk k rows pap ∧ (∀ r ∈ rows, LRow r) ∧ pap.length ≤ 8 ∧ 1 ≤ k ∧ k ≤ 20000 ∧ (∀ u, coef (combP rows pap) u = 0) ∧ holds0 (totRow rows pap) = false ∧ R (.bl true)
theorem combP_app (rows : List Row) : ∀ a b : Pap, combP rows (a ++ b) = combP rows a ++ combP rows b
  | [], b => rfl
  | p :: a, b => by rw [List.cons_append, combP, combP, combP_app rows a b, List.append_assoc]
theorem combB_app (rows : List Row) : ∀ a b : Pap, combB rows (a ++ b) = combB rows a + combB rows b
  | [], b => by rw [List.nil_append, combB]; grind
  | p :: a, b => by rw [List.cons_append, combB, combB, combB_app rows a b]; grind
theorem rowAt_some {rows : List Row} {i : Nat} {r : Row} (h : rows[i]? = some r) : rowAt rows i = r := by
  unfold rowAt
  rw [List.getD_eq_getElem?_getD, h]; rfl
theorem comb_len {k : Nat} {rows : List Row} : ∀ {pap : Pap}, PapOk k rows pap → (∀ r ∈ rows, LRow r) → (combP rows pap).length ≤ 3 * pap.length ∧ SzL (k + 2) 2 (combP rows pap) ∧ ∀ u, cnt (combP rows pap) u ≤ pap.length
  | [], _, _ => ⟨by simp [combP], (by intro p hp; cases hp), fun u => by simp [combP, cnt]⟩
  | p :: pap, h, hr => by
    have ht : PapOk k rows pap := ⟨(List.pairwise_cons.mp h.asc).2, fun q hq => h.each q (List.mem_cons_of_mem _ hq)⟩
    obtain ⟨h1, h2, h3⟩ := comb_len ht hr
    obtain ⟨r, e1, e2, e3⟩ := h.each p (List.mem_cons_self ..)
    have lr := hr r (List.mem_of_getElem? e1)
    rw [combP, rowAt_some e1]
    refine ⟨?_, ?_, fun u => ?_⟩
    · rw [List.length_append, List.length_map, List.length_cons]
      have := lr.l
      omega
    · refine SzL.app ?_ h2
      exact lr.s.map e3
    · rw [cnt_app, cnt_map, List.length_cons]
      have := cnt_nd (u := u) lr.c.nd
      have := h3 u
      omega
theorem combB_sz {k : Nat} {rows : List Row} (hk : 1 ≤ k) : ∀ {pap : Pap}, PapOk k rows pap → (∀ r ∈ rows, LRow r) → Sz (k + 20 + 10 * pap.length) (7 * pap.length + 1) (combB rows pap)
  | [], _, _ => Sz.zero.mono (by omega) (by omega)
  | p :: pap, h, hr => by
    have ht : PapOk k rows pap := ⟨(List.pairwise_cons.mp h.asc).2, fun q hq => h.each q (List.mem_cons_of_mem _ hq)⟩
    have h1 := combB_sz hk ht hr
    obtain ⟨r, e1, e2, e3⟩ := h.each p (List.mem_cons_self ..)
    have lr := hr r (List.mem_of_getElem? e1)
    rw [combB, rowAt_some e1, List.length_cons]
    exact ((e3.mul lr.b).add h1).mono (by omega) (by omega)
theorem PapOk.pre {k : Nat} {rows : List Row} {a b : Pap} (h : PapOk k rows (a ++ b)) : PapOk k rows a := by
  refine ⟨?_, fun p hp => h.each p (List.mem_append_left _ hp)⟩
  have := h.asc
  rw [List.map_append, List.pairwise_append] at this
  exact this.1
def genB (scope : Scope) (x : Str) : Bool := decide (scope.kind = .function) && (!scope.isCoroutine) && scope.names.all (fun y => decide (y.2 ≠ .cell) && decide (y.2 ≠ .free)) && decide (scope.names.lookup (".0" : Str) = some .local) && decide (scope.names.lookup x = some .local)
theorem genS_of {env : Env} {scope : Scope} {x : Str} (h : genB scope x = true) : GxR.GenS env scope x := by
  unfold genB at h
  simp only [Bool.and_eq_true, List.all_eq_true, decide_eq_true_eq, Bool.not_eq_true'] at h
  obtain ⟨⟨⟨⟨h1, h2⟩, h3⟩, h4⟩, h5⟩ := h
  exact ⟨h1, h2, fun y hy => (h3 y hy).1, h4, h5, fun y hy e => absurd e (h3 y hy).2⟩
section
variable {P : Program} {w : World} {K : PySem.W.Frag} {mg : Str → Option Value} {base : Heap} {f : Addr} {fd : FuncData} {T : Addr}
theorem ok_is_multiplier (F : Fun K "is_multiplier" "is_multiplier" s_is_multiplier f fd) (Gk : Def P w K mg base 1 "compare" P_compare (spD K wCmp)) (h0 : GD K mg "ZERO" (dQ 0)) : FnOk P w K mg base CX0 2 f fd P_is_multiplier (spD K wIsM) := by
  refine okD F sc_is_multiplier (fun ds R h => by obtain ⟨v, sg, k, rfl, _⟩ := h; rfl) fun cdv A outer s H E hr ds R h => ?_
  obtain ⟨v, sg, k, rfl, hv, hk, r⟩ := h
  have hu := hr.units
  refine bs_If <| wt_cmp <| w_var 1 rfl <| w_str <| opw_eqS ⟨_, rfl, ?_⟩
  rw [str_eq]
  unfold isM at r
  by_cases hs : sg = .eq
  · rw [decide_eq_true hs]
    rw [if_pos hs] at r
    refine bs_cons <| s_ret <| w_cmp <| w_var 0 rfl <| w_gd h0 <| opw_neT hu (k := decide (v = 0)) (by rw [decide_eq_true_eq]; exact dQ_iff.symm) ?_
    rw [← decide_not]
    exact ⟨_, rfl, rfl, r⟩
  · rw [decide_eq_false hs]
    rw [if_neg hs] at r
    refine bs_nil <| bs_cons <| s_ret <| w_cmp <| w_call Gk hr <| wa_v <| w_var 0 rfl <| wa_v <| w_gd h0 <| wa_nil ⟨v, 0, k + 1, rfl, hv.mono (by omega) (by omega), Sz.zero.mono (by omega) (by omega), by omega, w_int <| opw_gt ?_⟩
    rw [decide_eq_decide.mpr (cmpQ_gt v 0)]
    exact ⟨_, rfl, rfl, r⟩
theorem ok_is_paper (F : Fun K "is_paper" "is_paper" s_is_paper f fd) (Gm : Def P w K mg base 2 "is_multiplier" P_is_multiplier (spD K wIsM)) (hL : mg "len" = none) : FnOk P w K mg base CX0 3 f fd P_is_paper (spD K wIsP) := by
  refine okD F sc_is_paper (fun ds R h => by obtain ⟨rows, pap, k, rfl, _⟩ := h; rfl) fun cdv A outer s H E hr ds R h => ?_
  obtain ⟨rows, pap, k, rfl, ok, k1, hk, r⟩ := h
  refine bs_cons (s_set 2 (w_neg <| w_int ⟨1, rfl, ?_⟩) sc_is_paper.nd)
  refine bs_cons (s_for (it_tup <| w_var 1 rfl ⟨_, rfl, ?_⟩) rfl PassesOwn.never)
  refine forD_ind (fun rest ρ δ => ∃ (pre suf : Pap) (b : Int) (o3 o4 : Option D), rest = suf.map dIx ∧ pap = pre ++ suf ∧ ρ = noR ∧ δ = [some (.lst (rows.map dRow)), some (dPap pap), some (.int b), o3, o4] ∧ (∀ p ∈ suf, b < p.1)) ?_ ?_ _ _ _ ⟨[], pap, -1, none, none, rfl, rfl, rfl, rfl, fun p hp => by omega⟩
  · rintro ρ δ ⟨pre, suf, b, o3, o4, e1, e2, rfl, rfl, _⟩
    exact bs_cons <| s_ret <| w_bl ⟨_, rfl, rfl, r⟩
  · rintro x xs ρ δ ⟨pre, suf, b, o3, o4, e1, e2, rfl, rfl, hb⟩
    cases suf with
    | nil => cases e1
    | cons q suf =>
      cases e1
      obtain ⟨r', g1, g2, g3⟩ := ok.each q (by rw [e2]; simp)
      have hlt : q.1 < rows.length := (List.getElem?_eq_some_iff.mp g1).1
      have hb1 := hb q (List.mem_cons_self ..)
      refine tg_tup (tgs_cons <| tg_name 3 (tgs_cons <| tg_name 4 (tgs_nil ?_) sc_is_paper.nd) sc_is_paper.nd) rfl rfl
      refine bs_If <| wt_ww <| ww_or <| wt_not <| wt_chain <| w_var 2 rfl <| w_var 3 rfl <| opw_lt ⟨_, rfl, ?_⟩
      rw [decide_eq_true hb1]
      refine w_len (w_var 0 rfl ⟨_, rfl, opw_lt ⟨_, rfl, ?_⟩⟩) hL
      rw [decide_eq_true (by rw [List.length_map]; omega)]
      refine ww_or1 <| wt_not <| wt_val <| w_call Gm hr <| wa_v <| w_var 4 rfl <| wa_v <| w_ix <| w_ix <| w_var 0 rfl <| w_var 3 rfl ⟨q.1, rows.map dRow, dRow r', rfl, rfl, by rw [List.getElem?_map, g1]; rfl, w_int ⟨1, _, _, rfl, rfl, rfl, wa_nil ⟨q.2, r'.sg, k, rfl, g3.mono (Nat.le_refl _) k1, hk, _, rfl, ?_⟩⟩⟩
      rw [g2]
      refine bs_nil <| bs_cons (s_set 2 (w_var 3 rfl ?_) sc_is_paper.nd)
      refine bs_nil ⟨trivial, pre ++ [q], suf, (q.1 : Int), some (.int (q.1 : Int)), some (dQ q.2), rfl, by rw [e2]; simp, rfl, rfl, fun p hp => ?_⟩
      have := ok.asc
      rw [e2, List.map_append, List.pairwise_append] at this
      have h2 : q.1 < p.1 := (List.pairwise_cons.mp this.2.1).1 p.1 (List.mem_map_of_mem hp)
      omega
theorem ok_sign_of {c : Addr} (F : FunC K "sign_of" "sign_of" s_sign_of f fd c) (hTab : GxR.TabB base mg c T) (hA : mg "all" = none) : FnOk P w K mg base CX0 1 f fd P_sign_of (spT T (spD K wSgn)) := by
  refine okDC F sc_sign_of (fun ds R h => by obtain ⟨l, rfl, _⟩ := h; rfl) fun A outer s H E hT hr ds R h => ?_
  obtain ⟨l, rfl, r⟩ := h
  have hu := hr.units
  have e1 : l.map (fun s => D.str s.str) = (l.map Sg.str).map D.str := by rw [List.map_map]; rfl
  refine bs_If <| wt_val <| w_allT hT (w_var 0 rfl ⟨l.map Sg.str, e1.symm, _, rfl, ?_⟩) hr hTab rfl (eltT_eq rfl rfl) hA (genS_of rfl)
  have e2 : (l.map Sg.str).all (fun a => a.cps.toList == ("=" : Str).cps.toList) = l.all (· = .eq) := by
    rw [List.all_map]
    congr 1
    funext s
    cases s <;> decide +kernel
  rw [e2]
  unfold signOf at r
  by_cases h1 : l.all (· = .eq) = true
  · rw [h1]
    rw [if_pos h1] at r
    exact bs_cons <| s_ret <| w_str ⟨_, rfl, rfl, r⟩
  · rw [Bool.not_eq_true] at h1
    rw [h1]
    rw [h1, if_neg (by simp)] at r
    refine bs_nil <| bs_If <| wt_cmp <| w_str <| w_var 0 rfl <| opw_inS (l.map Sg.str) (k := decide (Sg.lt ∈ l)) hu e1.symm (decide_eq_decide.mpr ⟨fun z => ?_, fun z => List.mem_map.mpr ⟨_, z, rfl⟩⟩) ⟨_, rfl, ?_⟩
    · obtain ⟨s, hs, e⟩ := List.mem_map.mp z
      cases s with
      | eq => exact absurd e (by decide)
      | le => exact absurd e (by decide)
      | lt => exact hs
    · by_cases h2 : Sg.lt ∈ l
      · rw [decide_eq_true h2]
        rw [if_pos h2] at r
        exact bs_cons <| s_ret <| w_str ⟨_, rfl, rfl, r⟩
      · rw [decide_eq_false h2]
        rw [if_neg h2] at r
        exact bs_nil <| bs_cons <| s_ret <| w_str ⟨_, rfl, rfl, r⟩
end
end LP
set_option maxRecDepth 100000
set_option maxHeartbeats 4000000
/-! Pn12: sum_of, refutes. -/
namespace LP
open PySem PySem.Spec PyProof.Rows L2
theorem one_line {n : Nat} (h : Nat.ble n 1000 = true := by rfl) : n ≤ sizeLine := le_line (by have := Nat.le_of_ble_eq_true h; omega)
section
variable {P : Program} {w : World} {K : PySem.W.Frag} {mg : Str → Option Value} {base : Heap} {f : Addr} {fd : FuncData} {T : Addr}
theorem ok_sum_of (F : Fun K "sum_of" "sum_of" s_sum_of f fd) (Gs : Def P w K mg base 1 "sign_of" P_sign_of (spT T (spD K wSgn))) (Gg : Def P w K mg base 4 "gathered" P_gathered (spD K wGath)) (Gt : Def P w K mg base 3 "times" P_times (spD K (wOp (· * ·)))) (Gp : Def P w K mg base 3 "plus" P_plus (spD K (wOp (· + ·))))
    (h0 : GD K mg "ZERO" (dQ 0)) : FnOk P w K mg base CX0 5 f fd P_sum_of (spT T (spD K wSumOf)) := by
  refine okDT F sc_sum_of (fun ds R h => by obtain ⟨rows, pap, k, rfl, _⟩ := h; rfl) fun cdv A outer s H E hT hr ds R h => ?_
  obtain ⟨rows, pap, k, rfl, ok, hrows, h8, k1, hk, r⟩ := h
  have hu := hr.units
  have m3 := hr.mono (show 3 ≤ 4 by decide)
  obtain ⟨c1, c2, c3⟩ := comb_len ok hrows
  refine bs_cons (s_setL 2 (wl_lst <| wi_nil ⟨by decide, fun p hp => ?_⟩) sc_sum_of.nd)
  refine bs_cons (s_set 3 (w_gd h0 ?_) sc_sum_of.nd)
  refine bs_mid (fun ρ δ => ∃ o4 o5 o6 o7 o8, ρ = put noR p (.L ((combP rows pap).map dPt)) ∧ δ = [some (.lst (rows.map dRow)), some (dPap pap), some (.obj p), some (dQ (combB rows pap)), o4, o5, o6, o7, o8, none, none]) (s_for (it_tup <| w_var 1 rfl ⟨_, rfl, ?_⟩) rfl PassesOwn.never) ?_
  · refine forD_ind (fun rest ρ δ => ∃ (pre suf : Pap) (o4 o5 o6 o7 o8 : Option D), rest = suf.map dIx ∧ pap = pre ++ suf ∧ ρ = put noR p (.L ((combP rows pre).map dPt)) ∧ δ = [some (.lst (rows.map dRow)), some (dPap pap), some (.obj p), some (dQ (combB rows pre)), o4, o5, o6, o7, o8, none, none]) ?_ ?_ _ _ _
      ⟨[], pap, none, none, none, none, none, rfl, rfl, rfl, rfl⟩
    · rintro ρ δ ⟨pre, suf, o4, o5, o6, o7, o8, e1, e2, rfl, rfl⟩
      have : suf = [] := by cases suf with | nil => rfl | cons _ _ => cases e1
      subst this
      rw [List.append_nil] at e2
      subst e2
      exact ⟨o4, o5, o6, o7, o8, rfl, rfl⟩
    · rintro x xs ρ δ ⟨pre, suf, o4, o5, o6, o7, o8, e1, e2, rfl, rfl⟩
      cases suf with
      | nil => cases e1
      | cons q suf =>
        cases e1
        obtain ⟨r', g1, g2, g3⟩ := ok.each q (by rw [e2]; simp)
        have lr := hrows r' (List.mem_of_getElem? g1)
        have okpre : PapOk k rows pre := PapOk.pre (b := q :: suf) (by rw [← e2]; exact ok)
        have bsz := combB_sz k1 okpre hrows
        have plen : pre.length < pap.length := by rw [e2]; simp
        obtain ⟨d1, _, _⟩ := comb_len okpre hrows
        have hl := lr.l
        refine tg_tup (tgs_cons <| tg_name 4 (tgs_cons <| tg_name 5 (tgs_nil ?_) sc_sum_of.nd) sc_sum_of.nd) rfl rfl
        refine bs_cons (s_asg (w_ix <| w_var 0 rfl <| w_var 4 rfl ⟨q.1, rows.map dRow, dRow r', rfl, rfl, by rw [List.getElem?_map, g1]; rfl, tg_tup (tgs_cons <| tg_name 6 (tgs_cons <| tg_name 7 (tgs_cons <| tg_name 8 (tgs_nil ?_) sc_sum_of.nd) sc_sum_of.nd) sc_sum_of.nd) rfl rfl⟩))
        refine bs_cons (s_extend (w_var 2 rfl rfl) put_same (lc2 (α := Str × Rat) [("unknown", 9), ("value", 10)] 9 10 sc_sum_of.nd (it_tup <| w_var 6 rfl ⟨_, rfl, ?_⟩)))
        refine ⟨by rw [List.length_map]; exact le_line (by omega), r'.ps, fun z => .str z.1, fun z => dQ z.2, fun z => dPt (z.1, q.2 * z.2), rfl, fun z hz s' H' C cl fp => ?_, ?_, ?_⟩
        · exact w_tup <| wi_cons <| w_var 9 rfl <| wi_cons <| w_call Gt m3 <| wa_v <| w_var 5 rfl <| wa_v <| w_var 10 rfl <| wa_nil ⟨q.2, z.2, k, 1, 2, 1, rfl, g3, lr.s z hz, by omega, by omega, by omega, wi_nil ⟨one_line, rfl⟩⟩
        · rw [List.length_map, List.length_map]
          exact le_line (by omega)
        · refine bs_cons (s_set 3 (w_call Gp m3 <| wa_v <| w_var 3 rfl <| wa_v <| w_call Gt m3 <| wa_v <| w_var 5 rfl <| wa_v <| w_var 8 rfl <| wa_nil ⟨q.2, r'.b, k, 1, 6, 6, rfl, g3, lr.b, by omega, by omega, by omega, wa_nil ⟨combB rows pre, q.2 * r'.b, _, _, k + 6, 1 + 6, rfl, bsz, g3.mul lr.b, by omega, by omega, by omega, ?_⟩⟩) sc_sum_of.nd)
          refine bs_nil ⟨trivial, pre ++ [q], suf, some (.int q.1), some (dQ q.2), some (dPts r'.ps), some (.str r'.sg.str), some (dQ r'.b), rfl, by rw [e2]; simp, ?_, ?_⟩
          rotate_left 1
          · rw [combB_app, combB, combB, rowAt_some g1, Rat.add_zero]
            rfl
          · rw [put_put, combP_app, combP, combP, rowAt_some g1, List.append_nil, List.map_append, List.map_map]
            rfl
  rintro _ _ ⟨o4, o5, o6, o7, o8, rfl, rfl⟩
  refine bs_cons <| s_ret <| w_tup <| wi_cons <| w_call Gg hr <| wa_o <| w_var 2 rfl ⟨p, _, rfl, put_same, wa_nil ⟨combP rows pap, k + 2, 2, 8, rfl, c2, fun u => Nat.le_trans (c3 u) h8, by decide, by decide, by omega, by decide, by omega, by omega, wi_cons <| w_callT hT Gs (hr.mono (by decide)) <| wa_l <| lc2 (α := Nat × Rat) [("index", 4), ("multiplier", 5)] 4 5 sc_sum_of.nd (it_tup <| w_var 1 rfl ⟨_, rfl, ?_⟩)⟩⟩
  refine ⟨by rw [List.length_map]; exact le_line (by omega), pap, fun z => .int z.1, fun z => dQ z.2, fun z => .str (rowAt rows z.1).sg.str, rfl, fun z hz s' H' C cl fp => ?_, ?_⟩
  · obtain ⟨r', g1, g2, g3⟩ := ok.each z hz
    exact w_ix <| w_ix <| w_var 0 rfl <| w_var 4 rfl ⟨z.1, rows.map dRow, dRow r', rfl, rfl, by rw [List.getElem?_map, g1]; rfl, w_int ⟨1, _, _, rfl, rfl, rfl, by show D.str r'.sg.str = D.str (rowAt rows z.1).sg.str; rw [rowAt_some g1]⟩⟩
  · refine wa_nil ⟨pap.map fun z => (rowAt rows z.1).sg, by rw [List.map_map]; rfl, wi_cons <| w_var 3 rfl <| wi_nil ⟨one_line, ?_⟩⟩
    exact ⟨_, rfl, flat_row (totRow rows pap), r⟩
theorem ok_refutes (F : Fun K "refutes" "refutes" s_refutes f fd) (Gi : Def P w K mg base 3 "is_paper" P_is_paper (spD K wIsP)) (Gs : Def P w K mg base 5 "sum_of" P_sum_of (spT T (spD K wSumOf))) (Gh : Def P w K mg base 2 "holds" P_holds (spD K wHol)) : FnOk P w K mg base CX0 6 f fd P_refutes (spT T (spD K wRef)) := by
  refine okDT F sc_refutes (fun ds R h => by obtain ⟨rows, pap, k, rfl, _⟩ := h; rfl) fun cdv A outer s H E hT hr ds R h => ?_
  obtain ⟨rows, pap, k, rfl, ok, hrows, h8, k1, hk, hz, hh, r⟩ := h
  have hu := hr.units
  refine bs_If <| wt_not <| wt_val <| w_call Gi (hr.mono (by decide)) <| wa_v <| w_var 0 rfl <| wa_v <| w_var 1 rfl <| wa_nil ⟨rows, pap, k, rfl, ok, k1, by omega, _, rfl, ?_⟩
  have hp : (totRow rows pap).ps = [] := (gath_canon _).nil_of fun u => by rw [gath_coef]; exact hz u
  refine bs_nil <| bs_cons (s_set 2 (w_callT hT Gs hr <| wa_v <| w_var 0 rfl <| wa_v <| w_var 1 rfl <| wa_nil ⟨rows, pap, k, rfl, ok, hrows, h8, k1, hk, ?_⟩) sc_refutes.nd)
  have bsz := combB_sz k1 ok hrows
  have hd : dRow (totRow rows pap) = .tup [.tup [], .str (totRow rows pap).sg.str, dQ (totRow rows pap).b] := by
    unfold dRow
    rw [hp]
    rfl
  refine bs_cons <| s_ret <| w_and <| w_cmp <| w_ix <| w_var 2 rfl <| w_int ⟨0, _, .tup [], rfl, rfl, by show (some (dPts (totRow rows pap).ps)) = _; rw [hp]; rfl, w_tup <| wi_nil ⟨one_line, opw_eqT hu (k := true) ⟨fun _ => rfl, fun _ => rfl⟩ ⟨_, rfl, ?_⟩⟩⟩
  refine w_one <| w_not <| w_call Gh (hr.mono (by decide)) <| wa_v <| w_var 2 rfl <| wa_v <| w_e0 <| wa_nil ⟨totRow rows pap, k + 200, rfl, hp, bsz.mono (by omega) (by omega), by omega, _, rfl, ?_⟩
  rw [hh]
  exact ⟨_, rfl, rfl, r⟩
end
end LP
set_option maxRecDepth 100000
/-! El: rows at points, papers, combination: plain Lean. -/
namespace LP
open PySem L2
abbrev Val := Str → Rat
def ev (v : Val) : Pts → Rat
  | [] => 0
  | p :: ps => p.2 * v p.1 + ev v ps
def Hold (v : Val) (r : Row) : Prop := match r.sg with
  | .eq => ev v r.ps = r.b
  | .le => ev v r.ps ≤ r.b
  | .lt => ev v r.ps < r.b
abbrev DRw := Row × Pap
def dDr (d : DRw) : D := .tup [dRow d.1, dPap d.2]
def Sat (v : Val) (rows : List DRw) : Prop := ∀ d ∈ rows, Hold v d.1
theorem ev_app (v : Val) : ∀ a b : Pts, ev v (a ++ b) = ev v a + ev v b
  | [], b => by rw [List.nil_append, ev]; grind
  | p :: a, b => by rw [List.cons_append, ev, ev, ev_app v a b]; grind
theorem ev_map (v : Val) (c : Rat) : ∀ a : Pts, ev v (a.map fun p => (p.1, c * p.2)) = c * ev v a
  | [] => by simp [ev]
  | p :: a => by rw [List.map_cons, ev, ev, ev_map v c a]; grind
/-- the value depends on the sums at the names alone -/
def evN (v : Val) (g : Str → Rat) : List Str → Rat
  | [] => 0
  | u :: us => g u * v u + evN v g us
theorem evN_zero (v : Val) (g : Str → Rat) : ∀ us : List Str, (∀ u ∈ us, g u = 0) → evN v g us = 0
  | [], _ => rfl
  | u :: us, h => by rw [evN, h u (List.mem_cons_self ..), evN_zero v g us fun x hx => h x (List.mem_cons_of_mem _ hx)]; grind
theorem evN_add (v : Val) (g h : Str → Rat) : ∀ us : List Str, evN v (fun u => g u + h u) us = evN v g us + evN v h us
  | [] => by simp [evN]; grind
  | u :: us => by rw [evN, evN, evN, evN_add v g h us]; grind
theorem evN_one (v : Val) (x : Str) (c : Rat) : ∀ us : List Str, us.Nodup → evN v (fun u => if x = u then c else 0) us = if x ∈ us then c * v x else 0
  | [], _ => by simp [evN]
  | u :: us, n => by
    rw [List.nodup_cons] at n
    rw [evN, evN_one v x c us n.2]
    by_cases e : x = u
    · subst e
      rw [if_pos rfl, if_neg n.1, if_pos (List.mem_cons_self ..)]; grind
    · rw [if_neg e]
      by_cases m : x ∈ us
      · rw [if_pos m, if_pos (List.mem_cons_of_mem _ m)]; grind
      · rw [if_neg m, if_neg (fun z => (List.mem_cons.mp z).elim e m)]; grind
theorem ev_evN (v : Val) (us : List Str) (n : us.Nodup) : ∀ a : Pts, (∀ p ∈ a, p.1 ∈ us) → ev v a = evN v (coef a) us
  | [], _ => (evN_zero v _ us fun _ _ => rfl).symm
  | p :: a, h => by
    rw [ev, ev_evN v us n a fun q hq => h q (List.mem_cons_of_mem _ hq)]
    have e : coef (p :: a) = fun u => (if p.1 = u then p.2 else 0) + coef a u := by funext u; rfl
    rw [e, evN_add, evN_one v p.1 p.2 us n, if_pos (h p (List.mem_cons_self ..))]
theorem ev_coef (v : Val) {a b : Pts} (h : ∀ u, coef a u = coef b u) : ev v a = ev v b := by
  have n := nms_nd ((a ++ b).map (·.1))
  rw [ev_evN v (nms ((a ++ b).map (·.1))) n a (fun p hp => nms_mem.mpr (List.mem_map_of_mem (List.mem_append_left _ hp))), ev_evN v (nms ((a ++ b).map (·.1))) n b (fun p hp => nms_mem.mpr (List.mem_map_of_mem (List.mem_append_right _ hp)))]
  rw [show coef a = coef b from funext h]
theorem ev_gath (v : Val) (a : Pts) : ev v (gath a) = ev v a := ev_coef v (gath_coef a)
/-- the same with one value changed -/
def putV (v : Val) (u : Str) (x : Rat) : Val := fun w => if w = u then x else v w
theorem ev_put (v : Val) (u : Str) (x : Rat) : ∀ a : Pts, ev (putV v u x) a = ev v a + coef a u * (x - v u)
  | [] => by simp [ev, coef]; grind
  | p :: a => by
    rw [ev, ev, coef, ev_put v u x a]
    unfold putV
    by_cases e : p.1 = u
    · rw [if_pos e, if_pos e, e]; grind
    · rw [if_neg e, if_neg e]; grind
theorem hold_put {v : Val} {u : Str} {x : Rat} {r : Row} (h : coef r.ps u = 0) : Hold (putV v u x) r ↔ Hold v r := by
  have e : ev (putV v u x) r.ps = ev v r.ps := by rw [ev_put, h]; grind
  unfold Hold
  rw [e]
/-! ### normal rows -/
theorem mul_le_iff {c a b : Rat} (hc : 0 < c) : c * a ≤ c * b ↔ a ≤ b := by
  constructor
  · intro h
    refine Rat.not_lt.mp fun z => ?_
    have := Rat.mul_lt_mul_of_pos_left z hc
    grind
  · intro h
    exact Rat.mul_le_mul_of_nonneg_left h (Rat.le_of_lt hc)
theorem mul_lt_iff {c a b : Rat} (hc : 0 < c) : c * a < c * b ↔ a < b := by
  rw [← Rat.not_le, ← Rat.not_le, mul_le_iff hc]
theorem mul_eq_iff {c a b : Rat} (hc : c ≠ 0) : c * a = c * b ↔ a = b := by
  constructor
  · intro h
    have h2 : c * (a - b) = 0 := by grind
    rcases Rat.mul_eq_zero.mp h2 with z | z
    · exact absurd z hc
    · grind
  · intro h; rw [h]
theorem hold_norm {v : Val} {r : Row} (hz : ∀ p ∈ r.ps, p.2 ≠ 0) : Hold v (norm r) ↔ Hold v r := by
  have h1 := fac_ne hz
  obtain ⟨ps, sg, b⟩ := r
  unfold Hold norm
  cases sg with
  | eq =>
    show ev v (ps.map fun p => (p.1, fac ⟨ps, .eq, b⟩ * p.2)) = fac ⟨ps, .eq, b⟩ * b ↔ ev v ps = b
    rw [ev_map, mul_eq_iff h1]
  | le =>
    show ev v (ps.map fun p => (p.1, fac ⟨ps, .le, b⟩ * p.2)) ≤ fac ⟨ps, .le, b⟩ * b ↔ ev v ps ≤ b
    rw [ev_map, mul_le_iff (fac_pos hz (by simp))]
  | lt =>
    show ev v (ps.map fun p => (p.1, fac ⟨ps, .lt, b⟩ * p.2)) < fac ⟨ps, .lt, b⟩ * b ↔ ev v ps < b
    rw [ev_map, mul_lt_iff (fac_pos hz (by simp))]
/-! ### the row that two rows make -/
def total (a : Row) (one : Rat) (b : Row) (other : Rat) : Row :=
  ⟨gath ((a.ps.map fun p => (p.1, one * p.2)) ++ (b.ps.map fun p => (p.1, other * p.2))), signOf [a.sg, b.sg], one * a.b + other * b.b⟩
theorem total_coef (a : Row) (one : Rat) (b : Row) (other : Rat) (u : Str) : coef (total a one b other).ps u = one * coef a.ps u + other * coef b.ps u := by
  show coef (gath _) u = _
  rw [gath_coef, coef_app, coef_map, coef_map]
theorem total_ev (v : Val) (a : Row) (one : Rat) (b : Row) (other : Rat) : ev v (total a one b other).ps = one * ev v a.ps + other * ev v b.ps := by
  show ev v (gath _) = _
  rw [ev_gath, ev_app, ev_map, ev_map]
theorem total_canon (a : Row) (one : Rat) (b : Row) (other : Rat) : Canon (total a one b other).ps := gath_canon _
theorem norm_canon {r : Row} (c : Canon r.ps) : Canon (norm r).ps := c.map (fac_ne c.nz)
theorem norm_coef {r : Row} (u : Str) : coef (norm r).ps u = fac r * coef r.ps u := coef_map _ _ _
/-! ### papers -/
def sumP (g : Nat → Rat) : Pap → Rat
  | [] => 0
  | p :: ps => p.2 * g p.1 + sumP g ps
def rsum (f : Nat → Rat) : Nat → Rat
  | 0 => 0
  | n + 1 => rsum f n + f n
theorem rsum_zero (f : Nat → Rat) : ∀ n, (∀ i, i < n → f i = 0) → rsum f n = 0
  | 0, _ => rfl
  | n + 1, h => by rw [rsum, rsum_zero f n fun i hi => h i (by omega), h n (by omega)]; grind
theorem rsum_add (f g : Nat → Rat) : ∀ n, rsum (fun i => f i + g i) n = rsum f n + rsum g n
  | 0 => by simp [rsum]; grind
  | n + 1 => by rw [rsum, rsum, rsum, rsum_add f g n]; grind
theorem rsum_one (k : Nat) (c : Rat) (g : Nat → Rat) : ∀ n, rsum (fun i => (if k = i then c else 0) * g i) n = if k < n then c * g k else 0
  | 0 => by simp [rsum]
  | n + 1 => by
    rw [rsum, rsum_one k c g n]
    by_cases e : k = n
    · subst e; rw [if_neg (by omega), if_pos rfl, if_pos (by omega)]; grind
    · rw [if_neg e]
      by_cases h : k < n
      · rw [if_pos h, if_pos (by omega)]; grind
      · rw [if_neg h, if_neg (by omega)]; grind
theorem sumP_rsum (g : Nat → Rat) (n : Nat) : ∀ a : Pap, (∀ p ∈ a, p.1 < n) → sumP g a = rsum (fun i => coef a i * g i) n
  | [], _ => (rsum_zero _ n fun i _ => by simp [coef]).symm
  | p :: a, h => by
    rw [sumP, sumP_rsum g n a fun q hq => h q (List.mem_cons_of_mem _ hq)]
    have e : (fun i => coef (p :: a) i * g i) = fun i => (if p.1 = i then p.2 else 0) * g i + coef a i * g i := by funext i; rw [coef]; grind
    rw [e, rsum_add, rsum_one, if_pos (h p (List.mem_cons_self ..))]
theorem combP_coef (rows : List Row) (u : Str) : ∀ a : Pap, coef (combP rows a) u = sumP (fun i => coef (rowAt rows i).ps u) a
  | [] => rfl
  | p :: a => by rw [combP, coef_app, coef_map, combP_coef rows u a]; rfl
theorem combB_sum (rows : List Row) : ∀ a : Pap, combB rows a = sumP (fun i => (rowAt rows i).b) a
  | [] => rfl
  | p :: a => by rw [combB, combB_sum rows a]; rfl
theorem sumP_of {g : Nat → Rat} {n : Nat} {a b c : Pap} {x y : Rat} (ha : ∀ p ∈ a, p.1 < n) (hb : ∀ p ∈ b, p.1 < n) (hc : ∀ p ∈ c, p.1 < n) (h : ∀ i, coef c i = x * coef a i + y * coef b i) : sumP g c = x * sumP g a + y * sumP g b := by
  have lin : ∀ (z : Rat) (f : Nat → Rat) (m : Nat), rsum (fun i => z * f i) m = z * rsum f m := fun z f m => by
    induction m with
    | zero => simp [rsum]
    | succ m ih => rw [rsum, rsum, ih]; grind
  rw [sumP_rsum g n a ha, sumP_rsum g n b hb, sumP_rsum g n c hc, ← lin, ← lin, ← rsum_add]
  congr 1
  funext i
  rw [h]; grind
end LP
set_option maxRecDepth 100000
/-! El2: combined rows stay sound; a paper refutes. -/
namespace LP
open PySem L2
theorem signOf_eq (l : List Sg) : signOf l = if Sg.lt ∈ l then .lt else if Sg.le ∈ l then .le else .eq := by
  unfold signOf
  by_cases h1 : Sg.lt ∈ l
  · rw [if_pos h1, if_pos h1, if_neg]
    intro h
    have := List.all_eq_true.mp h _ h1
    simp at this
  · rw [if_neg h1, if_neg h1]
    by_cases h2 : Sg.le ∈ l
    · rw [if_pos h2, if_neg]
      intro h
      have := List.all_eq_true.mp h _ h2
      simp at this
    · rw [if_neg h2, if_pos]
      rw [List.all_eq_true]
      intro s hs
      cases s with
      | eq => simp
      | le => exact absurd hs h2
      | lt => exact absurd hs h1
theorem signOf_congr {l m : List Sg} (h : ∀ s, s ≠ .eq → (s ∈ l ↔ s ∈ m)) : signOf l = signOf m := by
  rw [signOf_eq, signOf_eq]
  have h1 := h .lt (by simp)
  have h2 := h .le (by simp)
  by_cases a : Sg.lt ∈ l
  · rw [if_pos a, if_pos (h1.mp a)]
  · rw [if_neg a, if_neg fun z => a (h1.mpr z)]
    by_cases b : Sg.le ∈ l
    · rw [if_pos b, if_pos (h2.mp b)]
    · rw [if_neg b, if_neg fun z => b (h2.mpr z)]
theorem signOf_two (l m : List Sg) : signOf [signOf l, signOf m] = signOf (l ++ m) := by
  rw [signOf_eq (l ++ m), signOf_eq l, signOf_eq m]
  by_cases a : Sg.lt ∈ l <;> by_cases b : Sg.lt ∈ m <;> by_cases c : Sg.le ∈ l <;> by_cases d : Sg.le ∈ m <;> simp [a, b, c, d, signOf]
theorem signOf_iseq {l : List Sg} : signOf l = .eq ↔ ∀ s ∈ l, s = .eq := by
  rw [signOf_eq]
  by_cases a : Sg.lt ∈ l
  · rw [if_pos a]
    exact ⟨(fun z => by cases z), (fun z => by have := z _ a; cases this)⟩
  · rw [if_neg a]
    by_cases b : Sg.le ∈ l
    · rw [if_pos b]
      exact ⟨(fun z => by cases z), (fun z => by have := z _ b; cases this)⟩
    · rw [if_neg b]
      refine ⟨fun _ s hs => ?_, fun _ => rfl⟩
      cases s with
      | eq => rfl
      | le => exact absurd hs b
      | lt => exact absurd hs a
structure Dv (sys : List Row) (d : DRw) : Prop where
  asc : (d.2.map (·.1)).Pairwise (· < ·)
  each : ∀ p ∈ d.2, ∃ r, sys[p.1]? = some r ∧ isM p.2 r.sg = true
  co : ∀ u, coef d.1.ps u = coef (combP sys d.2) u
  bo : d.1.b = combB sys d.2
  sg : d.1.sg = signOf (d.2.map fun p => (rowAt sys p.1).sg)
  cn : Canon d.1.ps
theorem asc_nd {l : List Nat} (h : l.Pairwise (· < ·)) : l.Nodup := h.imp fun h => Nat.ne_of_lt h
theorem Dv.lt {sys : List Row} {d : DRw} (h : Dv sys d) : ∀ p ∈ d.2, p.1 < sys.length := fun p hp => by
  obtain ⟨r, e, _⟩ := h.each p hp
  exact (List.getElem?_eq_some_iff.mp e).1
structure CombOf (a : DRw) (one : Rat) (b : DRw) (other : Rat) (res : DRw) : Prop where
  row : res.1 = norm (total a.1 one b.1 other)
  asc : (res.2.map (·.1)).Pairwise (· < ·)
  nz : ∀ p ∈ res.2, p.2 ≠ 0
  co : ∀ i, coef res.2 i = fac (total a.1 one b.1 other) * (one * coef a.2 i + other * coef b.2 i)
theorem coef_key {α : Type} [DecidableEq α] {ps : List (α × Rat)} {u : α} (h : coef ps u ≠ 0) : ∃ p ∈ ps, p.1 = u := by
  have : u ∈ ps.map (·.1) := Decidable.byContradiction fun z => h (coef_no z)
  obtain ⟨p, hp, e⟩ := List.mem_map.mp this
  exact ⟨p, hp, e⟩
/-- multipliers at rows that are no equations -/
theorem Dv.pos {sys : List Row} {d : DRw} (h : Dv sys d) {i : Nat} (hi : (rowAt sys i).sg ≠ .eq) : 0 ≤ coef d.2 i ∧ (coef d.2 i ≠ 0 → 0 < coef d.2 i) := by
  by_cases z : coef d.2 i = 0
  · rw [z]; exact ⟨Rat.le_refl, fun k => absurd rfl k⟩
  · obtain ⟨p, hp, e⟩ := coef_key z
    subst e
    obtain ⟨r, e1, e2⟩ := h.each p hp
    rw [rowAt_some e1] at hi
    unfold isM at e2
    rw [if_neg hi] at e2
    have := of_decide_eq_true e2
    rw [coef_mem (asc_nd h.asc) hp]
    exact ⟨Rat.le_of_lt this, fun _ => this⟩
theorem comb_dv {sys : List Row} {a b res : DRw} {one other : Rat} (ha : Dv sys a) (hb : Dv sys b) (h1 : 0 < one) (h2 : 0 < other ∨ b.1.sg = .eq) (c : CombOf a one b other res) : Dv sys res := by
  have hz := (total_canon a.1 one b.1 other).nz
  have f0 := fac_ne (r := total a.1 one b.1 other) hz
  have tsg : (total a.1 one b.1 other).sg = signOf [a.1.sg, b.1.sg] := rfl
  generalize hf : fac (total a.1 one b.1 other) = f at *
  -- an inequality in the sum
  have other0 : ∀ i, (rowAt sys i).sg ≠ .eq → 0 ≤ other * coef b.2 i := fun i hi => by
    rcases h2 with h | h
    · have := (hb.pos hi).1
      have := Rat.mul_nonneg (Rat.le_of_lt h) this
      exact this
    · have : coef b.2 i = 0 := by
        refine Decidable.byContradiction fun z => ?_
        obtain ⟨p, hp, e⟩ := coef_key z
        rw [hb.sg, signOf_iseq] at h
        exact hi (by rw [← e]; exact h _ (List.mem_map_of_mem hp))
      rw [this]; grind
  have inab : ∀ i, coef res.2 i ≠ 0 → coef a.2 i ≠ 0 ∨ coef b.2 i ≠ 0 := fun i hi => by
    rw [c.co] at hi
    by_cases x : coef a.2 i = 0
    · right
      intro y
      rw [x, y] at hi
      exact hi (by grind)
    · exact .inl x
  have signA : ∀ i, coef a.2 i ≠ 0 → (rowAt sys i).sg ≠ .eq → a.1.sg ≠ .eq := fun i hi hn z => by
    obtain ⟨p, hp, e⟩ := coef_key hi
    rw [ha.sg, signOf_iseq] at z
    exact hn (by rw [← e]; exact z _ (List.mem_map_of_mem hp))
  have signB : ∀ i, coef b.2 i ≠ 0 → (rowAt sys i).sg ≠ .eq → b.1.sg ≠ .eq := fun i hi hn z => by
    obtain ⟨p, hp, e⟩ := coef_key hi
    rw [hb.sg, signOf_iseq] at z
    exact hn (by rw [← e]; exact z _ (List.mem_map_of_mem hp))
  have fpos : ∀ i, (coef a.2 i ≠ 0 ∨ coef b.2 i ≠ 0) → (rowAt sys i).sg ≠ .eq → 0 < f := fun i hi hn => by
    rw [← hf]
    refine fac_pos hz fun z => ?_
    rw [tsg, signOf_iseq] at z
    rcases hi with h | h
    · exact signA i h hn (z _ (by simp))
    · exact signB i h hn (z _ (by simp))
  have key : ∀ p ∈ res.2, ∃ r, sys[p.1]? = some r := fun p hp => by
    have e := coef_mem (asc_nd c.asc) hp
    have hn := c.nz p hp
    rcases inab p.1 (by rw [e]; exact hn) with h | h
    · obtain ⟨q, hq, e2⟩ := coef_key h
      obtain ⟨r, e3, _⟩ := ha.each q hq
      exact ⟨r, by rw [← e2]; exact e3⟩
    · obtain ⟨q, hq, e2⟩ := coef_key h
      obtain ⟨r, e3, _⟩ := hb.each q hq
      exact ⟨r, by rw [← e2]; exact e3⟩
  have hlt : ∀ p ∈ res.2, p.1 < sys.length := fun p hp => by
    obtain ⟨r, e⟩ := key p hp
    exact (List.getElem?_eq_some_iff.mp e).1
  have lin : ∀ i, coef res.2 i = f * one * coef a.2 i + f * other * coef b.2 i := fun i => by rw [c.co]; grind
  refine ⟨c.asc, fun p hp => ?_, fun u => ?_, ?_, ?_, ?_⟩
  · obtain ⟨r, e⟩ := key p hp
    refine ⟨r, e, ?_⟩
    have e1 := coef_mem (asc_nd c.asc) hp
    have hn := c.nz p hp
    unfold isM
    by_cases hs : r.sg = .eq
    · rw [if_pos hs]; exact decide_eq_true hn
    · rw [if_neg hs]
      have hs' : (rowAt sys p.1).sg ≠ .eq := by rw [rowAt_some e]; exact hs
      have hin := inab p.1 (by rw [e1]; exact hn)
      have fp := fpos p.1 hin hs'
      have a0 := (ha.pos hs').1
      have b0 := other0 p.1 hs'
      have s0 : 0 ≤ one * coef a.2 p.1 := Rat.mul_nonneg (Rat.le_of_lt h1) a0
      have : 0 ≤ p.2 := by
        rw [← e1, lin]
        have := Rat.mul_nonneg (Rat.le_of_lt fp) (show 0 ≤ one * coef a.2 p.1 + other * coef b.2 p.1 by grind)
        grind
      refine decide_eq_true ?_
      rcases Rat.le_iff_lt_or_eq.mp this with z | z
      · exact z
      · exact absurd z.symm hn
  · rw [c.row, norm_coef, total_coef, hf, ha.co, hb.co, combP_coef, combP_coef, combP_coef, sumP_of ha.lt hb.lt hlt lin]
    grind
  · rw [c.row]
    show fac _ * (one * a.1.b + other * b.1.b) = _
    rw [hf, ha.bo, hb.bo, combB_sum, combB_sum, combB_sum, sumP_of ha.lt hb.lt hlt lin]
    grind
  · rw [c.row]
    show signOf [a.1.sg, b.1.sg] = _
    rw [ha.sg, hb.sg, signOf_two]
    refine signOf_congr fun s hs => ?_
    rw [List.mem_append]
    constructor
    · intro h
      have back : ∀ i, (rowAt sys i).sg = s → coef res.2 i ≠ 0 → s ∈ res.2.map fun p => (rowAt sys p.1).sg := fun i hi hn => by
        obtain ⟨p, hp, e⟩ := coef_key hn
        exact List.mem_map.mpr ⟨p, hp, by rw [e]; exact hi⟩
      rcases h with h | h
      · obtain ⟨p, hp, e⟩ := List.mem_map.mp h
        have hn : (rowAt sys p.1).sg ≠ .eq := by rw [e]; exact hs
        have ca : coef a.2 p.1 ≠ 0 := by
          rw [coef_mem (asc_nd ha.asc) hp]
          obtain ⟨r, e1, e2⟩ := ha.each p hp
          rw [rowAt_some e1] at hn
          unfold isM at e2
          rw [if_neg hn] at e2
          have := of_decide_eq_true e2
          exact fun z => by grind
        have cp := (ha.pos hn).2 ca
        have b0 := other0 p.1 hn
        have fp := fpos p.1 (.inl ca) hn
        refine back p.1 e ?_
        rw [c.co]
        have s0 := Rat.mul_pos h1 cp
        have := Rat.mul_pos fp (show 0 < one * coef a.2 p.1 + other * coef b.2 p.1 by grind)
        exact fun z => by grind
      · obtain ⟨p, hp, e⟩ := List.mem_map.mp h
        have hn : (rowAt sys p.1).sg ≠ .eq := by rw [e]; exact hs
        have cb : coef b.2 p.1 ≠ 0 := by
          rw [coef_mem (asc_nd hb.asc) hp]
          obtain ⟨r, e1, e2⟩ := hb.each p hp
          rw [rowAt_some e1] at hn
          unfold isM at e2
          rw [if_neg hn] at e2
          have := of_decide_eq_true e2
          exact fun z => by grind
        have cp := (hb.pos hn).2 cb
        have op : 0 < other := h2.resolve_right fun z => signB p.1 cb hn z
        have a0 := (ha.pos hn).1
        have fp := fpos p.1 (.inr cb) hn
        refine back p.1 e ?_
        rw [c.co]
        have s0 := Rat.mul_pos op cp
        have s1 := Rat.mul_nonneg (Rat.le_of_lt h1) a0
        have := Rat.mul_pos fp (show 0 < one * coef a.2 p.1 + other * coef b.2 p.1 by grind)
        exact fun z => by grind
    · intro h
      obtain ⟨p, hp, e⟩ := List.mem_map.mp h
      rcases inab p.1 (by rw [coef_mem (asc_nd c.asc) hp]; exact c.nz p hp) with z | z
      · obtain ⟨q, hq, e2⟩ := coef_key z
        exact .inl (List.mem_map.mpr ⟨q, hq, by rw [e2]; exact e⟩)
      · obtain ⟨q, hq, e2⟩ := coef_key z
        exact .inr (List.mem_map.mpr ⟨q, hq, by rw [e2]; exact e⟩)
  · rw [c.row]
    exact norm_canon (total_canon _ _ _ _)
/-- a paper whose rows hold tells a row that holds -/
theorem paper_holds {sys : List Row} {v : Val} (hv : ∀ r ∈ sys, Hold v r) : ∀ pap : Pap, (∀ p ∈ pap, ∃ r, sys[p.1]? = some r ∧ isM p.2 r.sg = true) →
    ev v (combP sys pap) ≤ combB sys pap ∧ (Sg.lt ∈ pap.map (fun p => (rowAt sys p.1).sg) → ev v (combP sys pap) < combB sys pap) ∧ ((∀ s ∈ pap.map (fun p => (rowAt sys p.1).sg), s = Sg.eq) → ev v (combP sys pap) = combB sys pap)
  | [], _ => ⟨(by show (0 : Rat) ≤ 0; exact Rat.le_refl), (fun h => by cases h), fun _ => rfl⟩
  | p :: pap, h => by
    obtain ⟨i1, i2, i3⟩ := paper_holds hv pap fun q hq => h q (List.mem_cons_of_mem _ hq)
    obtain ⟨r, e1, e2⟩ := h p (List.mem_cons_self ..)
    have hr := hv r (List.mem_of_getElem? e1)
    rw [combP, combB, ev_app, ev_map, rowAt_some e1]
    simp only [List.map_cons, List.mem_cons, rowAt_some e1]
    unfold isM at e2
    unfold Hold at hr
    cases hs : r.sg with
    | eq =>
      rw [hs] at hr
      have hr : ev v r.ps = r.b := hr
      rw [hr]
      refine ⟨by grind, fun z => ?_, fun z => ?_⟩
      · rcases z with z | z
        · cases z
        · have := i2 z; grind
      · have := i3 fun s hs => z s (.inr hs)
        rw [this]
    | le =>
      rw [hs] at hr e2
      have hr : ev v r.ps ≤ r.b := hr
      have e2 := of_decide_eq_true (by simpa using e2 : decide (0 < p.2) = true)
      have := (mul_le_iff e2).mpr hr
      refine ⟨by grind, fun z => ?_, fun z => ?_⟩
      · rcases z with z | z
        · cases z
        · have := i2 z; grind
      · have := z .le (.inl rfl); cases this
    | lt =>
      rw [hs] at hr e2
      have hr : ev v r.ps < r.b := hr
      have e2 := of_decide_eq_true (by simpa using e2 : decide (0 < p.2) = true)
      have := (mul_lt_iff e2).mpr hr
      refine ⟨by grind, fun _ => by grind, fun z => ?_⟩
      have := z .lt (.inl rfl); cases this
theorem ev_zero {v : Val} {ps : Pts} (h : ∀ u, coef ps u = 0) : ev v ps = 0 := ev_coef v (b := []) h
/-- a paper that refutes -/
theorem paper_unsat {sys : List Row} {pap : Pap} (h : ∀ p ∈ pap, ∃ r, sys[p.1]? = some r ∧ isM p.2 r.sg = true) (hz : ∀ u, coef (combP sys pap) u = 0) (hh : holds0 (totRow sys pap) = false) (v : Val) : ¬ ∀ r ∈ sys, Hold v r := by
  intro hv
  obtain ⟨i1, i2, i3⟩ := paper_holds hv pap h
  rw [ev_zero hz] at i1 i2 i3
  unfold holds0 at hh
  have hs : (totRow sys pap).sg = signOf (pap.map fun p => (rowAt sys p.1).sg) := rfl
  have hb : (totRow sys pap).b = combB sys pap := rfl
  rw [hs, hb] at hh
  cases q : signOf (pap.map fun p => (rowAt sys p.1).sg) with
  | eq =>
    rw [q] at hh
    have := i3 (signOf_iseq.mp q)
    have hh : decide ((0 : Rat) = combB sys pap) = false := hh
    rw [decide_eq_true this] at hh
    cases hh
  | le =>
    rw [q] at hh
    have hh : (decide (0 < combB sys pap) || decide ((0 : Rat) = combB sys pap)) = false := hh
    rw [Bool.or_eq_false_iff] at hh
    have h1 := of_decide_eq_false hh.1
    have h2 := of_decide_eq_false hh.2
    rcases Rat.le_iff_lt_or_eq.mp i1 with z | z
    · exact h1 z
    · exact h2 z
  | lt =>
    rw [q] at hh
    have hh : decide (0 < combB sys pap) = false := hh
    have h1 := of_decide_eq_false hh
    rw [signOf_eq] at q
    refine h1 (i2 ?_)
    by_cases m : Sg.lt ∈ pap.map fun p => (rowAt sys p.1).sg
    · exact m
    · rw [if_neg m] at q
      split at q <;> cases q
end LP
set_option maxRecDepth 100000
/-! El3: limits of an unknown; what cleaning keeps. -/
namespace LP
open PySem L2
structure Lim where
  l : Option Rat
  li : Bool
  u : Option Rat
  ui : Bool
def tight (old : Option Rat) (oldIn : Bool) (limit : Rat) (inside : Bool) (side : Int) : Option Rat × Bool := match old with
  | none => (some limit, inside)
  | some o => if cmpQ limit o * side < 0 then (some limit, inside) else if cmpQ limit o * side = 0 then (some o, oldIn && inside) else (some o, oldIn)
theorem cmpQ_cases (a b : Rat) : (a < b ∧ cmpQ a b = -1) ∨ (a = b ∧ cmpQ a b = 0) ∨ (b < a ∧ cmpQ a b = 1) := by
  unfold cmpQ
  by_cases h : a < b
  · rw [if_pos h]; exact .inl ⟨h, rfl⟩
  · rw [if_neg h]
    by_cases g : b < a
    · rw [if_pos g]; exact .inr (.inr ⟨g, rfl⟩)
    · rw [if_neg g]; exact .inr (.inl ⟨Rat.le_antisymm (Rat.not_lt.mp g) (Rat.not_lt.mp h), rfl⟩)
theorem tight_up (old : Option Rat) (oi : Bool) (lim : Rat) (ins : Bool) (x : Rat) : below x (tight old oi lim ins 1).1 (tight old oi lim ins 1).2 = true ↔ below x old oi = true ∧ below x (some lim) ins = true := by
  cases old with
  | none => simp [tight, below]
  | some o =>
    unfold tight
    rcases cmpQ_cases lim o with ⟨h, e⟩ | ⟨h, e⟩ | ⟨h, e⟩
    · simp only [e]
      rw [if_pos (by decide)]
      simp only [below_iff]
      constructor
      · intro z
        refine ⟨.inl ?_, z⟩
        rcases z with z | ⟨z, _⟩ <;> grind
      · exact fun z => z.2
    · subst h
      simp only [e]
      rw [if_neg (by decide), if_pos (by decide)]
      simp only [below_iff, Bool.and_eq_true]
      constructor
      · rintro (z | ⟨z, a, b⟩)
        · exact ⟨.inl z, .inl z⟩
        · exact ⟨.inr ⟨z, a⟩, .inr ⟨z, b⟩⟩
      · rintro ⟨z | ⟨z, a⟩, w⟩
        · exact .inl z
        · rcases w with w | ⟨_, b⟩
          · exact .inl w
          · exact .inr ⟨z, a, b⟩
    · simp only [e]
      rw [if_neg (by decide), if_neg (by decide)]
      simp only [below_iff]
      constructor
      · intro z
        refine ⟨z, .inl ?_⟩
        rcases z with z | ⟨z, _⟩ <;> grind
      · exact fun z => z.1
theorem tight_lo (old : Option Rat) (oi : Bool) (lim : Rat) (ins : Bool) (x : Rat) : above x (tight old oi lim ins (-1)).1 (tight old oi lim ins (-1)).2 = true ↔ above x old oi = true ∧ above x (some lim) ins = true := by
  cases old with
  | none => simp [tight, above]
  | some o =>
    unfold tight
    rcases cmpQ_cases lim o with ⟨h, e⟩ | ⟨h, e⟩ | ⟨h, e⟩
    · simp only [e]
      rw [if_neg (by decide), if_neg (by decide)]
      simp only [above_iff]
      constructor
      · intro z
        refine ⟨z, .inl ?_⟩
        rcases z with z | ⟨z, _⟩ <;> grind
      · exact fun z => z.1
    · subst h
      simp only [e]
      rw [if_neg (by decide), if_pos (by decide)]
      simp only [above_iff, Bool.and_eq_true]
      constructor
      · rintro (z | ⟨z, a, b⟩)
        · exact ⟨.inl z, .inl z⟩
        · exact ⟨.inr ⟨z, a⟩, .inr ⟨z, b⟩⟩
      · rintro ⟨z | ⟨z, a⟩, w⟩
        · exact .inl z
        · rcases w with w | ⟨_, b⟩
          · exact .inl w
          · exact .inr ⟨z, a, b⟩
    · simp only [e]
      rw [if_pos (by decide)]
      simp only [above_iff]
      constructor
      · intro z
        refine ⟨.inl ?_, z⟩
        rcases z with z | ⟨z, _⟩ <;> grind
      · exact fun z => z.2
/-- the tighter bound is the old one or the limit, with one's own flag -/
theorem tight_one (old : Option Rat) (oi : Bool) (lim : Rat) (ins : Bool) (side : Int) (hs : side ≠ 0) : ∃ z, (tight old oi lim ins side).1 = some z ∧ ((z = lim ∧ (tight old oi lim ins side).2 = ins) ∨ (old = some z ∧ (tight old oi lim ins side).2 = oi)) := by
  cases old with
  | none => exact ⟨lim, rfl, .inl ⟨rfl, rfl⟩⟩
  | some o =>
    unfold tight
    by_cases h : cmpQ lim o * side < 0
    · simp only [if_pos h]
      exact ⟨lim, rfl, .inl (by simp)⟩
    · simp only [if_neg h]
      by_cases g : cmpQ lim o * side = 0
      · simp only [if_pos g]
        refine ⟨o, rfl, ?_⟩
        have : cmpQ lim o = 0 := (Int.mul_eq_zero.mp g).resolve_right hs
        have := (cmpQ_eq lim o).mp this
        subst this
        cases ins with
        | true => exact .inr ⟨rfl, by simp⟩
        | false => exact .inl ⟨rfl, by simp⟩
      · simp only [if_neg g]
        exact ⟨o, rfl, .inr (by simp)⟩
def rest (v : Val) (u : Str) (r : Row) : Rat := r.b - (ev v r.ps - coef r.ps u * v u)
def limit (v : Val) (u : Str) (r : Row) : Rat := rest v u r / coef r.ps u
def inside (r : Row) : Bool := decide (r.sg ≠ .lt)
def limU (v : Val) (u : Str) (r : Row) (s : Lim) : Lim := if r.sg = .eq ∨ 0 < coef r.ps u then { s with u := (tight s.u s.ui (limit v u r) (inside r) 1).1, ui := (tight s.u s.ui (limit v u r) (inside r) 1).2 } else s
def limL (v : Val) (u : Str) (r : Row) (s : Lim) : Lim := if r.sg = .eq ∨ coef r.ps u < 0 then { s with l := (tight s.l s.li (limit v u r) (inside r) (-1)).1, li := (tight s.l s.li (limit v u r) (inside r) (-1)).2 } else s
def limR (v : Val) (u : Str) (s : Lim) (r : Row) : Lim := if coef r.ps u = 0 then s else limL v u r (limU v u r s)
def lims (v : Val) (u : Str) (rows : List DRw) (s : Lim) : Lim := rows.foldl (fun s d => limR v u s d.1) s
def lim0 : Lim := ⟨none, true, none, true⟩
def LIn (x : Rat) (s : Lim) : Prop := above x s.l s.li = true ∧ below x s.u s.ui = true
theorem hold_lim {v : Val} {u : Str} {r : Row} {x : Rat} (h : coef r.ps u ≠ 0) : Hold (putV v u x) r ↔ (match r.sg with
    | .eq => x = limit v u r
    | .le => if 0 < coef r.ps u then x ≤ limit v u r else limit v u r ≤ x
    | .lt => if 0 < coef r.ps u then x < limit v u r else limit v u r < x) := by
  have e : ev (putV v u x) r.ps = (ev v r.ps - coef r.ps u * v u) + coef r.ps u * x := by rw [ev_put]; grind
  have el : coef r.ps u * limit v u r = rest v u r := by
    unfold limit
    rw [Rat.div_def]
    have : coef r.ps u * (coef r.ps u)⁻¹ = 1 := Rat.mul_inv_cancel _ h
    calc coef r.ps u * (rest v u r * (coef r.ps u)⁻¹) = rest v u r * (coef r.ps u * (coef r.ps u)⁻¹) := by grind
      _ = rest v u r := by rw [this]; grind
  unfold Hold
  rw [e]
  have er : r.b = (ev v r.ps - coef r.ps u * v u) + coef r.ps u * limit v u r := by
    rw [el]
    unfold rest
    grind
  rw [er]
  generalize (ev v r.ps - coef r.ps u * v u) = c
  generalize limit v u r = L
  generalize hk : coef r.ps u = k at *
  cases r.sg with
  | eq =>
    show c + k * x = c + k * L ↔ x = L
    rw [← mul_eq_iff h (a := x) (b := L)]
    constructor <;> intro z <;> grind
  | le =>
    show c + k * x ≤ c + k * L ↔ _
    by_cases hp : 0 < k
    · simp only [if_pos hp]
      rw [← mul_le_iff hp (a := x) (b := L)]
      constructor <;> intro z <;> grind
    · simp only [if_neg hp]
      have hn : 0 < -k := by grind
      rw [← mul_le_iff hn (a := L) (b := x)]
      constructor <;> intro z <;> grind
  | lt =>
    show c + k * x < c + k * L ↔ _
    by_cases hp : 0 < k
    · simp only [if_pos hp]
      rw [← mul_lt_iff hp (a := x) (b := L)]
      constructor <;> intro z <;> grind
    · simp only [if_neg hp]
      have hn : 0 < -k := by grind
      rw [← mul_lt_iff hn (a := L) (b := x)]
      constructor <;> intro z <;> grind
theorem limR_in (v : Val) (u : Str) (s : Lim) (r : Row) (x : Rat) : LIn x (limR v u s r) ↔ LIn x s ∧ (coef r.ps u ≠ 0 → Hold (putV v u x) r) := by
  unfold limR
  by_cases h : coef r.ps u = 0
  · rw [if_pos h]
    exact ⟨fun z => ⟨z, fun k => absurd h k⟩, fun z => z.1⟩
  · rw [if_neg h]
    have hh : (coef r.ps u ≠ 0 → Hold (putV v u x) r) ↔ Hold (putV v u x) r := ⟨fun z => z h, fun z _ => z⟩
    rw [hh, hold_lim h]
    unfold LIn limL limU
    cases hs : r.sg with
    | eq =>
      have hi : inside r = true := by unfold inside; rw [hs]; rfl
      simp only [true_or, if_true, hi]
      rw [tight_up, tight_lo, above_iff, below_iff]
      constructor
      · rintro ⟨⟨a, b⟩, c, d⟩
        refine ⟨⟨a, c⟩, ?_⟩
        rcases b with b | ⟨b, _⟩
        · rcases d with d | ⟨d, _⟩
          · grind
          · exact d
        · exact b
      · rintro ⟨⟨a, c⟩, e⟩
        exact ⟨⟨a, .inr ⟨e, rfl⟩⟩, c, .inr ⟨e, rfl⟩⟩
    | le =>
      have hi : inside r = true := by unfold inside; rw [hs]; rfl
      by_cases hp : 0 < coef r.ps u
      · have hn : ¬ coef r.ps u < 0 := by grind
        simp only [hp, hn, hi, or_true, or_false, if_true, if_false, reduceCtorEq, false_or]
        rw [tight_up, below_iff]
        constructor
        · rintro ⟨a, b, c⟩
          refine ⟨⟨a, b⟩, ?_⟩
          rcases c with c | ⟨c, _⟩ <;> grind
        · rintro ⟨⟨a, b⟩, c⟩
          refine ⟨a, b, ?_⟩
          rcases Rat.le_iff_lt_or_eq.mp c with z | z
          · exact .inl z
          · exact .inr ⟨z, rfl⟩
      · have hn : coef r.ps u < 0 := by grind
        simp only [hp, hn, hi, or_true, or_false, if_true, if_false, reduceCtorEq, false_or]
        rw [tight_lo, above_iff]
        constructor
        · rintro ⟨⟨a, c⟩, b⟩
          refine ⟨⟨a, b⟩, ?_⟩
          rcases c with c | ⟨c, _⟩ <;> grind
        · rintro ⟨⟨a, b⟩, c⟩
          refine ⟨⟨a, ?_⟩, b⟩
          rcases Rat.le_iff_lt_or_eq.mp c with z | z
          · exact .inl z
          · exact .inr ⟨z.symm, rfl⟩
    | lt =>
      have hi : inside r = false := by unfold inside; rw [hs]; rfl
      by_cases hp : 0 < coef r.ps u
      · have hn : ¬ coef r.ps u < 0 := by grind
        simp only [hp, hn, hi, or_true, or_false, if_true, if_false, reduceCtorEq, false_or]
        rw [tight_up, below_iff]
        constructor
        · rintro ⟨a, b, c⟩
          refine ⟨⟨a, b⟩, ?_⟩
          rcases c with c | ⟨_, c⟩
          · exact c
          · cases c
        · rintro ⟨⟨a, b⟩, c⟩
          exact ⟨a, b, .inl c⟩
      · have hn : coef r.ps u < 0 := by grind
        simp only [hp, hn, hi, or_true, or_false, if_true, if_false, reduceCtorEq, false_or]
        rw [tight_lo, above_iff]
        constructor
        · rintro ⟨⟨a, c⟩, b⟩
          refine ⟨⟨a, b⟩, ?_⟩
          rcases c with c | ⟨_, c⟩
          · exact c
          · cases c
        · rintro ⟨⟨a, b⟩, c⟩
          exact ⟨⟨a, .inl c⟩, b⟩
theorem lims_in (v : Val) (u : Str) (x : Rat) : ∀ (rows : List DRw) (s : Lim), LIn x (lims v u rows s) ↔ LIn x s ∧ ∀ d ∈ rows, coef d.1.ps u ≠ 0 → Hold (putV v u x) d.1
  | [], s => ⟨fun h => ⟨h, fun _ h => by cases h⟩, fun h => h.1⟩
  | d :: rows, s => by
    show LIn x (lims v u rows (limR v u s d.1)) ↔ _
    rw [lims_in v u x rows, limR_in]
    constructor
    · rintro ⟨⟨a, b⟩, c⟩
      refine ⟨a, fun e he => ?_⟩
      rcases List.mem_cons.mp he with rfl | he
      · exact b
      · exact c e he
    · rintro ⟨a, b⟩
      exact ⟨⟨a, b d (List.mem_cons_self ..)⟩, fun e he => b e (List.mem_cons_of_mem _ he)⟩
theorem LIn.gap {x : Rat} {s : Lim} (h : LIn x s) : gapOk s.l s.li s.u s.ui = true := by
  obtain ⟨l, li, u, ui⟩ := s
  obtain ⟨h1, h2⟩ := h
  cases l with
  | none => rfl
  | some l =>
    cases u with
    | none => rfl
    | some u =>
      rw [gap_iff]
      rcases above_iff.mp h1 with a | ⟨a, b⟩
      · rcases below_iff.mp h2 with c | ⟨c, d⟩
        · left; grind
        · left; rw [c] at a; exact a
      · rcases below_iff.mp h2 with c | ⟨c, d⟩
        · left; rw [a] at c; exact c
        · right; exact ⟨a.symm.trans c, b, d⟩
/-- where a bound comes from -/
def From (v : Val) (u : Str) (rows : List DRw) (s : Lim) : Prop :=
  (∀ z, s.l = some z → ∃ d ∈ rows, coef d.1.ps u ≠ 0 ∧ (d.1.sg = .eq ∨ coef d.1.ps u < 0) ∧ limit v u d.1 = z ∧ s.li = inside d.1) ∧
  (∀ z, s.u = some z → ∃ d ∈ rows, coef d.1.ps u ≠ 0 ∧ (d.1.sg = .eq ∨ 0 < coef d.1.ps u) ∧ limit v u d.1 = z ∧ s.ui = inside d.1)
end LP
set_option maxRecDepth 100000
/-! El4: elimination loses no point; cleaning loses no row. -/
namespace LP
open PySem L2
theorem From.mono {v : Val} {u : Str} {a b : List DRw} {s : Lim} (h : From v u a s) (m : ∀ d ∈ a, d ∈ b) : From v u b s :=
  ⟨fun z hz => let ⟨d, h1, h2⟩ := h.1 z hz; ⟨d, m d h1, h2⟩, fun z hz => let ⟨d, h1, h2⟩ := h.2 z hz; ⟨d, m d h1, h2⟩⟩
theorem limR_from {v : Val} {u : Str} {rows : List DRw} {s : Lim} {d : DRw} (h : From v u rows s) (hd : d ∈ rows) : From v u rows (limR v u s d.1) := by
  unfold limR
  by_cases hc : coef d.1.ps u = 0
  · rw [if_pos hc]; exact h
  · rw [if_neg hc]
    have hU : From v u rows (limU v u d.1 s) := by
      unfold limU
      by_cases hp : d.1.sg = .eq ∨ 0 < coef d.1.ps u
      · rw [if_pos hp]
        refine ⟨h.1, fun z hz => ?_⟩
        obtain ⟨z', e1, e2⟩ := tight_one s.u s.ui (limit v u d.1) (inside d.1) 1 (by decide)
        have hz : (tight s.u s.ui (limit v u d.1) (inside d.1) 1).1 = some z := hz
        rw [e1] at hz
        cases hz
        rcases e2 with ⟨e2, e3⟩ | ⟨e2, e3⟩
        · exact ⟨d, hd, hc, hp, e2.symm, e3⟩
        · obtain ⟨d', g1, g2, g3, g4, g5⟩ := h.2 z e2
          exact ⟨d', g1, g2, g3, g4, e3.trans g5⟩
      · rw [if_neg hp]; exact h
    unfold limL
    by_cases hp : d.1.sg = .eq ∨ coef d.1.ps u < 0
    · rw [if_pos hp]
      refine ⟨fun z hz => ?_, hU.2⟩
      obtain ⟨z', e1, e2⟩ := tight_one (limU v u d.1 s).l (limU v u d.1 s).li (limit v u d.1) (inside d.1) (-1) (by decide)
      have hz : (tight (limU v u d.1 s).l (limU v u d.1 s).li (limit v u d.1) (inside d.1) (-1)).1 = some z := hz
      rw [e1] at hz
      cases hz
      rcases e2 with ⟨e2, e3⟩ | ⟨e2, e3⟩
      · exact ⟨d, hd, hc, hp, e2.symm, e3⟩
      · obtain ⟨d', g1, g2, g3, g4, g5⟩ := hU.1 z e2
        exact ⟨d', g1, g2, g3, g4, e3.trans g5⟩
    · rw [if_neg hp]; exact hU
theorem lims_from {v : Val} {u : Str} {rows : List DRw} : ∀ (part : List DRw) (s : Lim), (∀ d ∈ part, d ∈ rows) → From v u rows s → From v u rows (lims v u part s)
  | [], s, _, h => h
  | d :: part, s, m, h => lims_from part _ (fun e he => m e (List.mem_cons_of_mem _ he)) (limR_from h (m d (List.mem_cons_self ..)))
theorem from0 {v : Val} {u : Str} {rows : List DRw} : From v u rows lim0 := ⟨(fun z h => by cases h), (fun z h => by cases h)⟩
/-- what an elimination must keep -/
def Keepp (u : Str) (rows rows' : List DRw) : Prop := ∀ v, Sat v rows' → gapOk (lims v u rows lim0).l (lims v u rows lim0).li (lims v u rows lim0).u (lims v u rows lim0).ui = true ∧ ∀ d ∈ rows, coef d.1.ps u = 0 → Hold v d.1
theorem Keepp.point {u : Str} {rows rows' : List DRw} (k : Keepp u rows rows') {v : Val} (h : Sat v rows') {x : Rat} (hx : LIn x (lims v u rows lim0)) : Sat (putV v u x) rows := fun d hd => by
  by_cases hc : coef d.1.ps u = 0
  · exact (hold_put hc).mpr ((k v h).2 d hd hc)
  · exact ((lims_in v u x rows lim0).mp hx).2 d hd hc
/-- by pairs -/
theorem keep_pairs {u : Str} {rows rows' : List DRw} (hne : ∀ d ∈ rows, coef d.1.ps u ≠ 0 → d.1.sg ≠ .eq) (hz : ∀ d ∈ rows, coef d.1.ps u = 0 → d ∈ rows')
    (hp : ∀ a ∈ rows, ∀ b ∈ rows, 0 < coef a.1.ps u → coef b.1.ps u < 0 → ∃ r ∈ rows', r.1 = norm (total a.1 (1 / coef a.1.ps u) b.1 (-1 / coef b.1.ps u))) : Keepp u rows rows' := by
  intro v hv
  refine ⟨?_, fun d hd hc => hv d (hz d hd hc)⟩
  have fr : From v u rows (lims v u rows lim0) := lims_from rows lim0 (fun _ h => h) from0
  generalize lims v u rows lim0 = s at *
  obtain ⟨l, li, up, ui⟩ := s
  cases l with
  | none => rfl
  | some l =>
    cases up with
    | none => rfl
    | some up =>
      obtain ⟨b, hb, b1, b2, b3, b4⟩ := fr.1 l rfl
      obtain ⟨a, ha, a1, a2, a3, a4⟩ := fr.2 up rfl
      have a2 := a2.resolve_left (hne a ha a1)
      have b2 := b2.resolve_left (hne b hb b1)
      have a4 : ui = inside a.1 := a4
      have b4 : li = inside b.1 := b4
      obtain ⟨r, hr, e⟩ := hp a ha b hb a2 b2
      have hh := hv r hr
      rw [e, hold_norm (total_canon _ _ _ _).nz] at hh
      -- the sum at v
      have e1 : (1 / coef a.1.ps u) * coef a.1.ps u = 1 := by rw [Rat.div_def, Rat.one_mul]; exact Rat.inv_mul_cancel _ a1
      have e2 : (-1 / coef b.1.ps u) * coef b.1.ps u = -1 := by
        rw [Rat.div_def, Rat.mul_assoc, Rat.inv_mul_cancel _ b1]; grind
      have la : up = (1 / coef a.1.ps u) * rest v u a.1 := by rw [← a3]; unfold limit; rw [Rat.div_def, Rat.div_def]; grind
      have lb : l = - ((-1 / coef b.1.ps u) * rest v u b.1) := by rw [← b3]; unfold limit; rw [Rat.div_def, Rat.div_def]; grind
      have sum : (1 / coef a.1.ps u) * a.1.b + (-1 / coef b.1.ps u) * b.1.b - ((1 / coef a.1.ps u) * ev v a.1.ps + (-1 / coef b.1.ps u) * ev v b.1.ps) = up - l := by
        rw [la, lb]
        unfold rest
        have k1 : (1 / coef a.1.ps u) * (coef a.1.ps u * v u) = v u := by rw [← Rat.mul_assoc, e1]; grind
        have k2 : (-1 / coef b.1.ps u) * (coef b.1.ps u * v u) = - v u := by rw [← Rat.mul_assoc, e2]; grind
        grind
      have he : ev v (total a.1 (1 / coef a.1.ps u) b.1 (-1 / coef b.1.ps u)).ps = (1 / coef a.1.ps u) * ev v a.1.ps + (-1 / coef b.1.ps u) * ev v b.1.ps := total_ev _ _ _ _ _
      have hb' : (total a.1 (1 / coef a.1.ps u) b.1 (-1 / coef b.1.ps u)).b = (1 / coef a.1.ps u) * a.1.b + (-1 / coef b.1.ps u) * b.1.b := rfl
      have hs : (total a.1 (1 / coef a.1.ps u) b.1 (-1 / coef b.1.ps u)).sg = signOf [a.1.sg, b.1.sg] := rfl
      have hle : ev v (total a.1 (1 / coef a.1.ps u) b.1 (-1 / coef b.1.ps u)).ps ≤ (total a.1 (1 / coef a.1.ps u) b.1 (-1 / coef b.1.ps u)).b := by
        unfold Hold at hh
        split at hh
        · rw [hh]; exact Rat.le_refl
        · exact hh
        · exact Rat.le_of_lt hh
      rw [he, hb'] at hle
      rw [gap_iff]
      by_cases h : l < up
      · exact .inl h
      · right
        have hlu : l = up := by grind
        refine ⟨hlu, ?_, ?_⟩
        · rw [b4]
          unfold inside
          refine decide_eq_true fun z => ?_
          have : (total a.1 (1 / coef a.1.ps u) b.1 (-1 / coef b.1.ps u)).sg = .lt := by
            rw [hs, signOf_eq, if_pos (by simp [z])]
          unfold Hold at hh
          rw [this] at hh
          have hh : ev v (total a.1 (1 / coef a.1.ps u) b.1 (-1 / coef b.1.ps u)).ps < (total a.1 (1 / coef a.1.ps u) b.1 (-1 / coef b.1.ps u)).b := hh
          rw [he, hb'] at hh
          grind
        · rw [a4]
          unfold inside
          refine decide_eq_true fun z => ?_
          have : (total a.1 (1 / coef a.1.ps u) b.1 (-1 / coef b.1.ps u)).sg = .lt := by
            rw [hs, signOf_eq, if_pos (by simp [z])]
          unfold Hold at hh
          rw [this] at hh
          have hh : ev v (total a.1 (1 / coef a.1.ps u) b.1 (-1 / coef b.1.ps u)).ps < (total a.1 (1 / coef a.1.ps u) b.1 (-1 / coef b.1.ps u)).b := hh
          rw [he, hb'] at hh
          grind
/-- by an equation -/
theorem keep_eq {u : Str} {rows rows' : List DRw} {e : DRw} (he : e ∈ rows) (hs : e.1.sg = .eq) (hc : coef e.1.ps u ≠ 0)
    (h : ∀ d ∈ rows, d = e ∨ (coef d.1.ps u = 0 ∧ d ∈ rows') ∨ (coef d.1.ps u ≠ 0 ∧ ∃ r ∈ rows', r.1 = norm (total d.1 1 e.1 (-(coef d.1.ps u / coef e.1.ps u))))) : Keepp u rows rows' := by
  intro v hv
  have main : Sat (putV v u (limit v u e.1)) rows := fun d hd => by
    have heq : Hold (putV v u (limit v u e.1)) e.1 := by rw [hold_lim hc, hs]
    rcases h d hd with rfl | ⟨h1, h2⟩ | ⟨h1, r, h2, h3⟩
    · exact heq
    · exact (hold_put h1).mpr (hv d h2)
    · have hh := hv r h2
      rw [h3, hold_norm (total_canon _ _ _ _).nz] at hh
      -- the total has no u
      have c0 : coef (total d.1 1 e.1 (-(coef d.1.ps u / coef e.1.ps u))).ps u = 0 := by
        rw [total_coef, Rat.div_def]
        have : (coef e.1.ps u)⁻¹ * coef e.1.ps u = 1 := Rat.inv_mul_cancel _ hc
        have h4 : -(coef d.1.ps u * (coef e.1.ps u)⁻¹) * coef e.1.ps u = - (coef d.1.ps u * ((coef e.1.ps u)⁻¹ * coef e.1.ps u)) := by grind
        rw [h4, this]; grind
      have hh2 := (hold_put (x := limit v u e.1) c0).mpr hh
      have ee : ev (putV v u (limit v u e.1)) e.1.ps = e.1.b := by
        unfold Hold at heq
        rw [hs] at heq
        exact heq
      have et := total_ev (putV v u (limit v u e.1)) d.1 1 e.1 (-(coef d.1.ps u / coef e.1.ps u))
      have bt : (total d.1 1 e.1 (-(coef d.1.ps u / coef e.1.ps u))).b = 1 * d.1.b + (-(coef d.1.ps u / coef e.1.ps u)) * e.1.b := rfl
      have st : (total d.1 1 e.1 (-(coef d.1.ps u / coef e.1.ps u))).sg = d.1.sg := by
        show signOf [d.1.sg, e.1.sg] = _
        rw [hs]
        cases d.1.sg <;> simp [signOf]
      unfold Hold at hh2 ⊢
      rw [st, et, bt, ee] at hh2
      generalize (-(coef d.1.ps u / coef e.1.ps u)) = k at *
      cases hq : d.1.sg with
      | eq => rw [hq] at hh2; have hh2 : 1 * ev _ d.1.ps + k * e.1.b = 1 * d.1.b + k * e.1.b := hh2; show ev _ _ = _; grind
      | le => rw [hq] at hh2; have hh2 : 1 * ev _ d.1.ps + k * e.1.b ≤ 1 * d.1.b + k * e.1.b := hh2; show ev _ _ ≤ _; grind
      | lt => rw [hq] at hh2; have hh2 : 1 * ev _ d.1.ps + k * e.1.b < 1 * d.1.b + k * e.1.b := hh2; show ev _ _ < _; grind
  refine ⟨?_, fun d hd hc0 => (hold_put hc0).mp (main d hd)⟩
  refine LIn.gap (x := limit v u e.1) ((lims_in v u _ rows lim0).mpr ⟨⟨rfl, rfl⟩, fun d hd _ => main d hd⟩)
/-! ### cleaning -/
theorem row_eq (a b : Row) : (a.ps = b.ps ∧ a.sg = b.sg ∧ a.b = b.b) ↔ a = b := by
  cases a; cases b
  simp
instance : DecidableEq Row := fun a b => decidable_of_iff _ (row_eq a b)
def weaker (r o : Row) : Bool := decide (o.b < r.b) || (decide (o.b = r.b) && (decide (o.sg = .lt) && decide (r.sg = .le)))
def rAt (rows : List DRw) (i : Nat) : Row := (rows.getD i (⟨[], .le, 0⟩, [])).1
/-- row k drives row i out -/
def beats (rows : List DRw) (k i : Nat) : Bool :=
  if (rAt rows i).sg = .eq then decide (k < i) && decide (rAt rows k = rAt rows i)
  else decide ((rAt rows k).ps = (rAt rows i).ps) && (decide ((rAt rows k).sg ≠ .eq) && (weaker (rAt rows i) (rAt rows k) || (decide (k < i) && decide (rAt rows k = rAt rows i))))
def stays (rows : List DRw) (i : Nat) : Bool := !(decide ((rAt rows i).ps = []) && holds0 (rAt rows i)) && (List.range rows.length).all fun k => !beats rows k i
def cleanR (rows : List DRw) : List DRw := ((List.range rows.length).filter (stays rows)).map fun k => rows.getD k (⟨[], .le, 0⟩, [])
theorem beats_hold {rows : List DRw} {k i : Nat} (h : beats rows k i = true) {v : Val} (hk : Hold v (rAt rows k)) : Hold v (rAt rows i) := by
  unfold beats at h
  by_cases hs : (rAt rows i).sg = .eq
  · rw [if_pos hs, Bool.and_eq_true, decide_eq_true_eq, decide_eq_true_eq] at h
    rw [← h.2]; exact hk
  · rw [if_neg hs, Bool.and_eq_true, Bool.and_eq_true, Bool.or_eq_true, Bool.and_eq_true, decide_eq_true_eq, decide_eq_true_eq, decide_eq_true_eq, decide_eq_true_eq] at h
    obtain ⟨h1, h2, h3⟩ := h
    rcases h3 with h3 | ⟨_, h3⟩
    · unfold weaker at h3
      rw [Bool.or_eq_true, Bool.and_eq_true, Bool.and_eq_true, decide_eq_true_eq, decide_eq_true_eq, decide_eq_true_eq, decide_eq_true_eq] at h3
      have hle : ev v (rAt rows k).ps ≤ (rAt rows k).b := by
        unfold Hold at hk
        split at hk
        · rw [hk]; exact Rat.le_refl
        · exact hk
        · exact Rat.le_of_lt hk
      rw [h1] at hle
      unfold Hold
      rcases h3 with h3 | ⟨h3, h4, h5⟩
      · cases q : (rAt rows i).sg with
        | eq => exact absurd q hs
        | le => show ev v _ ≤ _; grind
        | lt => show ev v _ < _; grind
      · rw [h5]
        show ev v _ ≤ _
        rw [← h3]; exact hle
    · rw [← h3]; exact hk
theorem beats_irr {rows : List DRw} {i : Nat} : beats rows i i = false := by
  unfold beats weaker
  by_cases hs : (rAt rows i).sg = .eq
  · rw [if_pos hs]; simp
  · rw [if_neg hs]
    have : ¬ (rAt rows i).b < (rAt rows i).b := Rat.lt_irrefl
    cases q : (rAt rows i).sg <;> simp [q, this] at hs ⊢
theorem beats_trans {rows : List DRw} {a b c : Nat} (h : beats rows a b = true) (g : beats rows b c = true) : beats rows a c = true := by
  unfold beats at *
  by_cases hc : (rAt rows c).sg = .eq
  · rw [if_pos hc, Bool.and_eq_true, decide_eq_true_eq, decide_eq_true_eq] at g
    rw [if_pos hc, Bool.and_eq_true, decide_eq_true_eq, decide_eq_true_eq]
    rw [if_pos (by rw [g.2]; exact hc), Bool.and_eq_true, decide_eq_true_eq, decide_eq_true_eq] at h
    exact ⟨by omega, h.2.trans g.2⟩
  · rw [if_neg hc, Bool.and_eq_true, Bool.and_eq_true, Bool.or_eq_true, Bool.and_eq_true, decide_eq_true_eq, decide_eq_true_eq, decide_eq_true_eq, decide_eq_true_eq] at g
    rw [if_neg hc, Bool.and_eq_true, Bool.and_eq_true, Bool.or_eq_true, Bool.and_eq_true, decide_eq_true_eq, decide_eq_true_eq, decide_eq_true_eq, decide_eq_true_eq]
    obtain ⟨g1, g2, g3⟩ := g
    rw [if_neg g2, Bool.and_eq_true, Bool.and_eq_true, Bool.or_eq_true, Bool.and_eq_true, decide_eq_true_eq, decide_eq_true_eq, decide_eq_true_eq, decide_eq_true_eq] at h
    obtain ⟨h1, h2, h3⟩ := h
    refine ⟨h1.trans g1, h2, ?_⟩
    unfold weaker at *
    simp only [Bool.or_eq_true, Bool.and_eq_true, decide_eq_true_eq] at *
    rcases h3 with h3 | ⟨h3, h4⟩
    · rcases g3 with g3 | ⟨g3, g4⟩
      · left
        rcases h3 with h3 | ⟨h3, h5, h6⟩
        · rcases g3 with g3 | ⟨g3, _, _⟩
          · left; grind
          · left; rw [← g3]; exact h3
        · rcases g3 with g3 | ⟨g3, g5, _⟩
          · left; rw [h3]; exact g3
          · rw [g5] at h6; cases h6
      · left
        rw [← g4]; exact h3
    · rw [h4]
      rcases g3 with g3 | ⟨g3, g4⟩
      · exact .inl g3
      · exact .inr ⟨by omega, g4⟩
theorem filter_lt {α : Type} {p q : α → Bool} : ∀ {l : List α}, (∀ x ∈ l, p x = true → q x = true) → (∃ x ∈ l, q x = true ∧ p x = false) → (l.filter p).length < (l.filter q).length
  | [], _, ⟨x, hx, _⟩ => by cases hx
  | a :: l, h, ⟨x, hx, h1, h2⟩ => by
    have mono : (l.filter p).length ≤ (l.filter q).length := by
      clear hx
      have h' : ∀ x ∈ l, p x = true → q x = true := fun y hy => h y (List.mem_cons_of_mem _ hy)
      clear h
      induction l with
      | nil => simp
      | cons b l ih =>
        have := ih fun y hy => h' y (List.mem_cons_of_mem _ hy)
        rw [List.filter_cons, List.filter_cons]
        cases hp : p b with
        | true => rw [h' b (List.mem_cons_self ..) hp]; simp; exact this
        | false => cases q b <;> simp <;> omega
    rw [List.filter_cons, List.filter_cons]
    rcases List.mem_cons.mp hx with rfl | hx
    · rw [h1, h2]; simp; omega
    · have := filter_lt (l := l) (fun y hy => h y (List.mem_cons_of_mem _ hy)) ⟨x, hx, h1, h2⟩
      cases hp : p a with
      | true => rw [h a (List.mem_cons_self ..) hp]; simp; exact this
      | false => cases q a <;> simp <;> omega
theorem hold_of0 {v : Val} {r : Row} (h : r.ps = []) (g : holds0 r = true) : Hold v r := by
  unfold holds0 at g
  unfold Hold
  rw [h]
  cases q : r.sg with
  | eq => rw [q] at g; exact of_decide_eq_true g
  | le =>
    rw [q] at g
    have g : (decide (0 < r.b) || decide ((0 : Rat) = r.b)) = true := g
    rw [Bool.or_eq_true, decide_eq_true_eq, decide_eq_true_eq] at g
    show (0 : Rat) ≤ r.b
    rcases g with g | g
    · exact Rat.le_of_lt g
    · rw [← g]; exact Rat.le_refl
  | lt => rw [q] at g; exact of_decide_eq_true g
/-- what stays implies all -/
theorem clean_sat {rows : List DRw} {v : Val} (h : Sat v (cleanR rows)) : Sat v rows := by
  have main : ∀ (m i : Nat), ((List.range rows.length).filter fun k => beats rows k i).length ≤ m → i < rows.length → Hold v (rAt rows i) := by
    intro m
    induction m with
    | zero =>
      intro i hm hi
      by_cases h0 : (rAt rows i).ps = [] ∧ holds0 (rAt rows i) = true
      · exact hold_of0 h0.1 h0.2
      · have hs : stays rows i = true := by
          unfold stays
          rw [Bool.and_eq_true]
          refine ⟨?_, ?_⟩
          · rw [Bool.not_eq_true', Bool.and_eq_false_iff]
            by_cases x : (rAt rows i).ps = []
            · right
              cases q : holds0 (rAt rows i) with
              | false => rfl
              | true => exact absurd ⟨x, q⟩ h0
            · left; exact decide_eq_false x
          · rw [List.all_eq_true]
            intro k hk
            cases q : beats rows k i with
            | false => rfl
            | true =>
              have : k ∈ (List.range rows.length).filter fun k => beats rows k i := List.mem_filter.mpr ⟨hk, q⟩
              have := List.length_pos_of_mem this
              omega
        exact h _ (List.mem_map.mpr ⟨i, List.mem_filter.mpr ⟨List.mem_range.mpr hi, hs⟩, rfl⟩)
    | succ m ih =>
      intro i hm hi
      by_cases h0 : (rAt rows i).ps = [] ∧ holds0 (rAt rows i) = true
      · exact hold_of0 h0.1 h0.2
      · by_cases hb : ∃ k, k < rows.length ∧ beats rows k i = true
        · obtain ⟨k, hk, hb⟩ := hb
          refine beats_hold hb (ih k ?_ hk)
          have := filter_lt (l := List.range rows.length) (p := fun j => beats rows j k) (q := fun j => beats rows j i) (fun x _ hx => beats_trans hx hb) ⟨k, List.mem_range.mpr hk, hb, beats_irr⟩
          omega
        · refine ih i ?_ hi
          have : ((List.range rows.length).filter fun k => beats rows k i) = [] := by
            rw [List.filter_eq_nil_iff]
            intro k hk hb'
            exact hb ⟨k, List.mem_range.mp hk, hb'⟩
          rw [this]; simp
  intro d hd
  obtain ⟨i, hi, e⟩ := List.getElem_of_mem hd
  have := main _ i (Nat.le_refl _) hi
  unfold rAt at this
  rw [List.getD_eq_getElem?_getD, List.getElem?_eq_getElem hi, e] at this
  exact this
theorem clean_sub {rows : List DRw} {d : DRw} (h : d ∈ cleanR rows) : d ∈ rows ∧ ¬ (d.1.ps = [] ∧ holds0 d.1 = true) := by
  obtain ⟨k, hk, rfl⟩ := List.mem_map.mp h
  obtain ⟨h1, h2⟩ := List.mem_filter.mp hk
  have hl := List.mem_range.mp h1
  have e : rows.getD k (⟨[], .le, 0⟩, []) = rows[k] := by rw [List.getD_eq_getElem?_getD, List.getElem?_eq_getElem hl]; rfl
  rw [e]
  refine ⟨List.getElem_mem hl, fun z => ?_⟩
  unfold stays rAt at h2
  rw [e, Bool.and_eq_true, Bool.not_eq_true', Bool.and_eq_false_iff] at h2
  rcases h2.1 with w | w
  · exact of_decide_eq_false w z.1
  · rw [z.2] at w; cases w
theorem clean_len (rows : List DRw) : (cleanR rows).length ≤ rows.length := by
  unfold cleanR
  rw [List.length_map]
  have := List.length_filter_le (stays rows) (List.range rows.length)
  rw [List.length_range] at this
  exact this
end LP
set_option maxRecDepth 100000
/-! El5: sizes of combined rows. -/
namespace LP
open PySem L2
structure LvOk (c bn bd mn md : Nat) (us : List Str) (d : DRw) : Prop where
  ne : d.1.ps ≠ []
  cn : Canon d.1.ps
  s : SzL c 1 d.1.ps
  nm : ∀ p ∈ d.1.ps, p.1 ∈ us
  b : Sz bn bd d.1.b
  m : SzL mn md d.2
  l : d.2.length ≤ 8
theorem LvOk.mono {c bn bd mn md c' bn' bd' mn' md' : Nat} {us us' : List Str} {d : DRw} (h : LvOk c bn bd mn md us d) (h1 : c ≤ c') (h2 : bn ≤ bn') (h3 : bd ≤ bd') (h4 : mn ≤ mn') (h5 : md ≤ md') (hu : ∀ p ∈ d.1.ps, p.1 ∈ us') : LvOk c' bn' bd' mn' md' us' d :=
  ⟨h.ne, h.cn, h.s.mono h1 (Nat.le_refl _), hu, h.b.mono h2 h3, h.m.mono h4 h5, h.l⟩
theorem names_len {ps : Pts} {us : List Str} (c : Canon ps) (h : ∀ p ∈ ps, p.1 ∈ us) : ps.length ≤ us.length := by
  have := List.Nodup.length_le_of_subset c.nd (l₂ := us) fun u hu => by
    obtain ⟨p, hp, rfl⟩ := List.mem_map.mp hu
    exact h p hp
  simpa using this
/-- the parts of a total -/
theorem total_sz {a b : Row} {one other : Rat} {c : Nat} (c1 : 1 ≤ c) (ha : Canon a.ps) (hb : Canon b.ps) (sa : SzL c 1 a.ps) (sb : SzL c 1 b.ps) (s1 : Sz c c one) (s2 : Sz c c other) : SzL (3 * c + 2) (2 * c + 2) (total a one b other).ps := by
  have sl : SzL (c + c) (c + 1) ((a.ps.map fun p => (p.1, one * p.2)) ++ (b.ps.map fun p => (p.1, other * p.2))) := SzL.app (sa.map s1) (sb.map s2)
  have := (total_canon a one b other).sz (qs := (a.ps.map fun p => (p.1, one * p.2)) ++ (b.ps.map fun p => (p.1, other * p.2))) (gath_coef _) (n := c + c) (d := c + 1) (m := 2) (by omega) (by omega) (by decide) sl fun u => by
    rw [cnt_app, cnt_map, cnt_map]
    have := cnt_nd (u := u) ha.nd
    have := cnt_nd (u := u) hb.nd
    omega
  exact this.mono (by omega) (by omega)
theorem total_names {a b : Row} {one other : Rat} {us : List Str} (ha : ∀ p ∈ a.ps, p.1 ∈ us) (hb : ∀ p ∈ b.ps, p.1 ∈ us) : ∀ p ∈ (total a one b other).ps, p.1 ∈ us := fun p hp => by
  have := (total_canon a one b other).names (qs := (a.ps.map fun p => (p.1, one * p.2)) ++ (b.ps.map fun p => (p.1, other * p.2))) (gath_coef _) hp
  rw [List.map_append, List.map_map, List.map_map, List.mem_append] at this
  rcases this with h | h
  · obtain ⟨q, hq, e⟩ := List.mem_map.mp h
    rw [← e]; exact ha q hq
  · obtain ⟨q, hq, e⟩ := List.mem_map.mp h
    rw [← e]; exact hb q hq
theorem total_b {a b : Row} {one other : Rat} {c bn bd : Nat} (s1 : Sz c c one) (s2 : Sz c c other) (ba : Sz bn bd a.b) (bb : Sz bn bd b.b) : Sz (c + bn + (c + bd) + 1) (c + bd + (c + bd)) (total a one b other).b := by
  show Sz _ _ (one * a.b + other * b.b)
  exact ((s1.mul ba).add (s2.mul bb)).mono (by omega) (by omega)
/-- the factor of a row with parts -/
theorem fac_szP {r : Row} {n d : Nat} (s : SzL n d r.ps) (z : ∀ p ∈ r.ps, p.2 ≠ 0) (ne : r.ps ≠ []) : Sz (r.ps.length * d + 2) (n + (r.ps.length - 1) * d + 1) (fac r) := by
  obtain ⟨ps, sg, b⟩ := r
  cases ps with
  | nil => exact absurd rfl ne
  | cons p ps =>
    show Sz _ _ (turn sg p.2 (size (p :: ps)))
    refine turn_sz ?_
    have hp : p ∈ p :: ps := List.mem_cons_self ..
    have h1 : Bt ((p :: ps).length * d + 1) (lcms (p :: ps) 1) := lcms_bt s
    have h2 : Bt (n + ((p :: ps).length - 1) * d) (tops (lcms (p :: ps) 1) (p :: ps) 0) := tops_bt s hp (z p hp)
    have h3 := (Sz_nat h1).div (Sz_nat h2) (by have := tops_ne hp (z p hp) 0; exact_mod_cast this)
    exact h3.mono (by show _ ≤ (p :: ps).length * d + 2; omega) (by show _ ≤ n + ((p :: ps).length - 1) * d + 1; omega)
/-- the parts of a normal row are whole -/
theorem norm_whole {r : Row} {n d : Nat} (s : SzL n d r.ps) (z : ∀ p ∈ r.ps, p.2 ≠ 0) : SzL (n + (r.ps.length - 1) * d) 1 (norm r).ps := by
  intro q hq
  obtain ⟨p, hp, rfl⟩ := List.mem_map.mp hq
  obtain ⟨w, hw, hb⟩ := whole_val hp (z p hp)
  have tp : Bt (n + (r.ps.length - 1) * d) (p.2.num.natAbs * (lcms r.ps 1 / p.2.den)) := top_part s hp
  have key : ∃ w' : Int, fac r * p.2 = (w' : Rat) ∧ w'.natAbs = w.natAbs := by
    unfold fac
    split
    · rename_i e
      rw [e] at hp; cases hp
    · rename_i p0 ps0 e
      have hs : size (p0 :: ps0) * p.2 = (w : Rat) := by
        unfold size
        rw [← e]; exact hw
      unfold turn
      split
      · refine ⟨-w, ?_, by rw [Int.natAbs_neg]⟩
        rw [Rat.intCast_neg, ← hs]; grind
      · exact ⟨w, hs, rfl⟩
  obtain ⟨w', e1, e2⟩ := key
  show Sz _ _ (fac r * p.2)
  rw [e1]
  refine ⟨?_, by rw [Rat.den_intCast]; show Bt 1 1; simp [Bt]⟩
  rw [Rat.num_intCast, e2]
  exact tp.le hb
theorem asc_len {l : List Nat} {n : Nat} (h : l.Pairwise (· < ·)) (hl : ∀ i ∈ l, i < n) : l.length ≤ n := by
  have := List.Nodup.length_le_of_subset (asc_nd h) (l₂ := List.range n) fun i hi => List.mem_range.mpr (hl i hi)
  simpa using this
/-- one elimination's step -/
theorem comb_lv {c bn bd mn md p : Nat} {us us' : List Str} {u : Str} {a b res : DRw} {one other : Rat} (c1 : 1 ≤ c) (hm1 : 1 ≤ mn) (hm2 : 1 ≤ md) (ha : LvOk c bn bd mn md us a) (hb : LvOk c bn bd mn md us b) (aa : (a.2.map (·.1)).Pairwise (· < ·)) (ab : (b.2.map (·.1)).Pairwise (· < ·))
    (s1 : Sz c c one) (s2 : Sz c c other) (co : CombOf a one b other res) (hu : ∀ w, w ∈ us ↔ w = u ∨ w ∈ us') (h0 : coef (total a.1 one b.1 other).ps u = 0) (hp : us'.length ≤ p) (hl : res.2.length ≤ 8) :
    (res.1.ps = [] → Sz (c + bn + (c + bd) + 1 + (1 + (c + bd + (c + bd)))) (c + bd + (c + bd) + (1 + (c + bn + (c + bd) + 1))) res.1.b ∧ SzL (1 + (c + bd + (c + bd)) + (c + mn + (c + md) + 1)) (1 + (c + bn + (c + bd) + 1) + (c + md + (c + md))) res.2) ∧
    (res.1.ps ≠ [] → LvOk (3 * c + 2 + (p - 1) * (2 * c + 2)) (p * (2 * c + 2) + 2 + (c + bn + (c + bd) + 1)) (3 * c + 2 + (p - 1) * (2 * c + 2) + 1 + (c + bd + (c + bd))) (p * (2 * c + 2) + 2 + (c + mn + (c + md) + 1)) (3 * c + 2 + (p - 1) * (2 * c + 2) + 1 + (c + md + (c + md))) us' res) := by
  have ts := total_sz c1 ha.cn hb.cn ha.s hb.s s1 s2
  have tb := total_b (a := a.1) (b := b.1) s1 s2 ha.b hb.b
  have tc := total_canon a.1 one b.1 other
  have tn : ∀ q ∈ (total a.1 one b.1 other).ps, q.1 ∈ us' := fun q hq => by
    rcases (hu q.1).mp (total_names ha.nm hb.nm q hq) with e | e
    · exact absurd (by rw [e]; exact h0) (tc.coef_ne hq)
    · exact e
  have tl := Nat.le_trans (names_len tc tn) hp
  -- multipliers ahead of the factor
  have ms : ∀ i, Sz (c + mn + (c + md) + 1) (c + md + (c + md)) (one * coef a.2 i + other * coef b.2 i) := fun i => by
    have ca : Sz mn md (coef a.2 i) := by
      by_cases z : coef a.2 i = 0
      · rw [z]; exact Sz.zero.mono hm1 hm2
      · obtain ⟨q, hq, e⟩ := coef_key z
        rw [← e, coef_mem (asc_nd aa) hq]; exact ha.m q hq
    have cb : Sz mn md (coef b.2 i) := by
      by_cases z : coef b.2 i = 0
      · rw [z]; exact Sz.zero.mono hm1 hm2
      · obtain ⟨q, hq, e⟩ := coef_key z
        rw [← e, coef_mem (asc_nd ab) hq]; exact hb.m q hq
    exact ((s1.mul ca).add (s2.mul cb)).mono (by omega) (by omega)
  have mres : ∀ {x y : Nat}, Sz x y (fac (total a.1 one b.1 other)) → SzL (x + (c + mn + (c + md) + 1)) (y + (c + md + (c + md))) res.2 := fun hf q hq => by
    rw [← coef_mem (asc_nd co.asc) hq, co.co]
    exact hf.mul (ms _)
  have eps : res.1.ps = [] ↔ (total a.1 one b.1 other).ps = [] := by
    rw [co.row]
    exact List.map_eq_nil_iff
  have eb : res.1.b = fac (total a.1 one b.1 other) * (total a.1 one b.1 other).b := by rw [co.row]; rfl
  refine ⟨fun hn => ?_, fun hn => ?_⟩
  · have hn := eps.mp hn
    have hf : Sz (1 + (c + bd + (c + bd))) (1 + (c + bn + (c + bd) + 1)) (fac (total a.1 one b.1 other)) := by
      unfold fac
      rw [hn]
      show Sz _ _ (if _ = 0 then 1 else _)
      split
      · exact Sz.one.mono (by omega) (by omega)
      · rename_i hb0
        exact turn_sz (Sz.one.div (ab_sz tb) fun z => by have := ab_pos hb0; grind)
    refine ⟨?_, mres hf⟩
    rw [eb]
    exact (hf.mul tb).mono (by omega) (by omega)
  · have hn' : (total a.1 one b.1 other).ps ≠ [] := fun z => hn (eps.mpr z)
    have mul1 : (total a.1 one b.1 other).ps.length * (2 * c + 2) ≤ p * (2 * c + 2) := Nat.mul_le_mul_right _ tl
    have mul2 : ((total a.1 one b.1 other).ps.length - 1) * (2 * c + 2) ≤ (p - 1) * (2 * c + 2) := Nat.mul_le_mul_right _ (by omega)
    have hf : Sz (p * (2 * c + 2) + 2) (3 * c + 2 + (p - 1) * (2 * c + 2) + 1) (fac (total a.1 one b.1 other)) := (fac_szP ts tc.nz hn').mono (by omega) (by omega)
    refine ⟨hn, ?_, ?_, ?_, ?_, mres hf, hl⟩
    · rw [co.row]; exact norm_canon tc
    · rw [co.row]; exact (norm_whole ts tc.nz).mono (by omega) (Nat.le_refl _)
    · rw [co.row]
      intro q hq
      obtain ⟨q', hq', rfl⟩ := List.mem_map.mp hq
      exact tn q' hq'
    · rw [eb]
      exact hf.mul tb
end LP
set_option maxRecDepth 100000
set_option maxHeartbeats 4000000
/-! Pn13: derived, number_in, scaled_paper, added_papers, combined. -/
namespace LP
open PySem PySem.Spec PyProof.Rows L2
theorem nums_range (n : Nat) : nums 0 1 n = (List.range n).map fun k => D.int ((k : Nat) : Int) := by
  apply List.ext_getElem?
  intro i
  by_cases h : i < n
  · rw [nums_get 1 n i 0 h, List.getElem?_map, List.getElem?_range h]
    show some (D.int (0 + (i : Int) * 1)) = some (D.int (i : Int))
    rw [Int.mul_one, Int.zero_add]
  · rw [List.getElem?_eq_none (by rw [nums_len]; omega), List.getElem?_eq_none (by simp; omega)]
def idxs (sys : List Row) : List DRw := (List.range sys.length).map fun k => (rowAt sys k, [(k, 1)])
def wDeriv : List D → (List D → Prop) → Prop := fun ds R => ∃ sys : List Row, ds = [.lst (sys.map dRow)] ∧ sys.length ≤ 1000 ∧ R ((idxs sys).map dDr)
def wNumIn : List D → (D → Prop) → Prop := fun ds R => ∃ (r : Row) (u : Str), ds = [dRow r, .str u] ∧ Canon r.ps ∧ R (dQ (coef r.ps u))
def wScal : List D → (List D → Prop) → Prop := fun ds R => ∃ (ps : Pap) (c : Rat) (n d m e : Nat), ds = [dPap ps, dQ c] ∧ SzL n d ps ∧ Sz m e c ∧ e + d < 9000 ∧ n ≤ 90000 ∧ m ≤ 90000 ∧ ps.length ≤ 1000 ∧ R ((ps.map fun p => (p.1, c * p.2)).map dIx)
def wAdd : List D → (D → Prop) → Prop := fun ds R => ∃ (a b : Pap) (n d : Nat), ds = [.lst (a.map dIx), .lst (b.map dIx)] ∧ SzL n d (a ++ b) ∧ (∀ u, cnt (a ++ b) u ≤ 2) ∧ 1 ≤ d ∧ 1 ≤ n ∧ 2 * d + d < 9000 ∧ n + (d + 1) ≤ 90000 ∧ (a ++ b).length < 64 ∧
  ∀ qs : Pap, (qs.map (·.1)).Pairwise (· < ·) → (∀ p ∈ qs, p.2 ≠ 0) → (∀ u, coef qs u = coef (a ++ b) u) → R (dPap qs)
theorem flat_dr (d : DRw) : (dDr d).flat = true := by
  show ((dRow d.1).flat && (D.flats (d.2.map dIx) && true)) = true
  rw [flat_row, flat_map dIx (fun _ _ => rfl)]; rfl
theorem flat_pap (p : Pap) : (dPap p).flat = true := flat_map dIx (fun _ _ => rfl) p
theorem flat_drs (l : List DRw) : D.flats (l.map dDr) = true := flat_map dDr (fun _ _ => flat_dr _) l
theorem nd_cast (l : List Nat) : (l.map fun k : Nat => (k : Int)).Nodup ↔ l.Nodup := by
  unfold List.Nodup
  rw [List.pairwise_map]
  exact ⟨fun h => h.imp fun h e => h (by rw [e]), fun h => h.imp fun h e => h (by omega)⟩
theorem str_dec (a b : Str) : decide (a = b) = true ↔ a = b := decide_eq_true_iff
section
variable {P : Program} {w : World} {K : PySem.W.Frag} {mg : Str → Option Value} {base : Heap} {f : Addr} {fd : FuncData} {T : Addr}
theorem ok_derived (F : Fun K "derived" "derived" s_derived f fd) (h1 : GD K mg "ONE" (dQ 1)) (hL : mg "len" = none) (hR : mg "range" = none) : FnOk P w K mg base CX0 1 f fd P_derived (spL K wDeriv) := by
  refine okL F sc_derived (fun ds R h => by obtain ⟨sys, rfl, _⟩ := h; rfl) fun cdv A outer s H E hr ds R h => ?_
  obtain ⟨sys, rfl, hl, r⟩ := h
  refine bs_cons <| s_retL <| lc1 (α := Nat) [("k", 1)] 1 sc_derived.nd (it_range1 (w_len (w_var 0 rfl ⟨_, rfl, ?_⟩) hL) hR)
  refine ⟨sys.length, by rw [List.length_map], by omega, by rw [nums_len]; exact le_line (by omega), List.range sys.length, fun k => .int ((k : Nat) : Int), fun k => dDr (rowAt sys k, [(k, 1)]), nums_range _, fun k hk s' H' C cl fp => ?_, ?_⟩
  · have hk := List.mem_range.mp hk
    have e : (sys.map dRow)[k]? = some (dRow (rowAt sys k)) := by
      rw [List.getElem?_map, List.getElem?_eq_getElem hk, rowAt_some (List.getElem?_eq_getElem hk)]; rfl
    exact w_tup <| wi_cons <| w_ix <| w_var 0 rfl <| w_var 1 rfl ⟨k, _, _, rfl, rfl, e, wi_cons <| w_tup <| wi_cons <| w_tup <| wi_cons <| w_var 1 rfl <| wi_cons <| w_gd h1 <| wi_nil ⟨one_line, wi_nil ⟨one_line, wi_nil ⟨one_line, rfl⟩⟩⟩⟩
  · refine ⟨_, rfl, ?_, ?_⟩
    · exact flat_map _ (fun _ _ => flat_dr _) _
    · unfold idxs at r
      rw [List.map_map] at r
      exact r
theorem ok_number_in (F : Fun K "number_in" "number_in" s_number_in f fd) (h0 : GD K mg "ZERO" (dQ 0)) : FnOk P w K mg base CX0 1 f fd P_number_in (spD K wNumIn) := by
  refine okD F sc_number_in (fun ds R h => by obtain ⟨r, u, rfl, _⟩ := h; rfl) fun cdv A outer s H E hr ds R h => ?_
  obtain ⟨⟨ps, sg, b⟩, u, rfl, c, r⟩ := h
  have c : Canon ps := c
  have r : R (dQ (coef ps u)) := r
  refine bs_cons (s_for (it_tup <| w_ixT 0 0 rfl (r := ⟨ps.map dPt, rfl, ?_⟩)) rfl PassesOwn.never)
  refine forD_ind (fun rest ρ δ => ∃ (suf : Pts) (o2 o3 : Option D), rest = suf.map dPt ∧ Canon suf ∧ coef ps u = coef suf u ∧ ρ = noR ∧ δ = [some (dRow ⟨ps, sg, b⟩), some (.str u), o2, o3]) ?_ ?_ _ _ _ ⟨ps, none, none, rfl, c, rfl, rfl, rfl⟩
  · rintro ρ δ ⟨suf, o2, o3, e1, _, e2, rfl, rfl⟩
    have : suf = [] := by cases suf with | nil => rfl | cons _ _ => cases e1
    subst this
    rw [e2] at r
    exact bs_cons <| s_ret <| w_gd h0 ⟨_, rfl, rfl, r⟩
  · rintro x xs ρ δ ⟨suf, o2, o3, e1, cs, e2, rfl, rfl⟩
    cases suf with
    | nil => cases e1
    | cons q suf =>
      cases e1
      refine tg_tup (tgs_cons <| tg_name 2 (tgs_cons <| tg_name 3 (tgs_nil ?_) sc_number_in.nd) sc_number_in.nd) rfl rfl
      refine bs_If <| wt_cmp <| w_var 2 rfl <| w_var 1 rfl <| opw_eqS ⟨_, rfl, ?_⟩
      by_cases e : q.1 = u
      · rw [decide_eq_true e]
        rw [e2, ← e, coef_mem cs.nd (List.mem_cons_self ..)] at r
        exact bs_cons <| s_ret <| w_var 3 rfl ⟨_, rfl, rfl, r⟩
      · rw [decide_eq_false e]
        refine bs_nil <| bs_nil ⟨trivial, suf, some (.str q.1), some (dQ q.2), rfl, ⟨(List.nodup_cons.mp cs.nd).2, fun p hp => cs.nz p (List.mem_cons_of_mem _ hp)⟩, ?_, rfl, rfl⟩
        rw [e2, coef, if_neg e]; grind
theorem ok_scaled_paper (F : Fun K "scaled_paper" "scaled_paper" s_scaled_paper f fd) (Gt : Def P w K mg base 3 "times" P_times (spD K (wOp (· * ·)))) : FnOk P w K mg base CX0 4 f fd P_scaled_paper (spL K wScal) := by
  refine okL F sc_scaled_paper (fun ds R h => by obtain ⟨ps, c, n, d, m, e, rfl, _⟩ := h; rfl) fun cdv A outer s H E hr ds R h => ?_
  obtain ⟨ps, c, n, d, m, e, rfl, h1, h2, h3, h4, h5, h6, r⟩ := h
  refine bs_cons <| s_retL <| lc2 (α := Nat × Rat) [("index", 2), ("value", 3)] 2 3 sc_scaled_paper.nd (it_tup <| w_var 0 rfl ⟨_, rfl, ?_⟩)
  refine ⟨by rw [List.length_map]; exact le_line (by omega), ps, fun p => .int p.1, fun p => dQ p.2, fun p => dIx (p.1, c * p.2), rfl, fun p hp s' H' C cl fp => ?_, ?_⟩
  · exact w_tup <| wi_cons <| w_var 2 rfl <| wi_cons <| w_call Gt hr <| wa_v <| w_var 1 rfl <| wa_v <| w_var 3 rfl <| wa_nil ⟨c, p.2, m, e, n, d, rfl, h2, h1 p hp, h3, h5, h4, wi_nil ⟨one_line, rfl⟩⟩
  · exact ⟨_, rfl, flat_map _ (fun _ _ => rfl) _, by rw [List.map_map] at r; exact r⟩
theorem inl_inj (a b : Nat) (h : (Sum.inl ((a : Nat) : Int) : Key) = Sum.inl ((b : Nat) : Int)) : a = b := by injection h with h; omega
theorem ok_added_papers (F : Fun K "added_papers" "added_papers" s_added_papers f fd) (Gp : Def P w K mg base 3 "plus" P_plus (spD K (wOp (· + ·)))) (h0 : GD K mg "ZERO" (dQ 0)) (hT : mg "tuple" = none) (hS : mg "sorted" = none) : FnOk P w K mg base CX0 4 f fd P_added_papers (spD K wAdd) := by
  refine okD F sc_added_papers (fun ds R h => by obtain ⟨a, b, n, d, rfl, _⟩ := h; rfl) fun cdv A outer s H E hr ds R h => ?_
  obtain ⟨a, b, n, d, rfl, h1, h2, d1, n1, h3, h4, h5, r⟩ := h
  have hu := hr.units
  have e0 : a.map dIx ++ b.map dIx = (a ++ b).map dIx := by rw [List.map_append]
  refine bs_cons (s_setM 2 (fun p hp => ?_) sc_added_papers.nd)
  refine bs_cons (s_for (it_new <| wl_cat <| w_var 0 rfl ⟨_, .inl rfl, w_var 1 rfl ⟨_, .inl rfl, ?_, fun q hq => ?_⟩⟩) rfl PassesOwn.never)
  · rw [List.length_append] at h5
    rw [List.length_map, List.length_map]
    exact le_line (by omega)
  have hpq : p ≠ q := fun e => by subst e; rw [put_same] at hq; cases hq
  rw [e0]
  generalize hps : a ++ b = ps at *
  refine forD_ind (fun rest ρ δ => ∃ (pre suf : Pap) (kvs : KD') (ks : List Nat) (o3 o4 : Option D), rest = suf.map dIx ∧ ps = pre ++ suf ∧ ρ p = some (.M kvs) ∧ ρ q = some (.L (ps.map dIx)) ∧ δ = [some (.lst (a.map dIx)), some (.lst (b.map dIx)), some (.obj p), o3, o4] ∧
    DictIs (fun k : Nat => Sum.inl (k : Int)) kvs ks (coef pre) ∧ ks.length ≤ pre.length) ?_ ?_ _ _ _ ⟨[], ps, [], [], none, none, rfl, rfl, by rw [put_ne hpq]; exact put_same, put_same, rfl, dictIs_nil _, Nat.le_refl _⟩
  · rintro ρ δ ⟨pre, suf, kvs, ks, o3, o4, e1, e2, hρ, hρq, rfl, hd, hl⟩
    have : suf = [] := by cases suf with | nil => rfl | cons _ _ => cases e1
    subst this
    rw [List.append_nil] at e2
    subst e2
    refine bs_cons <| s_ret <| w_tupL (lcIf (α := Int) [("index", 3)] 3 sc_added_papers.nd (it_new <| wl_sortedI rfl (w_var 2 rfl rfl) hρ (ks := ks.map fun k : Nat => (k : Int)) (by rw [hd.keys, List.map_map]; rfl) (by rw [List.length_map]; omega) (fun ys hp1 hp2 c hc => ?_) hS)) hT
    have hpc : p ≠ c := fun e => by subst e; rw [hρ] at hc; cases hc
    have hnd : (ks.map fun k : Nat => (k : Int)).Nodup := by
      exact (nd_cast ks).mpr hd.nd
    have hin : ∀ y ∈ ys, ∃ k ∈ ks, y = ((k : Nat) : Int) := fun y hy => by
      obtain ⟨k, hk, e⟩ := List.mem_map.mp (hp1.mem_iff.mp hy)
      exact ⟨k, hk, e.symm⟩
    have hmem : ∀ y ∈ ys, valD kvs (Sum.inl y) = some (dQ (coef ps y.toNat)) := fun y hy => by
      obtain ⟨k, hk, rfl⟩ := hin y hy
      rw [Int.toNat_natCast]
      exact hd.mem k hk
    refine ⟨by rw [List.length_map]; exact le_line (by have := hp1.length_eq; rw [List.length_map] at this; omega), ys, .int, fun y => dIx (y.toNat, coef ps y.toNat), fun y => decide (coef ps y.toNat ≠ 0), rfl, fun y hy => ⟨fun s' H' C cl fp => ?_, fun hb s' H' C cl fp => ?_⟩, ?_⟩
    · refine wt_cmp <| w_dget hu (w_var 2 rfl rfl) (by rw [put_ne hpc]; exact hρ) (k := Sum.inl y) (w_var 3 rfl rfl) (hmem y hy) (r := w_gd h0 <| opw_neT hu (k := decide (coef ps y.toNat = 0)) (by rw [decide_eq_true_eq]; exact dQ_iff.symm) ⟨_, rfl, ?_⟩)
      show (!decide (coef ps y.toNat = 0)) = decide (¬ coef ps y.toNat = 0)
      rw [decide_not]
    · refine w_tup <| wi_cons <| w_var 3 rfl <| wi_cons <| w_dget hu (w_var 2 rfl rfl) (by rw [put_ne hpc]; exact hρ) (k := Sum.inl y) (w_var 3 rfl rfl) (hmem y hy) (r := wi_nil ⟨one_line, ?_⟩)
      obtain ⟨k, hk, rfl⟩ := hin y hy
      show D.tup [.int (k : Int), dQ _] = D.tup [.int (((k : Int).toNat : Nat) : Int), dQ _]
      rw [Int.toNat_natCast]
    · -- the names, in order
      have hz : ∃ zs : List Nat, ys = zs.map fun k : Nat => (k : Int) := by
        refine ⟨ys.map Int.toNat, ?_⟩
        rw [List.map_map]
        conv => lhs; rw [← List.map_id ys]
        apply List.map_congr_left
        intro y hy
        obtain ⟨k, hk, rfl⟩ := hin y hy
        rfl
      obtain ⟨zs, rfl⟩ := hz
      have znd : zs.Nodup := by
        have := hp1.nodup_iff.mpr hnd
        exact (nd_cast zs).mp this
      have zasc : zs.Pairwise (· < ·) := by
        rw [List.pairwise_map] at hp2
        exact (hp2.and znd).imp fun ⟨x, y⟩ => by omega
      have zmem : ∀ u, u ∈ zs ↔ u ∈ ks := fun u => by
        have := hp1.mem_iff (a := (u : Int))
        rw [List.mem_map, List.mem_map] at this
        constructor
        · intro h
          obtain ⟨k, hk, e⟩ := this.mp ⟨u, h, rfl⟩
          have : k = u := by omega
          rw [← this]; exact hk
        · intro h
          obtain ⟨k, hk, e⟩ := this.mpr ⟨u, h, rfl⟩
          have : k = u := by omega
          rw [← this]; exact hk
      have := r (listed zs (coef ps)) ?_ (listed_canon _ znd).nz (listed_coef _ znd fun u hu => hd.out u fun z => hu ((zmem u).mpr z))
      · unfold listed dPap at this
        rw [List.map_map] at this
        refine ⟨_, rfl, flat_map _ (fun _ _ => rfl) _, ?_⟩
        rw [List.filter_map, List.map_map]
        exact this
      · unfold listed
        rw [List.map_map]
        have e : ((fun p : Nat × Rat => p.1) ∘ fun y => (y, coef ps y)) = id := rfl
        rw [e, List.map_id]
        exact zasc.filter _
  · rintro x xs ρ δ ⟨pre, suf, kvs, ks, o3, o4, e1, e2, hρ, hρq, rfl, hd, hl⟩
    cases suf with
    | nil => cases e1
    | cons z suf =>
      cases e1
      obtain ⟨u, v⟩ := z
      have hps' : SzL n d pre := fun z hz => h1 z (by rw [e2]; exact List.mem_append_left _ hz)
      have hv : Sz n d v := h1 (u, v) (by rw [e2]; simp)
      have hc : cnt pre u ≤ 2 := by
        have := h2 u
        rw [e2, cnt_app] at this
        omega
      have hlen : pre.length < ps.length := by rw [e2]; simp
      refine tg_tup (tgs_cons <| tg_name 3 (tgs_cons <| tg_name 4 (tgs_nil ?_) sc_added_papers.nd) sc_added_papers.nd) rfl rfl
      refine bs_cons (s_dput hu (w_call Gp hr <| wa_v <| w_dget2 hu (w_var 2 rfl rfl) hρ (k := Sum.inl (u : Int)) (w_var 3 rfl rfl) (w_gd h0 rfl) (hd.val u) (wa_v <| w_var 4 rfl <| wa_nil ⟨coef pre u, v, _, _, n, d, rfl, coef_sz' d1 n1 (by decide : 1 ≤ 2) u hps' hc, hv, h3, by omega, by omega, ?_⟩)) (w_var 2 rfl rfl) hρ ?_ (k := Sum.inl (u : Int)) (w_var 3 rfl rfl))
      · obtain ⟨ks', hd', hl', hm'⟩ := hd.put inl_inj u (coef pre u + v)
        refine bs_nil ⟨by rw [put_ne hpq.symm]; exact hρq, pre ++ [(u, v)], suf, _, ks', _, _, rfl, by rw [e2]; simp, put_same, by rw [put_ne hpq.symm]; exact hρq, rfl, ?_, ?_⟩
        · rw [← coef_snoc]; exact hd'
        · rw [List.length_append]; simp; omega
      · have := congrArg List.length hd.keys
        rw [List.length_map, List.length_map] at this
        exact lt_line (by omega)
end
end LP
set_option maxRecDepth 100000
set_option maxHeartbeats 4000000
/-! Pn14: combined. -/
namespace LP
open PySem PySem.Spec PyProof.Rows L2
structure InS (c bn bd mn md : Nat) (d : DRw) : Prop where
  cn : Canon d.1.ps
  s : SzL c 1 d.1.ps
  n : d.1.ps.length ≤ 3
  b : Sz bn bd d.1.b
  m : SzL mn md d.2
  l : d.2.length ≤ 8
  asc : (d.2.map (·.1)).Pairwise (· < ·)
def wComb : List D → (D → Prop) → Prop := fun ds R => ∃ (a b : DRw) (one other : Rat) (c bn bd mn md : Nat), ds = [dDr a, dQ one, dDr b, dQ other] ∧ InS c bn bd mn md a ∧ InS c bn bd mn md b ∧ Sz c c one ∧ Sz c c other ∧ 1 ≤ c ∧ c ≤ 70 ∧ bn ≤ 200 ∧ bd ≤ 200 ∧ 1 ≤ mn ∧ mn ≤ 200 ∧ 1 ≤ md ∧ md ≤ 200 ∧
  ∀ res, CombOf a one b other res → R (dDr res)
theorem Canon.len_le {α : Type} [DecidableEq α] {ps qs : List (α × Rat)} (c : Canon qs) (h : ∀ u, coef qs u = coef ps u) : qs.length ≤ ps.length := by
  have := List.Nodup.length_le_of_subset c.nd (l₂ := ps.map (·.1)) fun u hu => by
    obtain ⟨p, hp, rfl⟩ := List.mem_map.mp hu
    exact c.names h hp
  simpa using this
theorem keys_map (c : Rat) (ps : Pap) : (ps.map fun p => (p.1, c * p.2)).map (·.1) = ps.map (·.1) := by rw [List.map_map]; rfl
section
variable {P : Program} {w : World} {K : PySem.W.Frag} {mg : Str → Option Value} {base : Heap} {f : Addr} {fd : FuncData} {T : Addr}
theorem ok_combined (F : Fun K "combined" "combined" s_combined f fd) (Gt : Def P w K mg base 3 "times" P_times (spD K (wOp (· * ·)))) (Gp : Def P w K mg base 3 "plus" P_plus (spD K (wOp (· + ·)))) (Gg : Def P w K mg base 4 "gathered" P_gathered (spD K wGath)) (Gs : Def P w K mg base 1 "sign_of" P_sign_of (spT T (spD K wSgn)))
    (Ga : Def P w K mg base 4 "added_papers" P_added_papers (spD K wAdd)) (Gc : Def P w K mg base 4 "scaled_paper" P_scaled_paper (spL K wScal)) (Gn : Def P w K mg base 5 "normal" P_normal (spD K wNor)) (Gf : Def P w K mg base 4 "factor_of" P_factor_of (spD K wFac)) (hT' : mg "tuple" = none) :
    FnOk P w K mg base CX0 6 f fd P_combined (spT T (spD K wComb)) := by
  refine okDT F sc_combined (fun ds R h => by obtain ⟨a, b, o, p, c, bn, bd, mn, md, rfl, _⟩ := h; rfl) fun cdv A outer s H E hT hr ds R h => ?_
  obtain ⟨⟨⟨pa, sa, ba⟩, qa⟩, ⟨⟨pb, sb, bb⟩, qb⟩, one, other, c, bn, bd, mn, md, rfl, ia, ib, s1, s2, c1, c2, hbn, hbd, m1, m2, m3, m4, r⟩ := h
  have ca : Canon pa := ia.cn
  have cb : Canon pb := ib.cn
  have za : SzL c 1 pa := ia.s
  have zb : SzL c 1 pb := ib.s
  have la : pa.length ≤ 3 := ia.n
  have lb : pb.length ≤ 3 := ib.n
  have bza : Sz bn bd ba := ia.b
  have bzb : Sz bn bd bb := ib.b
  have ma : SzL mn md qa := ia.m
  have mb : SzL mn md qb := ib.m
  have l8a : qa.length ≤ 8 := ia.l
  have l8b : qb.length ≤ 8 := ib.l
  have asa : (qa.map (·.1)).Pairwise (· < ·) := ia.asc
  have asb : (qb.map (·.1)).Pairwise (· < ·) := ib.asc
  have hu := hr.units
  have r3 := hr.mono (show 3 ≤ 5 by decide)
  have r4 := hr.mono (show 4 ≤ 5 by decide)
  obtain ⟨tot, htot⟩ : ∃ tot, tot = total ⟨pa, sa, ba⟩ one ⟨pb, sb, bb⟩ other := ⟨_, rfl⟩
  have pairs : ∀ (ps : Pts) (x : Rat), SzL c 1 ps → Sz c c x → SzL (c + c) (c + 1) (ps.map fun p => (p.1, x * p.2)) := fun ps x h g => h.map g
  -- the pairs
  refine bs_cons (LC.set 4 sc_combined.nd (lc2' (α := Str × Rat) [("unknown", 8), ("value", 9)] 8 9 sc_combined.nd (it_tup <| w_ix <| w_ixT (xs := [dRow ⟨pa, sa, ba⟩, dPap qa]) (d := dRow ⟨pa, sa, ba⟩) 0 0 rfl (r := w_int ⟨0, [dPts pa, .str sa.str, dQ ba], dPts pa, rfl, rfl, rfl, pa.map dPt, rfl, ?_⟩))))
  refine ⟨by rw [List.length_map]; exact le_line (by omega), pa, fun p => .str p.1, fun p => dQ p.2, fun p => dPt (p.1, one * p.2), rfl, fun p hp s' H' C cl fp => ?_, fun A1 hA1 => ?_⟩
  · exact w_tup <| wi_cons <| w_var 8 rfl <| wi_cons <| w_call Gt r3 <| wa_v <| w_var 1 rfl <| wa_v <| w_var 9 rfl <| wa_nil ⟨one, p.2, c, c, c, 1, rfl, s1, za p hp, by omega, by omega, by omega, wi_nil ⟨one_line, rfl⟩⟩
  have em : ∀ (ps : Pts) (x : Rat), ps.map (fun p => dPt (p.1, x * p.2)) = (ps.map fun p => (p.1, x * p.2)).map dPt := fun ps x => by rw [List.map_map]; rfl
  rw [em]
  refine bs_cons (s_extend (w_var 4 rfl rfl) put_same (lc2 (α := Str × Rat) [("unknown", 8), ("value", 9)] 8 9 sc_combined.nd (it_tup <| w_ix <| w_ixT (xs := [dRow ⟨pb, sb, bb⟩, dPap qb]) (d := dRow ⟨pb, sb, bb⟩) 2 0 rfl (r := w_int ⟨0, [dPts pb, .str sb.str, dQ bb], dPts pb, rfl, rfl, rfl, pb.map dPt, rfl, ?_⟩))))
  refine ⟨by rw [List.length_map]; exact le_line (by omega), pb, fun p => .str p.1, fun p => dQ p.2, fun p => dPt (p.1, other * p.2), rfl, fun p hp s' H' C cl fp => ?_, ?_, ?_⟩
  · exact w_tup <| wi_cons <| w_var 8 rfl <| wi_cons <| w_call Gt r3 <| wa_v <| w_var 3 rfl <| wa_v <| w_var 9 rfl <| wa_nil ⟨other, p.2, c, c, c, 1, rfl, s2, zb p hp, by omega, by omega, by omega, wi_nil ⟨one_line, rfl⟩⟩
  · rw [List.length_map, List.length_map, List.length_map]; exact le_line (by omega)
  rw [em, put_put, ← List.map_append]
  obtain ⟨prs, hprs⟩ : ∃ prs, prs = (pa.map fun p => (p.1, one * p.2)) ++ (pb.map fun p => (p.1, other * p.2)) := ⟨_, rfl⟩
  rw [← hprs]
  have lp : prs.length ≤ 6 := by rw [hprs, List.length_append, List.length_map, List.length_map]; omega
  have zp : SzL (c + c) (c + 1) prs := by rw [hprs]; exact SzL.app (pairs _ _ za s1) (pairs _ _ zb s2)
  have cp : ∀ u, cnt prs u ≤ 2 := fun u => by
    rw [hprs, cnt_app, cnt_map, cnt_map]
    have := cnt_nd (u := u) ca.nd
    have := cnt_nd (u := u) cb.nd
    omega
  -- the bound
  refine bs_cons (s_set 5 (w_call Gp r3 <| wa_v <| w_call Gt r3 <| wa_v <| w_var 1 rfl <| wa_v <| w_ix <| w_ixT (xs := [dRow ⟨pa, sa, ba⟩, dPap qa]) (d := dRow ⟨pa, sa, ba⟩) 0 0 rfl (r := w_int ⟨2, [dPts pa, .str sa.str, dQ ba], dQ ba, rfl, rfl, rfl, wa_nil ⟨one, ba, c, c, bn, bd, rfl, s1, bza, by omega, by omega, by omega,
    wa_v <| w_call Gt r3 <| wa_v <| w_var 3 rfl <| wa_v <| w_ix <| w_ixT (xs := [dRow ⟨pb, sb, bb⟩, dPap qb]) (d := dRow ⟨pb, sb, bb⟩) 2 0 rfl (r := w_int ⟨2, [dPts pb, .str sb.str, dQ bb], dQ bb, rfl, rfl, rfl, wa_nil ⟨other, bb, c, c, bn, bd, rfl, s2, bzb, by omega, by omega, by omega, wa_nil ⟨one * ba, other * bb, _, _, _, _, rfl, s1.mul bza, s2.mul bzb, by omega, by omega, by omega, ?_⟩⟩⟩)⟩⟩)) sc_combined.nd)
  -- the total
  have sg2 : [D.str sa.str, D.str sb.str] = [sa, sb].map fun s => D.str s.str := rfl
  refine bs_cons (s_set 6 (w_tup <| wi_cons <| w_call Gg r4 <| wa_o <| w_var 4 rfl ⟨A1, _, rfl, put_same, wa_nil ⟨prs, c + c, c + 1, 2, rfl, zp, cp, by decide, by omega, by omega, by omega, by omega, by omega, wi_cons <| w_callT hT Gs (hr.mono (by decide)) <| wa_l <| wl_lst <| wi_cons <| w_ix <| w_ixT (xs := [dRow ⟨pa, sa, ba⟩, dPap qa]) (d := dRow ⟨pa, sa, ba⟩) 0 0 rfl (r := w_int ⟨1, [dPts pa, .str sa.str, dQ ba], .str sa.str, rfl, rfl, rfl,
    wi_cons <| w_ix <| w_ixT (xs := [dRow ⟨pb, sb, bb⟩, dPap qb]) (d := dRow ⟨pb, sb, bb⟩) 2 0 rfl (r := w_int ⟨1, [dPts pb, .str sb.str, dQ bb], .str sb.str, rfl, rfl, rfl, wi_nil ⟨one_line, wa_nil ⟨[sa, sb], rfl, wi_cons <| w_var 5 rfl <| wi_nil ⟨one_line, ?_⟩⟩⟩⟩)⟩)⟩⟩) sc_combined.nd)
  have edt : D.tup [dPts (gath prs), .str (signOf [sa, sb]).str, dQ (one * ba + other * bb)] = dRow tot := by rw [htot, hprs]; rfl
  rw [edt]
  -- the paper
  have ma' : SzL (c + mn) (c + md) (qa.map fun p => (p.1, one * p.2)) := ma.map s1
  have mb' : SzL (c + mn) (c + md) (qb.map fun p => (p.1, other * p.2)) := mb.map s2
  have tc : Canon tot.ps := by rw [htot]; exact total_canon _ _ _ _
  have tz : SzL (3 * c + 2) (2 * c + 2) tot.ps := by rw [htot]; exact total_sz c1 ca cb za zb s1 s2
  have tb : Sz (c + bn + (c + bd) + 1) (c + bd + (c + bd)) tot.b := by rw [htot]; exact total_b s1 s2 bza bzb
  have tl : tot.ps.length ≤ 6 := by
    rw [htot]
    refine Nat.le_trans (canon_len (gath_canon _) (gath_coef _)) ?_
    rw [← hprs]; exact lp
  have tm : tot.ps.length * (2 * c + 2) ≤ 6 * (2 * c + 2) := Nat.mul_le_mul_right _ tl
  have tok : NorOk (3 * c + 2) (2 * c + 2) (c + bn + (c + bd) + 1) (c + bd + (c + bd)) tot := ⟨tz, tc.nz, tb, by omega, by omega⟩
  have fz := fac_sz tok
  have tm2 : (tot.ps.length - 1) * (2 * c + 2) ≤ 6 * (2 * c + 2) := Nat.mul_le_mul_right _ (by omega)
  refine bs_cons (s_set 7 (w_call Ga r4 <| wa_l <| wl_call Gc r4 <| wa_v <| w_ixT (xs := [dRow ⟨pa, sa, ba⟩, dPap qa]) (d := dPap qa) 0 1 rfl (r := wa_v <| w_var 1 rfl <| wa_nil ⟨qa, one, mn, md, c, c, rfl, ma, s1, by omega, by omega, by omega, by omega,
    wa_l <| wl_call Gc r4 <| wa_v <| w_ixT (xs := [dRow ⟨pb, sb, bb⟩, dPap qb]) (d := dPap qb) 2 1 rfl (r := wa_v <| w_var 3 rfl <| wa_nil ⟨qb, other, mn, md, c, c, rfl, mb, s2, by omega, by omega, by omega, by omega,
      wa_nil ⟨qa.map fun p => (p.1, one * p.2), qb.map fun p => (p.1, other * p.2), c + mn, c + md, rfl, SzL.app ma' mb', fun u => ?_, by omega, by omega, by omega, by omega, ?_, fun qs q1 q2 q3 => ?_⟩⟩)⟩)) sc_combined.nd)
  · rw [cnt_app, cnt_map, cnt_map]
    have := cnt_nd (u := u) (asc_nd asa)
    have := cnt_nd (u := u) (asc_nd asb)
    omega
  · rw [List.length_append, List.length_map, List.length_map]; omega
  have qc : Canon qs := ⟨asc_nd q1, q2⟩
  have ql : qs.length ≤ 16 := by
    refine Nat.le_trans (qc.len_le q3) ?_
    rw [List.length_append, List.length_map, List.length_map]; omega
  have qz : SzL (c + mn + (c + md + 1)) (2 * (c + md)) qs := (qc.sz q3 (m := 2) (by omega) (by omega) (by decide) (SzL.app ma' mb') fun u => by
    rw [cnt_app, cnt_map, cnt_map]
    have := cnt_nd (u := u) (asc_nd asa)
    have := cnt_nd (u := u) (asc_nd asb)
    omega).mono (by omega) (by omega)
  refine bs_cons <| s_ret <| w_tup <| wi_cons <| w_call Gn hr <| wa_v <| w_var 6 rfl <| wa_nil ⟨tot, _, _, _, _, rfl, tok, wi_cons <| w_tupL (wl_call Gc r4 <| wa_v <| w_var 7 rfl <| wa_v <| w_call Gf r4 <| wa_v <| w_var 6 rfl <| wa_nil ⟨tot, _, _, _, _, rfl, tok.fac, wa_nil ⟨qs, fac tot, _, _, _, _, rfl, qz, fz, by omega, by omega, by omega, by omega, wi_nil ⟨one_line, ?_⟩⟩⟩) hT'⟩
  refine ⟨_, rfl, ?_, ?_⟩
  · exact flat_dr (norm tot, qs.map fun p => (p.1, fac tot * p.2))
  refine (r (norm tot, qs.map fun p => (p.1, fac tot * p.2)) ⟨by rw [htot], ?_, ?_, fun i => ?_⟩)
  · show ((qs.map fun p => (p.1, fac tot * p.2)).map (·.1)).Pairwise (· < ·)
    rw [keys_map]; exact q1
  · exact (qc.map (fac_ne tc.nz)).nz
  · show coef (qs.map fun p => (p.1, fac tot * p.2)) i = fac (total ⟨pa, sa, ba⟩ one ⟨pb, sb, bb⟩ other) * (one * coef qa i + other * coef qb i)
    rw [coef_map, q3, coef_app, coef_map, coef_map, htot]
end
end LP
set_option maxRecDepth 100000
set_option maxHeartbeats 4000000
/-! Pn15: is_weaker, stays, cleaned, first_equation, false_row. -/
namespace LP
open PySem PySem.Spec PyProof.Rows L2
theorem sms_map {α : Type} {n : Nat} (g : α → D) (h : ∀ a, (g a).sm n = true) : ∀ l : List α, D.sms n (l.map g) = true
  | [] => by simp [D.sms]
  | a :: l => by rw [List.map_cons, D.sms, h a, sms_map g h l]; rfl
theorem sm_pts (ps : Pts) : (dPts ps).sm 8 = true := by
  show D.sms 7 (ps.map dPt) = true
  exact sms_map dPt (fun _ => rfl) ps
theorem sm_row (r : Row) : (dRow r).sm 8 = true := by
  show ((D.sms 6 (r.ps.map dPt)) && _) = true
  rw [sms_map dPt (fun _ => rfl)]
  rfl
theorem dPt_inj {a b : Str × Rat} (h : dPt a = dPt b) : a = b := by
  obtain ⟨a1, a2⟩ := a
  obtain ⟨b1, b2⟩ := b
  have h : D.tup [.str a1, dQ a2] = D.tup [.str b1, dQ b2] := h
  injection h with h
  injection h with h1 h2
  injection h2 with h2 _
  injection h1 with h1
  rw [h1, dQ_inj h2]
theorem dPts_inj {a b : Pts} (h : dPts a = dPts b) : a = b := by
  have h : D.tup (a.map dPt) = D.tup (b.map dPt) := h
  injection h with h
  exact List.map_inj_right (fun x y => dPt_inj) |>.mp h
theorem str_inj {a b : Sg} (h : a.str = b.str) : a = b := by
  cases a <;> cases b <;> first | rfl | exact absurd h (by decide)
theorem dRow_inj {a b : Row} (h : dRow a = dRow b) : a = b := by
  obtain ⟨a1, a2, a3⟩ := a
  obtain ⟨b1, b2, b3⟩ := b
  have h : D.tup [dPts a1, .str a2.str, dQ a3] = D.tup [dPts b1, .str b2.str, dQ b3] := h
  injection h with h
  injection h with h1 h2
  injection h2 with h2 h3
  injection h3 with h3 _
  injection h2 with h2
  rw [dPts_inj h1, str_inj h2, dQ_inj h3]
theorem dRow_iff {a b : Row} : dRow a = dRow b ↔ a = b := ⟨dRow_inj, fun h => by rw [h]⟩
theorem dPts_iff {a b : Pts} : dPts a = dPts b ↔ a = b := ⟨dPts_inj, fun h => by rw [h]⟩
abbrev dw0 : DRw := (⟨[], .le, 0⟩, [])
theorem getD_at {rows : List DRw} {k : Nat} (h : k < rows.length) : (rows.map dDr)[k]? = some (dDr (rows.getD k dw0)) := by
  rw [List.getElem?_map, List.getElem?_eq_getElem h, List.getD_eq_getElem?_getD, List.getElem?_eq_getElem h]; rfl
theorem getD_mem {rows : List DRw} {k : Nat} (h : k < rows.length) : rows.getD k dw0 ∈ rows := by
  rw [List.getD_eq_getElem?_getD, List.getElem?_eq_getElem h]
  exact List.getElem_mem h
theorem rAt_eq (rows : List DRw) (k : Nat) : rAt rows k = (rows.getD k dw0).1 := rfl
def wWk : List D → (D → Prop) → Prop := fun ds R => ∃ (r o : Row) (k : Nat), ds = [dRow r, dRow o] ∧ Sz k k r.b ∧ Sz k k o.b ∧ k ≤ 80000 ∧ R (.bl (weaker r o))
def wSty : List D → (D → Prop) → Prop := fun ds R => ∃ (rows : List DRw) (i k : Nat), ds = [.lst (rows.map dDr), .int (i : Int)] ∧ i < rows.length ∧ rows.length ≤ 1000000 ∧ (∀ d ∈ rows, Sz k k d.1.b) ∧ k ≤ 80000 ∧ R (.bl (stays rows i))
def wCln : List D → (List D → Prop) → Prop := fun ds R => ∃ (rows : List DRw) (k : Nat), ds = [.lst (rows.map dDr)] ∧ rows.length ≤ 1000000 ∧ (∀ d ∈ rows, Sz k k d.1.b) ∧ k ≤ 80000 ∧ R ((cleanR rows).map dDr)
def wFst : List D → (D → Prop) → Prop := fun ds R => ∃ (rows : List DRw) (u : Str), ds = [.lst (rows.map dDr), .str u] ∧ rows.length ≤ 1000000 ∧ (∀ d ∈ rows, Canon d.1.ps) ∧ (∀ k, k < rows.length → (rAt rows k).sg = .eq → coef (rAt rows k).ps u ≠ 0 → R (.int (k : Int))) ∧ ((∀ d ∈ rows, coef d.1.ps u ≠ 0 → d.1.sg ≠ .eq) → R .non)
def wFal : List D → (D → Prop) → Prop := fun ds R => ∃ (rows : List DRw) (k : Nat), ds = [.lst (rows.map dDr)] ∧ rows.length ≤ 1000000 ∧ (∀ d ∈ rows, Sz k k d.1.b) ∧ k ≤ 80000 ∧ (∀ d ∈ rows, d.1.ps = [] → holds0 d.1 = false → R (dDr d)) ∧ ((∀ d ∈ rows, d.1.ps = [] → holds0 d.1 = true) → R .non)
section
variable {P : Program} {w : World} {K : PySem.W.Frag} {mg : Str → Option Value} {base : Heap} {f : Addr} {fd : FuncData} {T : Addr}
theorem ok_is_weaker (F : Fun K "is_weaker" "is_weaker" s_is_weaker f fd) (Gk : Def P w K mg base 1 "compare" P_compare (spD K wCmp)) : FnOk P w K mg base CX0 2 f fd P_is_weaker (spD K wWk) := by
  refine okD F sc_is_weaker (fun ds R h => by obtain ⟨r, o, k, rfl, _⟩ := h; rfl) fun cdv A outer s H E hr ds R h => ?_
  obtain ⟨⟨p1, g1, b1⟩, ⟨p2, g2, b2⟩, k, rfl, h1, h2, hk, r⟩ := h
  have h1 : Sz k k b1 := h1
  have h2 : Sz k k b2 := h2
  have r : R (.bl (decide (b2 < b1) || (decide (b2 = b1) && (decide (g2 = .lt) && decide (g1 = .le))))) := r
  refine bs_cons (s_set 2 (w_call Gk hr <| wa_v <| w_ixT (d := dQ b2) 1 2 rfl (r := wa_v <| w_ixT (d := dQ b1) 0 2 rfl (r := wa_nil ⟨b2, b1, k, rfl, h2, h1, by omega, ?_⟩))) sc_is_weaker.nd)
  refine bs_cons <| s_ret <| w_or <| w_cmp <| w_var 2 rfl <| w_int <| opw_lt ⟨_, rfl, ?_⟩
  rw [decide_eq_decide.mpr (cmpQ_lt b2 b1)]
  cases q1 : decide (b2 < b1) with
  | true => rw [q1] at r; exact ⟨_, rfl, rfl, r⟩
  | false =>
    rw [q1] at r
    refine w_one <| w_and <| w_cmp <| w_var 2 rfl <| w_int <| opw_eqI ⟨_, rfl, ?_⟩
    rw [decide_eq_decide.mpr (cmpQ_eq b2 b1)]
    cases q2 : decide (b2 = b1) with
    | false => rw [q2] at r; exact ⟨_, rfl, rfl, r⟩
    | true =>
      rw [q2] at r
      refine w_and <| w_cmp <| w_ixT (d := .str g2.str) 1 1 rfl (r := w_str <| opw_eqS ⟨_, rfl, ?_⟩)
      rw [str_lt]
      cases q3 : decide (g2 = .lt) with
      | false => rw [q3] at r; exact ⟨_, rfl, rfl, r⟩
      | true =>
        rw [q3] at r
        refine w_one <| w_cmp <| w_ixT (d := .str g1.str) 0 1 rfl (r := w_str <| opw_eqS ?_)
        rw [str_le]
        exact ⟨_, rfl, rfl, r⟩
theorem ok_stays (F : Fun K "stays" "stays" s_stays f fd) (Gh : Def P w K mg base 2 "holds" P_holds (spD K wHol)) (Gw : Def P w K mg base 2 "is_weaker" P_is_weaker (spD K wWk)) (hL : mg "len" = none) (hR : mg "range" = none) : FnOk P w K mg base CX0 3 f fd P_stays (spD K wSty) := by
  refine okD F sc_stays (fun ds R h => by obtain ⟨rows, i, k, rfl, _⟩ := h; rfl) fun cdv A outer s H E hr ds R h => ?_
  obtain ⟨rows, i, k, rfl, hi, hn, hb, hk, r⟩ := h
  have hu := hr.units
  obtain ⟨⟨⟨ps, sg, b⟩, pap⟩, hd⟩ : ∃ d : DRw, d = rows.getD i dw0 := ⟨_, rfl⟩
  have ei : (rows.map dDr)[i]? = some (dDr ⟨⟨ps, sg, b⟩, pap⟩) := by rw [getD_at hi, ← hd]
  have er : rAt rows i = ⟨ps, sg, b⟩ := by rw [rAt_eq, ← hd]
  have hbi : Sz k k b := by
    have := hb _ (getD_mem hi)
    rw [← hd] at this
    exact this
  -- rows[place][0]
  have rowI : ∀ {δ : Del} {p1 p2 p3 p4 p5 : Pos} {j : Nat} {Q : D → Prop}, δ[0]? = some (some (D.lst (rows.map dDr))) → δ[1]? = some (some (D.int (i : Int))) → Q (dRow ⟨ps, sg, b⟩) →
      W (cxOf CX0 P w K mg base N_stays "stays" (defScope s_stays) f cdv A outer s H E).nox H noR δ (.Subscript (.Subscript (.Name "rows" p1) (.Name "place" p2) p3) (.Constant (.int 0) j p4) p5) Q := fun h0 h1 q =>
    w_ix <| w_ix <| w_var 0 h0 <| w_var 1 h1 ⟨i, rows.map dDr, dDr ⟨⟨ps, sg, b⟩, pap⟩, rfl, rfl, ei, w_int ⟨0, _, dRow ⟨ps, sg, b⟩, rfl, rfl, rfl, q⟩⟩
  refine bs_cons (s_asg (rowI rfl rfl (tg_tup (tgs_cons <| tg_name 2 (tgs_cons <| tg_name 3 (tgs_cons <| tg_name 4 (tgs_nil ?_) sc_stays.nd) sc_stays.nd) sc_stays.nd) rfl rfl)))
  refine bs_If <| wt_ww <| ww_and <| wt_cmp <| w_len (w_var 2 rfl ⟨ps.map dPt, rfl, w_int <| opw_eqI ⟨_, rfl, ?_⟩⟩) hL
  have next : ¬ (ps = [] ∧ holds0 ⟨ps, sg, b⟩ = true) → BS (cxOf CX0 P w K mg base N_stays "stays" (defScope s_stays) f cdv A outer s H E).nox H noR [some (.lst (rows.map dDr)), some (.int (i : Int)), some (dPts ps), some (.str sg.str), some (dQ b), none, none] ((defBody s_stays).drop 2) (PD R) := by
    intro hnp
    have s1 : (!(decide ((rAt rows i).ps = []) && holds0 (rAt rows i))) = true := by
      rw [er, Bool.not_eq_true', Bool.and_eq_false_iff]
      by_cases x : ps = []
      · right
        cases q : holds0 ⟨ps, sg, b⟩ with
        | false => rfl
        | true => exact absurd ⟨x, q⟩ hnp
      · left; exact decide_eq_false x
    refine bs_cons (s_for (it_range1 (w_len (w_var 0 rfl ⟨_, rfl, ⟨rows.length, by rw [List.length_map], by omega, ?_⟩⟩) hL) hR) rfl PassesOwn.never)
    rw [nums_range]
    refine forD_ind (fun rest ρ δ => ∃ (pre suf : List Nat) (o5 o6 : Option D), rest = suf.map (fun k : Nat => D.int (k : Int)) ∧ List.range rows.length = pre ++ suf ∧ (∀ k ∈ pre, beats rows k i = false) ∧ ρ = noR ∧
      δ = [some (.lst (rows.map dDr)), some (.int (i : Int)), some (dPts ps), some (.str sg.str), some (dQ b), o5, o6]) ?_ ?_ _ _ _ ⟨[], List.range rows.length, none, none, rfl, rfl, (fun k hk => by cases hk), rfl, rfl⟩
    · rintro ρ δ ⟨pre, suf, o5, o6, e1, e2, hp, rfl, rfl⟩
      have : suf = [] := by cases suf with | nil => rfl | cons _ _ => cases e1
      subst this
      rw [List.append_nil] at e2
      have : stays rows i = true := by
        unfold stays
        rw [s1, Bool.true_and, List.all_eq_true]
        intro k hk
        rw [hp k (by rw [← e2]; exact hk)]; rfl
      rw [this] at r
      exact bs_cons <| s_ret <| w_bl ⟨_, rfl, rfl, r⟩
    · rintro x xs ρ δ ⟨pre, suf, o5, o6, e1, e2, hp, rfl, rfl⟩
      cases suf with
      | nil => cases e1
      | cons j suf =>
        cases e1
        have hjm : j ∈ List.range rows.length := by rw [e2]; simp
        have hj := List.mem_range.mp hjm
        obtain ⟨⟨⟨pj, gj, bj⟩, papj⟩, hdj⟩ : ∃ d : DRw, d = rows.getD j dw0 := ⟨_, rfl⟩
        have ej : (rows.map dDr)[j]? = some (dDr ⟨⟨pj, gj, bj⟩, papj⟩) := by rw [getD_at hj, ← hdj]
        have erj : rAt rows j = ⟨pj, gj, bj⟩ := by rw [rAt_eq, ← hdj]
        have hbj : Sz k k bj := by
          have := hb _ (getD_mem hj)
          rw [← hdj] at this
          exact this
        -- beaten
        have no : beats rows j i = true → R (.bl false) := fun hbt => by
          have : stays rows i = false := by
            unfold stays
            rw [s1, Bool.true_and]
            cases q : (List.range rows.length).all fun k => !beats rows k i with
            | false => rfl
            | true =>
              have := List.all_eq_true.mp q j hjm
              rw [hbt] at this; cases this
          rw [this] at r; exact r
        have go : beats rows j i = false → ∀ o : Option D, ∀ δ, δ = [some (.lst (rows.map dDr)), some (.int (i : Int)), some (dPts ps), some (.str sg.str), some (dQ b), some (.int (j : Int)), o] →
            True ∧ ∃ (pre suf' : List Nat) (o5 o6 : Option D), suf.map (fun k : Nat => D.int (k : Int)) = suf'.map (fun k : Nat => D.int (k : Int)) ∧ List.range rows.length = pre ++ suf' ∧ (∀ k ∈ pre, beats rows k i = false) ∧ noR = noR ∧
            δ = [some (.lst (rows.map dDr)), some (.int (i : Int)), some (dPts ps), some (.str sg.str), some (dQ b), o5, o6] := fun hbt o δ hδ =>
          ⟨trivial, pre ++ [j], suf, some (.int (j : Int)), o, rfl, by rw [e2]; simp, fun k hk => by
            rcases List.mem_append.mp hk with h | h
            · exact hp k h
            · have : k = j := by simpa using h
              rw [this]; exact hbt, rfl, hδ⟩
        have hbe : beats rows j i = (if sg = .eq then decide (j < i) && decide ((⟨pj, gj, bj⟩ : Row) = ⟨ps, sg, b⟩) else decide (pj = ps) && (decide (gj ≠ .eq) && (weaker ⟨ps, sg, b⟩ ⟨pj, gj, bj⟩ || (decide (j < i) && decide ((⟨pj, gj, bj⟩ : Row) = ⟨ps, sg, b⟩))))) := by
          unfold beats
          rw [er, erj]
        refine tg_name 5 (bs_cons (s_set 6 (w_ix <| w_ix <| w_var 0 rfl <| w_var 5 rfl ⟨j, _, _, rfl, rfl, ej, w_int ⟨0, _, dRow ⟨pj, gj, bj⟩, rfl, rfl, rfl, ?_⟩⟩) sc_stays.nd)) sc_stays.nd
        refine bs_If <| wt_cmp <| w_var 3 rfl <| w_str <| opw_eqS ⟨_, rfl, ?_⟩
        rw [str_eq]
        have ltI : decide ((j : Int) < (i : Int)) = decide (j < i) := decide_eq_decide.mpr (by omega)
        by_cases hs : sg = .eq
        · rw [decide_eq_true hs]
          rw [if_pos hs] at hbe
          refine bs_If <| wt_ww <| ww_and <| wt_cmp <| w_var 5 rfl <| w_var 1 rfl <| opw_lt ⟨_, rfl, ?_⟩
          rw [ltI]
          cases q1 : decide (j < i) with
          | false =>
            rw [q1] at hbe
            exact bs_nil <| bs_nil <| bs_nil <| go hbe _ _ rfl
          | true =>
            rw [q1, Bool.true_and] at hbe
            refine ww_and1 <| wt_cmp <| w_var 6 rfl <| rowI rfl rfl <| opw_eqT hu (k := decide ((⟨pj, gj, bj⟩ : Row) = ⟨ps, sg, b⟩)) (by rw [decide_eq_true_eq]; exact dRow_iff.symm) ⟨_, rfl, ?_⟩ (sm_row _) (sm_row _)
            cases q2 : decide ((⟨pj, gj, bj⟩ : Row) = ⟨ps, sg, b⟩) with
            | false => rw [q2] at hbe; exact bs_nil <| bs_nil <| bs_nil <| go hbe _ _ rfl
            | true => rw [q2] at hbe; exact bs_cons <| s_ret <| w_bl ⟨_, rfl, rfl, no hbe⟩
        · rw [decide_eq_false hs]
          rw [if_neg hs] at hbe
          refine bs_If <| wt_ww <| ww_and <| wt_cmp <| w_ixT (d := dPts pj) 6 0 rfl (r := w_var 2 rfl <| opw_eqT hu (k := decide (pj = ps)) (by rw [decide_eq_true_eq]; exact dPts_iff.symm) ⟨_, rfl, ?_⟩ (sm_pts _) (sm_pts _))
          cases q1 : decide (pj = ps) with
          | false => rw [q1] at hbe; exact bs_nil <| bs_nil <| bs_nil <| go hbe _ _ rfl
          | true =>
            rw [q1, Bool.true_and] at hbe
            refine ww_and1 <| wt_cmp <| w_ixT (d := .str gj.str) 6 1 rfl (r := w_str <| opw_neS ⟨_, rfl, ?_⟩)
            rw [str_eq, ← decide_not]
            cases q2 : decide (¬ gj = .eq) with
            | false =>
              rw [show decide (gj ≠ .eq) = false from q2] at hbe
              exact bs_nil <| bs_nil <| bs_nil <| go hbe _ _ rfl
            | true =>
              rw [show decide (gj ≠ .eq) = true from q2, Bool.true_and] at hbe
              refine bs_If <| wt_ww <| ww_or <| wt_val <| w_call Gw hr <| wa_v <| rowI rfl rfl <| wa_v <| w_var 6 rfl <| wa_nil ⟨⟨ps, sg, b⟩, ⟨pj, gj, bj⟩, k, rfl, hbi, hbj, hk, _, rfl, ?_⟩
              cases q3 : weaker ⟨ps, sg, b⟩ ⟨pj, gj, bj⟩ with
              | true => rw [q3] at hbe; exact bs_cons <| s_ret <| w_bl ⟨_, rfl, rfl, no hbe⟩
              | false =>
                rw [q3, Bool.false_or] at hbe
                refine ww_or1 <| wt_ww <| ww_and <| wt_cmp <| w_var 5 rfl <| w_var 1 rfl <| opw_lt ⟨_, rfl, ?_⟩
                rw [ltI]
                cases q4 : decide (j < i) with
                | false =>
                  rw [q4] at hbe
                  exact bs_nil <| bs_nil <| bs_nil <| bs_nil <| go hbe _ _ rfl
                | true =>
                  rw [q4, Bool.true_and] at hbe
                  refine ww_and1 <| wt_cmp <| w_var 6 rfl <| rowI rfl rfl <| opw_eqT hu (k := decide ((⟨pj, gj, bj⟩ : Row) = ⟨ps, sg, b⟩)) (by rw [decide_eq_true_eq]; exact dRow_iff.symm) ⟨_, rfl, ?_⟩ (sm_row _) (sm_row _)
                  cases q5 : decide ((⟨pj, gj, bj⟩ : Row) = ⟨ps, sg, b⟩) with
                  | false => rw [q5] at hbe; exact bs_nil <| bs_nil <| bs_nil <| bs_nil <| go hbe _ _ rfl
                  | true => rw [q5] at hbe; exact bs_cons <| s_ret <| w_bl ⟨_, rfl, rfl, no hbe⟩
  by_cases hp : ps = []
  · rw [decide_eq_true (by rw [hp]; rfl)]
    refine ww_and1 <| wt_val <| w_call Gh hr <| wa_v <| rowI rfl rfl <| wa_v <| w_e0 <| wa_nil ⟨⟨ps, sg, b⟩, k, rfl, hp, hbi, hk, _, rfl, ?_⟩
    cases q : holds0 ⟨ps, sg, b⟩ with
    | false => exact bs_nil (next (by rw [q]; simp))
    | true =>
      have : stays rows i = false := by
        unfold stays
        rw [er, q, decide_eq_true (show ps = [] from hp)]
        rfl
      rw [this] at r
      exact bs_cons <| s_ret <| w_bl ⟨_, rfl, rfl, r⟩
  · rw [decide_eq_false (by rw [List.length_map]; have := List.length_pos_iff.mpr hp; omega)]
    exact bs_nil (next fun z => hp z.1)
end
end LP
set_option maxRecDepth 100000
set_option maxHeartbeats 4000000
/-! Pn16: cleaned, first_equation, false_row, by_equation. -/
namespace LP
open PySem PySem.Spec PyProof.Rows L2
def ByR (rows : List DRw) (u : Str) (e : DRw) (k : Nat) (r : DRw) : Prop := (coef (rAt rows k).ps u = 0 ∧ r = rows.getD k dw0) ∨ (coef (rAt rows k).ps u ≠ 0 ∧ CombOf (rows.getD k dw0) 1 e (-(coef (rAt rows k).ps u / coef e.1.ps u)) r)
def wBy : List D → (List D → Prop) → Prop := fun ds R => ∃ (rows : List DRw) (u : Str) (pl c bn bd mn md : Nat), ds = [.lst (rows.map dDr), .str u, .int (pl : Int)] ∧ pl < rows.length ∧ rows.length ≤ 1000000 ∧ (∀ d ∈ rows, InS c bn bd mn md d) ∧ coef (rAt rows pl).ps u ≠ 0 ∧ 1 ≤ c ∧ c ≤ 65 ∧ bn ≤ 200 ∧ bd ≤ 200 ∧ 1 ≤ mn ∧ mn ≤ 200 ∧ 1 ≤ md ∧ md ≤ 200 ∧
  ∀ made : List DRw, (∀ r ∈ made, ∃ k, k < rows.length ∧ k ≠ pl ∧ ByR rows u (rows.getD pl dw0) k r) → (∀ k, k < rows.length → k ≠ pl → ∃ r ∈ made, ByR rows u (rows.getD pl dw0) k r) → made.length ≤ rows.length → R (made.map dDr)
theorem InS.mono {c bn bd mn md c' : Nat} {d : DRw} (h : InS c bn bd mn md d) (e : c ≤ c') : InS c' bn bd mn md d := ⟨h.cn, h.s.mono e (Nat.le_refl _), h.n, h.b, h.m, h.l, h.asc⟩
theorem InS.coef_sz {c bn bd mn md : Nat} {d : DRw} (h : InS c bn bd mn md d) (c1 : 1 ≤ c) (u : Str) : Sz c 1 (coef d.1.ps u) := by
  by_cases z : coef d.1.ps u = 0
  · rw [z]; exact Sz.zero.mono c1 (Nat.le_refl _)
  · obtain ⟨q, hq, e⟩ := coef_key z
    rw [← e, coef_mem h.cn.nd hq]; exact h.s q hq
section
variable {P : Program} {w : World} {K : PySem.W.Frag} {mg : Str → Option Value} {base : Heap} {f : Addr} {fd : FuncData} {T : Addr}
theorem ok_cleaned (F : Fun K "cleaned" "cleaned" s_cleaned f fd) (Gs : Def P w K mg base 3 "stays" P_stays (spD K wSty)) (hL : mg "len" = none) (hR : mg "range" = none) : FnOk P w K mg base CX0 4 f fd P_cleaned (spL K wCln) := by
  refine okL F sc_cleaned (fun ds R h => by obtain ⟨rows, k, rfl, _⟩ := h; rfl) fun cdv A outer s H E hr ds R h => ?_
  obtain ⟨rows, k, rfl, hn, hb, hk, r⟩ := h
  refine bs_cons <| s_retL <| lcIf (α := Nat) [("k", 1)] 1 sc_cleaned.nd (it_range1 (w_len (w_var 0 rfl ⟨_, rfl, ⟨rows.length, by rw [List.length_map], by omega, ?_⟩⟩) hL) hR)
  refine ⟨by rw [nums_len]; exact le_line (by omega), List.range rows.length, fun k => .int ((k : Nat) : Int), fun k => dDr (rows.getD k dw0), stays rows, nums_range _, fun i hi => ⟨fun s' H' C cl fp => ?_, fun hbi s' H' C cl fp => ?_⟩, ?_⟩
  · exact wt_val <| w_call Gs hr <| wa_v <| w_var 0 rfl <| wa_v <| w_var 1 rfl <| wa_nil ⟨rows, i, k, rfl, List.mem_range.mp hi, hn, hb, hk, _, rfl, rfl⟩
  · exact w_ix <| w_var 0 rfl <| w_var 1 rfl ⟨i, _, _, rfl, rfl, getD_at (List.mem_range.mp hi), rfl⟩
  · refine ⟨_, rfl, flat_map _ (fun _ _ => flat_dr _) _, ?_⟩
    unfold cleanR at r
    rw [List.map_map] at r
    exact r
theorem ok_first_equation (F : Fun K "first_equation" "first_equation" s_first_equation f fd) (Gn : Def P w K mg base 1 "number_in" P_number_in (spD K wNumIn)) (h0 : GD K mg "ZERO" (dQ 0)) (hL : mg "len" = none) (hR : mg "range" = none) : FnOk P w K mg base CX0 2 f fd P_first_equation (spD K wFst) := by
  refine okD F sc_first_equation (fun ds R h => by obtain ⟨rows, u, rfl, _⟩ := h; rfl) fun cdv A outer s H E hr ds R h => ?_
  obtain ⟨rows, u, rfl, hn, hc, r1, r2⟩ := h
  have hu := hr.units
  refine bs_cons (s_for (it_range1 (w_len (w_var 0 rfl ⟨_, rfl, ⟨rows.length, by rw [List.length_map], by omega, ?_⟩⟩) hL) hR) rfl PassesOwn.never)
  rw [nums_range]
  refine forD_ind (fun rest ρ δ => ∃ (pre suf : List Nat) (o2 : Option D), rest = suf.map (fun k : Nat => D.int (k : Int)) ∧ List.range rows.length = pre ++ suf ∧ (∀ k ∈ pre, coef (rAt rows k).ps u ≠ 0 → (rAt rows k).sg ≠ .eq) ∧ ρ = noR ∧ δ = [some (.lst (rows.map dDr)), some (.str u), o2]) ?_ ?_ _ _ _ ⟨[], List.range rows.length, none, rfl, rfl, (fun k hk => by cases hk), rfl, rfl⟩
  · rintro ρ δ ⟨pre, suf, o2, e1, e2, hp, rfl, rfl⟩
    have : suf = [] := by cases suf with | nil => rfl | cons _ _ => cases e1
    subst this
    rw [List.append_nil] at e2
    refine bs_cons <| s_ret <| w_non ⟨_, rfl, rfl, r2 fun d hd => ?_⟩
    obtain ⟨i, hi, e⟩ := List.getElem_of_mem hd
    have := hp i (by rw [← e2]; exact List.mem_range.mpr hi)
    rw [rAt_eq, List.getD_eq_getElem?_getD, List.getElem?_eq_getElem hi, e] at this
    exact this
  · rintro x xs ρ δ ⟨pre, suf, o2, e1, e2, hp, rfl, rfl⟩
    cases suf with
    | nil => cases e1
    | cons j suf =>
      cases e1
      have hj := List.mem_range.mp (show j ∈ List.range rows.length by rw [e2]; simp)
      obtain ⟨⟨⟨pj, gj, bj⟩, papj⟩, hdj⟩ : ∃ d : DRw, d = rows.getD j dw0 := ⟨_, rfl⟩
      have ej : (rows.map dDr)[j]? = some (dDr ⟨⟨pj, gj, bj⟩, papj⟩) := by rw [getD_at hj, ← hdj]
      have erj : rAt rows j = ⟨pj, gj, bj⟩ := by rw [rAt_eq, ← hdj]
      have cj : Canon pj := by
        have := hc _ (getD_mem hj)
        rw [← hdj] at this
        exact this
      have go : ((rAt rows j).sg = .eq → coef (rAt rows j).ps u = 0) → True ∧ ∃ (pre suf' : List Nat) (o2 : Option D), suf.map (fun k : Nat => D.int (k : Int)) = suf'.map (fun k : Nat => D.int (k : Int)) ∧ List.range rows.length = pre ++ suf' ∧ (∀ k ∈ pre, coef (rAt rows k).ps u ≠ 0 → (rAt rows k).sg ≠ .eq) ∧ noR = noR ∧
          [some (.lst (rows.map dDr)), some (.str u), some (.int (j : Int))] = [some (.lst (rows.map dDr)), some (.str u), o2] := fun hz => ⟨trivial, pre ++ [j], suf, _, rfl, by rw [e2]; simp, fun k hk => by
            rcases List.mem_append.mp hk with h | h
            · exact hp k h
            · have : k = j := by simpa using h
              rw [this]; exact fun c0 s0 => c0 (hz s0), rfl, rfl⟩
      refine tg_name 2 (bs_If <| wt_ww <| ww_and <| wt_cmp <| w_ix <| w_ix <| w_ix <| w_var 0 rfl <| w_var 2 rfl ⟨j, _, _, rfl, rfl, ej, w_int ⟨0, _, dRow ⟨pj, gj, bj⟩, rfl, rfl, rfl, w_int ⟨1, _, .str gj.str, rfl, rfl, rfl, w_str <| opw_eqS ⟨_, rfl, ?_⟩⟩⟩⟩) sc_first_equation.nd
      rw [str_eq]
      by_cases hs : gj = .eq
      · rw [decide_eq_true hs]
        refine ww_and1 <| wt_cmp <| w_call Gn hr <| wa_v <| w_ix <| w_ix <| w_var 0 rfl <| w_var 2 rfl ⟨j, _, _, rfl, rfl, ej, w_int ⟨0, _, dRow ⟨pj, gj, bj⟩, rfl, rfl, rfl, wa_v <| w_var 1 rfl <| wa_nil ⟨⟨pj, gj, bj⟩, u, rfl, cj, w_gd h0 <| opw_neT hu (k := decide (coef pj u = 0)) (by rw [decide_eq_true_eq]; exact dQ_iff.symm) ⟨_, rfl, ?_⟩⟩⟩⟩
        by_cases hz : coef pj u = 0
        · rw [decide_eq_true hz]
          exact bs_nil <| bs_nil <| go fun _ => by rw [erj]; exact hz
        · rw [decide_eq_false hz]
          exact bs_cons <| s_ret <| w_var 2 rfl ⟨_, rfl, rfl, r1 j hj (by rw [erj]; exact hs) (by rw [erj]; exact hz)⟩
      · rw [decide_eq_false hs]
        exact bs_nil <| bs_nil <| go fun z => absurd (by rw [erj] at z; exact z) hs
theorem ok_false_row (F : Fun K "false_row" "false_row" s_false_row f fd) (Gh : Def P w K mg base 2 "holds" P_holds (spD K wHol)) (hL : mg "len" = none) : FnOk P w K mg base CX0 3 f fd P_false_row (spD K wFal) := by
  refine okD F sc_false_row (fun ds R h => by obtain ⟨rows, k, rfl, _⟩ := h; rfl) fun cdv A outer s H E hr ds R h => ?_
  obtain ⟨rows, k, rfl, hn, hb, hk, r1, r2⟩ := h
  refine bs_cons (s_for (it_old <| w_var 0 rfl ⟨_, .inl rfl, ?_⟩) rfl PassesOwn.never)
  refine forD_ind (fun rest ρ δ => ∃ (pre suf : List DRw) (o : Option D), rest = suf.map dDr ∧ rows = pre ++ suf ∧ (∀ d ∈ pre, d.1.ps = [] → holds0 d.1 = true) ∧ ρ = noR ∧ δ = [some (.lst (rows.map dDr)), o]) ?_ ?_ _ _ _ ⟨[], rows, none, rfl, rfl, (fun d hd => by cases hd), rfl, rfl⟩
  · rintro ρ δ ⟨pre, suf, o, e1, e2, hp, rfl, rfl⟩
    have : suf = [] := by cases suf with | nil => rfl | cons _ _ => cases e1
    subst this
    rw [List.append_nil] at e2
    subst e2
    exact bs_cons <| s_ret <| w_non ⟨_, rfl, rfl, r2 hp⟩
  · rintro x xs ρ δ ⟨pre, suf, o, e1, e2, hp, rfl, rfl⟩
    cases suf with
    | nil => cases e1
    | cons d suf =>
      cases e1
      obtain ⟨⟨ps, sg, b⟩, pap⟩ := d
      have hm : (⟨⟨ps, sg, b⟩, pap⟩ : DRw) ∈ rows := by rw [e2]; simp
      have hbd : Sz k k b := hb _ hm
      have go : (ps = [] → holds0 ⟨ps, sg, b⟩ = true) → True ∧ ∃ (pre suf' : List DRw) (o : Option D), suf.map dDr = suf'.map dDr ∧ rows = pre ++ suf' ∧ (∀ d ∈ pre, d.1.ps = [] → holds0 d.1 = true) ∧ noR = noR ∧ [some (.lst (rows.map dDr)), some (dDr ⟨⟨ps, sg, b⟩, pap⟩)] = [some (.lst (rows.map dDr)), o] := fun hz =>
        ⟨trivial, pre ++ [⟨⟨ps, sg, b⟩, pap⟩], suf, _, rfl, by rw [e2]; simp, fun d hd => by
          rcases List.mem_append.mp hd with h | h
          · exact hp d h
          · have : d = ⟨⟨ps, sg, b⟩, pap⟩ := by simpa using h
            rw [this]; exact hz, rfl, rfl⟩
      refine tg_name 1 (bs_If <| wt_ww <| ww_and <| wt_cmp <| w_len (w_ix <| w_ixT (d := dRow ⟨ps, sg, b⟩) 1 0 rfl (r := w_int ⟨0, _, dPts ps, rfl, rfl, rfl, ps.map dPt, rfl, w_int <| opw_eqI ⟨_, rfl, ?_⟩⟩)) hL) sc_false_row.nd
      by_cases hps : ps = []
      · rw [decide_eq_true (by rw [hps]; rfl)]
        refine ww_and1 <| wt_not <| wt_val <| w_call Gh hr <| wa_v <| w_ixT (d := dRow ⟨ps, sg, b⟩) 1 0 rfl (r := wa_v <| w_e0 <| wa_nil ⟨⟨ps, sg, b⟩, k, rfl, hps, hbd, hk, _, rfl, ?_⟩)
        cases q : holds0 ⟨ps, sg, b⟩ with
        | true => exact bs_nil <| bs_nil <| go fun _ => q
        | false => exact bs_cons <| s_ret <| w_var 1 rfl ⟨_, rfl, flat_dr ⟨⟨ps, sg, b⟩, pap⟩, r1 _ hm hps q⟩
      · rw [decide_eq_false (by rw [List.length_map]; have := List.length_pos_iff.mpr hps; omega)]
        exact bs_nil <| bs_nil <| go fun z => absurd z hps
theorem ok_by_equation (F : Fun K "by_equation" "by_equation" s_by_equation f fd) (Gn : Def P w K mg base 1 "number_in" P_number_in (spD K wNumIn)) (Gc : Def P w K mg base 6 "combined" P_combined (spT T (spD K wComb))) (Go : Def P w K mg base 1 "opposite" P_opposite (spD K wOpp)) (Gv : Def P w K mg base 3 "over" P_over (spD K wOver))
    (h0 : GD K mg "ZERO" (dQ 0)) (h1 : GD K mg "ONE" (dQ 1)) (hL : mg "len" = none) (hR : mg "range" = none) : FnOk P w K mg base CX0 7 f fd P_by_equation (spT T (spL K wBy)) := by
  refine okLT F sc_by_equation (fun ds R h => by obtain ⟨rows, u, pl, c, bn, bd, mn, md, rfl, _⟩ := h; rfl) fun cdv A outer s H E hT hr ds R h => ?_
  obtain ⟨rows, u, pl, c, bn, bd, mn, md, rfl, hpl, hn, hin, hb0, c1, c2, b1, b2, m1, m2, m3, m4, r⟩ := h
  have hu := hr.units
  have r1 := hr.mono (show 1 ≤ 6 by decide)
  have r3 := hr.mono (show 3 ≤ 6 by decide)
  obtain ⟨e, he⟩ : ∃ e : DRw, e = rows.getD pl dw0 := ⟨_, rfl⟩
  rw [← he] at r
  have ee : (rows.map dDr)[pl]? = some (dDr e) := by rw [getD_at hpl, ← he]
  have ie : InS c bn bd mn md e := by rw [he]; exact hin _ (getD_mem hpl)
  have hb0 : coef e.1.ps u ≠ 0 := by rw [he]; exact hb0
  refine bs_cons (s_set 3 (w_ix <| w_var 0 rfl <| w_var 2 rfl ⟨pl, _, _, rfl, rfl, ee, ?_⟩) sc_by_equation.nd)
  refine bs_cons (s_set 4 (w_call Gn r1 <| wa_v <| w_ixT (xs := [dRow e.1, dPap e.2]) (d := dRow e.1) 3 0 rfl (r := wa_v <| w_var 1 rfl <| wa_nil ⟨e.1, u, rfl, ie.cn, ?_⟩)) sc_by_equation.nd)
  refine bs_cons (s_setL 5 (wl_lst <| wi_nil ⟨by decide, fun A1 hA1 => ?_⟩) sc_by_equation.nd)
  refine bs_cons (s_for (it_range1 (w_len (w_var 0 rfl ⟨_, rfl, ⟨rows.length, by rw [List.length_map], by omega, ?_⟩⟩) hL) hR) rfl PassesOwn.never)
  rw [nums_range]
  refine forD_ind (fun rest ρ δ => ∃ (pre suf : List Nat) (made : List DRw) (o6 o7 : Option D), rest = suf.map (fun k : Nat => D.int (k : Int)) ∧ List.range rows.length = pre ++ suf ∧ (∀ r ∈ made, ∃ k, k < rows.length ∧ k ≠ pl ∧ ByR rows u e k r) ∧ (∀ k ∈ pre, k ≠ pl → ∃ r ∈ made, ByR rows u e k r) ∧ made.length ≤ pre.length ∧ ρ = put noR A1 (.L (made.map dDr)) ∧
    δ = [some (.lst (rows.map dDr)), some (.str u), some (.int (pl : Int)), some (dDr e), some (dQ (coef e.1.ps u)), some (.obj A1), o6, o7]) ?_ ?_ _ _ _ ⟨[], List.range rows.length, [], none, none, rfl, rfl, (fun r hr => by cases hr), (fun k hk => by cases hk), Nat.le_refl _, rfl, rfl⟩
  · rintro ρ δ ⟨pre, suf, made, o6, o7, e1, e2, p1, p2, p3, rfl, rfl⟩
    have : suf = [] := by cases suf with | nil => rfl | cons _ _ => cases e1
    subst this
    rw [List.append_nil] at e2
    refine bs_cons <| s_retO <| w_var 5 rfl ⟨A1, _, rfl, put_same, _, rfl, flat_drs _, r made p1 (fun k hk hne => p2 k (by rw [← e2]; exact List.mem_range.mpr hk) hne) ?_⟩
    have := congrArg List.length e2
    rw [List.length_range] at this
    omega
  · rintro x xs ρ δ ⟨pre, suf, made, o6, o7, e1, e2, p1, p2, p3, rfl, rfl⟩
    cases suf with
    | nil => cases e1
    | cons j suf =>
      cases e1
      have hj := List.mem_range.mp (show j ∈ List.range rows.length by rw [e2]; simp)
      obtain ⟨d, hd⟩ : ∃ d : DRw, d = rows.getD j dw0 := ⟨_, rfl⟩
      have ej : (rows.map dDr)[j]? = some (dDr d) := by rw [getD_at hj, ← hd]
      have idd : InS c bn bd mn md d := by rw [hd]; exact hin _ (getD_mem hj)
      have erj : rAt rows j = d.1 := by rw [rAt_eq, ← hd]
      have prelen : pre.length < rows.length := by
        have := congrArg List.length e2
        rw [List.length_range, List.length_append, List.length_cons] at this
        omega
      have key : ∀ (rr : DRw), j ≠ pl → ByR rows u e j rr → ∀ o : Option D, True ∧ ∃ (pre suf' : List Nat) (made' : List DRw) (o6 o7 : Option D), suf.map (fun k : Nat => D.int (k : Int)) = suf'.map (fun k : Nat => D.int (k : Int)) ∧ List.range rows.length = pre ++ suf' ∧ (∀ r ∈ made', ∃ k, k < rows.length ∧ k ≠ pl ∧ ByR rows u e k r) ∧ (∀ k ∈ pre, k ≠ pl → ∃ r ∈ made', ByR rows u e k r) ∧ made'.length ≤ pre.length ∧
          put noR A1 (.L (made.map dDr ++ [dDr rr])) = put noR A1 (.L (made'.map dDr)) ∧ [some (.lst (rows.map dDr)), some (.str u), some (.int (pl : Int)), some (dDr e), some (dQ (coef e.1.ps u)), some (.obj A1), some (.int (j : Int)), o] = [some (.lst (rows.map dDr)), some (.str u), some (.int (pl : Int)), some (dDr e), some (dQ (coef e.1.ps u)), some (.obj A1), o6, o7] := fun rr hne hby o =>
        ⟨trivial, pre ++ [j], suf, made ++ [rr], _, _, rfl, by rw [e2]; simp, fun r hr => by
          rcases List.mem_append.mp hr with h | h
          · exact p1 r h
          · have : r = rr := by simpa using h
            rw [this]; exact ⟨j, hj, hne, hby⟩, fun k hk hkp => by
          rcases List.mem_append.mp hk with h | h
          · obtain ⟨r, h1, h2⟩ := p2 k h hkp
            exact ⟨r, List.mem_append_left _ h1, h2⟩
          · have : k = j := by simpa using h
            rw [this]; exact ⟨rr, by simp, hby⟩, by rw [List.length_append, List.length_append]; simp; omega, by rw [List.map_append]; rfl, rfl⟩
      refine tg_name 6 (bs_cons (s_set 7 (w_call Gn r1 <| wa_v <| w_ix <| w_ix <| w_var 0 rfl <| w_var 6 rfl ⟨j, _, _, rfl, rfl, ej, w_int ⟨0, [dRow d.1, dPap d.2], dRow d.1, rfl, rfl, rfl, wa_v <| w_var 1 rfl <| wa_nil ⟨d.1, u, rfl, idd.cn, ?_⟩⟩⟩) sc_by_equation.nd)) sc_by_equation.nd
      refine bs_If <| wt_ww <| ww_and <| wt_cmp <| w_var 6 rfl <| w_var 2 rfl <| opw_neI ⟨_, rfl, ?_⟩
      by_cases hne : (j : Int) = (pl : Int)
      · rw [decide_eq_true hne]
        have hjp : j = pl := by omega
        refine bs_If <| wt_cmp <| w_var 6 rfl <| w_var 2 rfl <| opw_neI ⟨_, rfl, ?_⟩
        rw [decide_eq_true hne]
        refine bs_nil <| bs_nil <| bs_nil ⟨trivial, pre ++ [j], suf, made, _, _, rfl, by rw [e2]; simp, p1, fun k hk hkp => ?_, by rw [List.length_append]; omega, rfl, rfl⟩
        rcases List.mem_append.mp hk with h | h
        · exact p2 k h hkp
        · have : k = j := by simpa using h
          exact absurd (this.trans hjp) hkp
      · rw [decide_eq_false hne]
        have hjp : j ≠ pl := fun z => hne (by rw [z])
        refine ww_and1 <| wt_cmp <| w_var 7 rfl <| w_gd h0 <| opw_eqT hu (k := decide (coef d.1.ps u = 0)) (by rw [decide_eq_true_eq]; exact dQ_iff.symm) ⟨_, rfl, ?_⟩
        by_cases hz : coef d.1.ps u = 0
        · rw [decide_eq_true hz]
          refine bs_cons (s_append (w_var 5 rfl rfl) put_same (w_ix <| w_var 0 rfl <| w_var 6 rfl ⟨j, _, _, rfl, rfl, ej, ?_, ?_⟩))
          · rw [List.length_map]; exact lt_line (by omega)
          · rw [put_put]
            exact bs_nil <| bs_nil <| key d hjp (.inl ⟨by rw [erj]; exact hz, hd⟩) _
        · rw [decide_eq_false hz]
          have zc : Sz c 1 (coef d.1.ps u) := idd.coef_sz c1 u
          have ze : Sz c 1 (coef e.1.ps u) := ie.coef_sz c1 u
          refine bs_If <| wt_cmp <| w_var 6 rfl <| w_var 2 rfl <| opw_neI ⟨_, rfl, ?_⟩
          rw [decide_eq_false hne]
          refine bs_cons (s_append (w_var 5 rfl rfl) put_same (w_callT hT Gc hr <| wa_v <| w_ix <| w_var 0 rfl <| w_var 6 rfl ⟨j, _, _, rfl, rfl, ej, wa_v <| w_gd h1 <| wa_v <| w_var 3 rfl <| wa_v <| w_call Go r1 <| wa_v <| w_call Gv r3 <| wa_v <| w_var 7 rfl <| wa_v <| w_var 4 rfl <| wa_nil ⟨coef d.1.ps u, coef e.1.ps u, c, 1, c, 1, rfl, zc, ze, hb0, by omega, by omega, by omega,
            wa_nil ⟨_, rfl, wa_nil ⟨d, e, 1, _, c + 1, bn, bd, mn, md, rfl, idd.mono (by omega), ie.mono (by omega), Sz.one.mono (by omega) (by omega), ((zc.div ze hb0).neg).mono (by omega) (by omega), by omega, by omega, b1, b2, m1, m2, m3, m4, fun res hres => ⟨?_, ?_⟩⟩⟩⟩⟩))
          · rw [List.length_map]; exact lt_line (by omega)
          · rw [put_put]
            exact bs_nil <| bs_nil <| bs_nil <| key res hjp (.inr ⟨by rw [erj]; exact hz, by rw [erj, ← hd]; exact hres⟩) _
end
end LP
set_option maxRecDepth 100000
set_option maxHeartbeats 4000000
/-! Pn17: eliminated. -/
namespace LP
open PySem PySem.Spec PyProof.Rows L2
def ElR (c : Nat) (rows : List DRw) (u : Str) (r : DRw) : Prop := (r ∈ rows ∧ coef r.1.ps u = 0) ∨ ∃ a b : DRw, ∃ one other : Rat, a ∈ rows ∧ b ∈ rows ∧ Sz (c + 1) (c + 1) one ∧ Sz (c + 1) (c + 1) other ∧ 0 < one ∧ (0 < other ∨ b.1.sg = .eq) ∧ CombOf a one b other r ∧ coef (total a.1 one b.1 other).ps u = 0
def wElm : List D → (List D → Prop) → Prop := fun ds R => ∃ (rows : List DRw) (u : Str) (c bn bd mn md : Nat), ds = [.lst (rows.map dDr), .str u] ∧ rows.length ≤ 1000 ∧ (∀ d ∈ rows, InS c bn bd mn md d) ∧ 1 ≤ c ∧ c ≤ 65 ∧ bn ≤ 200 ∧ bd ≤ 200 ∧ 1 ≤ mn ∧ mn ≤ 200 ∧ 1 ≤ md ∧ md ≤ 200 ∧
  ∀ made : List DRw, (∀ r ∈ made, ElR c rows u r) → Keepp u rows made → 4 * made.length ≤ 4 * rows.length + rows.length * rows.length → R (made.map dDr)
theorem four_ab (a b : Nat) : 4 * (a * b) ≤ (a + b) * (a + b) := by
  rcases Nat.le_total a b with h | h
  · obtain ⟨c, rfl⟩ := Nat.exists_eq_add_of_le h
    have e1 : a * (a + c) = a * a + a * c := Nat.mul_add ..
    have e2 : (a + (a + c)) * (a + (a + c)) = 4 * (a * a) + 4 * (a * c) + c * c := by
      rw [show a + (a + c) = 2 * a + c by omega, Nat.add_mul, Nat.mul_add, Nat.mul_add]
      have x1 : 2 * a * (2 * a) = 4 * (a * a) := by rw [Nat.mul_mul_mul_comm]
      have x2 : 2 * a * c = 2 * (a * c) := Nat.mul_assoc ..
      have x3 : c * (2 * a) = 2 * (a * c) := by rw [Nat.mul_comm, Nat.mul_assoc]
      omega
    omega
  · obtain ⟨c, rfl⟩ := Nat.exists_eq_add_of_le h
    have e1 : (b + c) * b = b * b + b * c := by rw [Nat.add_mul, Nat.mul_comm c]
    have e2 : ((b + c) + b) * ((b + c) + b) = 4 * (b * b) + 4 * (b * c) + c * c := by
      rw [show b + c + b = 2 * b + c by omega, Nat.add_mul, Nat.mul_add, Nat.mul_add]
      have x1 : 2 * b * (2 * b) = 4 * (b * b) := by rw [Nat.mul_mul_mul_comm]
      have x2 : 2 * b * c = 2 * (b * c) := Nat.mul_assoc ..
      have x3 : c * (2 * b) = 2 * (b * c) := by rw [Nat.mul_comm, Nat.mul_assoc]
      omega
    omega
theorem neg_inv {b : Rat} (h : b ≠ 0) : -1 / b = 1 / -b := by
  have h' : -b ≠ 0 := fun z => h (by grind)
  have e1 : -1 / b * b = -1 := by rw [Rat.div_def, Rat.mul_assoc, Rat.inv_mul_cancel _ h]; grind
  have e2 : 1 / -b * -b = 1 := by rw [Rat.div_def, Rat.mul_assoc, Rat.inv_mul_cancel _ h']; grind
  have e3 : b * (-1 / b - 1 / -b) = 0 := by grind
  rcases Rat.mul_eq_zero.mp e3 with z | z
  · exact absurd z h
  · grind
def isZ (u : Str) (d : DRw) : Bool := decide (coef d.1.ps u = 0)
def isP (u : Str) (d : DRw) : Bool := decide (0 < coef d.1.ps u)
def isN (u : Str) (d : DRw) : Bool := decide (coef d.1.ps u < 0)
theorem three (u : Str) : ∀ rows : List DRw, (rows.filter (isZ u)).length + (rows.filter (isP u)).length + (rows.filter (isN u)).length ≤ rows.length
  | [] => by simp
  | d :: rows => by
    have := three u rows
    rw [List.filter_cons, List.filter_cons, List.filter_cons, List.length_cons]
    unfold isZ isP isN at *
    by_cases h1 : coef d.1.ps u = 0
    · have h2 : ¬ 0 < coef d.1.ps u := by rw [h1]; exact Rat.lt_irrefl
      have h3 : ¬ coef d.1.ps u < 0 := by rw [h1]; exact Rat.lt_irrefl
      simp [h1, Rat.lt_irrefl]
      omega
    · by_cases h2 : 0 < coef d.1.ps u
      · have h3 : ¬ coef d.1.ps u < 0 := by grind
        simp [h1, h2, h3]
        omega
      · simp [h1, h2]
        by_cases h3 : coef d.1.ps u < 0
        · simp [h3]; omega
        · simp [h3]; omega
theorem made_len {z a b n m : Nat} (h : z + a + b ≤ n) (g : m ≤ z + a * b) : 4 * m ≤ 4 * n + n * n := by
  have h1 := four_ab a b
  have h2 : (a + b) * (a + b) ≤ n * n := Nat.mul_le_mul (by omega) (by omega)
  omega
section
variable {P : Program} {w : World} {K : PySem.W.Frag} {mg : Str → Option Value} {base : Heap} {f : Addr} {fd : FuncData} {T : Addr}
theorem ok_eliminated (F : Fun K "eliminated" "eliminated" s_eliminated f fd) (Gf : Def P w K mg base 2 "first_equation" P_first_equation (spD K wFst)) (Gb : Def P w K mg base 7 "by_equation" P_by_equation (spT T (spL K wBy))) (Gn : Def P w K mg base 1 "number_in" P_number_in (spD K wNumIn)) (Gk : Def P w K mg base 1 "compare" P_compare (spD K wCmp))
    (Gc : Def P w K mg base 6 "combined" P_combined (spT T (spD K wComb))) (Gv : Def P w K mg base 3 "over" P_over (spD K wOver))
    (h0 : GD K mg "ZERO" (dQ 0)) (h1 : GD K mg "ONE" (dQ 1)) : FnOk P w K mg base CX0 8 f fd P_eliminated (spT T (spL K wElm)) := by
  refine okLT F sc_eliminated (fun ds R h => by obtain ⟨rows, u, c, bn, bd, mn, md, rfl, _⟩ := h; rfl) fun cdv A outer s H E hT hr ds R h => ?_
  obtain ⟨rows, u, c, bn, bd, mn, md, rfl, hn, hin, c1, c2, b1, b2, m1, m2, m3, m4, r⟩ := h
  have hu := hr.units
  have r1 := hr.mono (show 1 ≤ 7 by decide)
  have r2 := hr.mono (show 2 ≤ 7 by decide)
  have r3 := hr.mono (show 3 ≤ 7 by decide)
  have r6 := hr.mono (show 6 ≤ 7 by decide)
  refine bs_cons (s_set 2 (w_call Gf r2 <| wa_v <| w_var 0 rfl <| wa_v <| w_var 1 rfl <| wa_nil ⟨rows, u, rfl, by omega, fun d hd => (hin d hd).cn, fun pl hpl hs hc => ?_, fun hne => ?_⟩) sc_eliminated.nd)
  · -- an equation
    refine bs_If <| wt_cmp <| w_var 2 rfl <| w_non <| opw_notN ⟨_, rfl, ?_⟩
    refine bs_cons <| s_retL <| wl_callT hT Gb hr <| wa_v <| w_var 0 rfl <| wa_v <| w_var 1 rfl <| wa_v <| w_var 2 rfl <| wa_nil ⟨rows, u, pl, c, bn, bd, mn, md, rfl, hpl, by omega, hin, hc, c1, c2, b1, b2, m1, m2, m3, m4, fun made p1 p2 p3 => ?_⟩
    have hem : rows.getD pl dw0 ∈ rows := getD_mem hpl
    refine ⟨_, rfl, flat_drs _, r made (fun x hx => ?_) ?_ (by have := Nat.zero_le (rows.length * rows.length); omega)⟩
    · obtain ⟨k, hk, hkp, hb | hb⟩ := p1 x hx
      · left
        rw [hb.2]
        exact ⟨getD_mem hk, hb.1⟩
      · right
        have zc : Sz c 1 (coef (rAt rows k).ps u) := (hin _ (getD_mem hk)).coef_sz c1 u
        have ze : Sz c 1 (coef (rows.getD pl dw0).1.ps u) := (hin _ hem).coef_sz c1 u
        refine ⟨rows.getD k dw0, rows.getD pl dw0, 1, _, getD_mem hk, hem, Sz.one.mono (by omega) (by omega), ((zc.div ze hc).neg).mono (by omega) (by omega), by decide, .inr hs, hb.2, ?_⟩
        rw [total_coef, Rat.div_def]
        have e1 : (coef (rows.getD pl dw0).1.ps u)⁻¹ * coef (rows.getD pl dw0).1.ps u = 1 := Rat.inv_mul_cancel _ hc
        have e2 : coef (rAt rows k).ps u = coef (rows.getD k dw0).1.ps u := rfl
        rw [e2]
        have h4 : -(coef (rows.getD k dw0).1.ps u * (coef (rows.getD pl dw0).1.ps u)⁻¹) * coef (rows.getD pl dw0).1.ps u = - (coef (rows.getD k dw0).1.ps u * ((coef (rows.getD pl dw0).1.ps u)⁻¹ * coef (rows.getD pl dw0).1.ps u)) := by grind
        rw [h4, e1]; grind
    · refine keep_eq hem hs hc fun d hd => ?_
      obtain ⟨k, hk, e⟩ := List.getElem_of_mem hd
      have ed : rows.getD k dw0 = d := by rw [List.getD_eq_getElem?_getD, List.getElem?_eq_getElem hk, e]; rfl
      by_cases hkp : k = pl
      · left; rw [← ed, hkp]
      · right
        obtain ⟨x, hx, hb | hb⟩ := p2 k hk hkp
        · left
          rw [rAt_eq, ed] at hb
          exact ⟨hb.1, by rw [← hb.2]; exact hx⟩
        · right
          rw [rAt_eq, ed] at hb
          exact ⟨hb.1, x, hx, hb.2.row⟩
  · -- no equation
    refine bs_If <| wt_cmp <| w_var 2 rfl <| w_non <| opw_notN ⟨_, rfl, ?_⟩
    refine bs_nil <| bs_cons (LC.set 3 sc_eliminated.nd (lcIf' (α := DRw) [("some", 10)] 10 sc_eliminated.nd (it_old <| w_var 0 rfl ⟨_, .inl rfl, ?_⟩)))
    refine ⟨by rw [List.length_map]; exact le_line (by omega), rows, dDr, dDr, isZ u, rfl, fun d hd => ⟨fun s' H' C cl fp => ?_, fun hb s' H' C cl fp => w_var 10 rfl rfl⟩, fun A1 hA1 => ?_⟩
    · exact wt_cmp <| w_call Gn r1 <| wa_v <| w_ixT (xs := [dRow d.1, dPap d.2]) (d := dRow d.1) 10 0 rfl (r := wa_v <| w_var 1 rfl <| wa_nil ⟨d.1, u, rfl, (hin d hd).cn, w_gd h0 <| opw_eqT hu (k := isZ u d) (by unfold isZ; rw [decide_eq_true_eq]; exact dQ_iff.symm) ⟨_, rfl, rfl⟩⟩)
    have csz : ∀ d ∈ rows, Sz (c + 1) (c + 1) (coef d.1.ps u) := fun d hd => ((hin d hd).coef_sz c1 u).mono (by omega) (by omega)
    refine bs_cons (LC.set 4 sc_eliminated.nd (lcIf' (α := DRw) [("some", 10)] 10 sc_eliminated.nd (it_old <| w_var 0 rfl ⟨_, .inl rfl, ?_⟩)))
    refine ⟨by rw [List.length_map]; exact le_line (by omega), rows, dDr, dDr, isP u, rfl, fun d hd => ⟨fun s' H' C cl fp => ?_, fun hb s' H' C cl fp => w_var 10 rfl rfl⟩, fun A2 hA2 => ?_⟩
    · refine wt_cmp <| w_call Gk r1 <| wa_v <| w_call Gn r1 <| wa_v <| w_ixT (xs := [dRow d.1, dPap d.2]) (d := dRow d.1) 10 0 rfl (r := wa_v <| w_var 1 rfl <| wa_nil ⟨d.1, u, rfl, (hin d hd).cn, wa_v <| w_gd h0 <| wa_nil ⟨_, 0, c + 1, rfl, csz d hd, Sz.zero.mono (by omega) (by omega), by omega, w_int <| opw_gt ⟨_, rfl, ?_⟩⟩⟩)
      exact decide_eq_decide.mpr (cmpQ_gt _ 0)
    refine bs_cons (LC.set 5 sc_eliminated.nd (lcIf' (α := DRw) [("some", 10)] 10 sc_eliminated.nd (it_old <| w_var 0 rfl ⟨_, .inl rfl, ?_⟩)))
    refine ⟨by rw [List.length_map]; exact le_line (by omega), rows, dDr, dDr, isN u, rfl, fun d hd => ⟨fun s' H' C cl fp => ?_, fun hb s' H' C cl fp => w_var 10 rfl rfl⟩, fun A3 hA3 => ?_⟩
    · refine wt_cmp <| w_call Gk r1 <| wa_v <| w_call Gn r1 <| wa_v <| w_ixT (xs := [dRow d.1, dPap d.2]) (d := dRow d.1) 10 0 rfl (r := wa_v <| w_var 1 rfl <| wa_nil ⟨d.1, u, rfl, (hin d hd).cn, wa_v <| w_gd h0 <| wa_nil ⟨_, 0, c + 1, rfl, csz d hd, Sz.zero.mono (by omega) (by omega), by omega, w_int <| opw_lt ⟨_, rfl, ?_⟩⟩⟩)
      exact decide_eq_decide.mpr (cmpQ_lt _ 0)
    have n12 : A1 ≠ A2 := fun e => by subst e; rw [put_same] at hA2; cases hA2
    have n13 : A1 ≠ A3 := fun e => by subst e; rw [put_ne n12, put_same] at hA3; cases hA3
    have n23 : A2 ≠ A3 := fun e => by subst e; rw [put_same] at hA3; cases hA3
    obtain ⟨ab, hab⟩ : ∃ ab, ab = rows.filter (isP u) := ⟨_, rfl⟩
    obtain ⟨be, hbe⟩ : ∃ be, be = rows.filter (isN u) := ⟨_, rfl⟩
    obtain ⟨zz, hzz⟩ : ∃ zz, zz = rows.filter (isZ u) := ⟨_, rfl⟩
    have hthree := three u rows
    rw [← hab, ← hbe, ← hzz] at hthree
    rw [← hab, ← hbe, ← hzz]
    have abm : ∀ d, d ∈ ab ↔ d ∈ rows ∧ 0 < coef d.1.ps u := fun d => by rw [hab, List.mem_filter]; unfold isP; rw [decide_eq_true_eq]
    have bem : ∀ d, d ∈ be ↔ d ∈ rows ∧ coef d.1.ps u < 0 := fun d => by rw [hbe, List.mem_filter]; unfold isN; rw [decide_eq_true_eq]
    have zzm : ∀ d, d ∈ zz ↔ d ∈ rows ∧ coef d.1.ps u = 0 := fun d => by rw [hzz, List.mem_filter]; unfold isZ; rw [decide_eq_true_eq]
    let Pr : DRw → DRw → DRw → Prop := fun a b x => CombOf a (1 / coef a.1.ps u) b (-1 / coef b.1.ps u) x
    have good : ∀ a b x, a ∈ ab → b ∈ be → Pr a b x → ElR c rows u x := fun a b x ha hb hx => by
      obtain ⟨ha1, ha2⟩ := (abm a).mp ha
      obtain ⟨hb1, hb2⟩ := (bem b).mp hb
      have za := (hin a ha1).coef_sz c1 u
      have zb := (hin b hb1).coef_sz c1 u
      have na : coef a.1.ps u ≠ 0 := fun z => by grind
      have nb : coef b.1.ps u ≠ 0 := fun z => by grind
      refine .inr ⟨a, b, _, _, ha1, hb1, (Sz.one.div za na).mono (by omega) (by omega), (Sz.one.neg.div zb nb).mono (by omega) (by omega), inv_p ha2, .inl ?_, hx, ?_⟩
      · have := inv_p (show 0 < -coef b.1.ps u by grind)
        rw [neg_inv nb]; exact this
      · rw [total_coef, Rat.div_def, Rat.div_def]
        have e1 : (coef a.1.ps u)⁻¹ * coef a.1.ps u = 1 := Rat.inv_mul_cancel _ na
        have e2 : (coef b.1.ps u)⁻¹ * coef b.1.ps u = 1 := Rat.inv_mul_cancel _ nb
        rw [Rat.mul_assoc, Rat.mul_assoc, e1, e2]; grind
    -- the outer loop
    refine bs_mid (fun ρ δ => ∃ (made : List DRw) (o6 o7 o8 o9 : Option D), ρ = put (put (put noR A1 (.L (made.map dDr))) A2 (.L (ab.map dDr))) A3 (.L (be.map dDr)) ∧
        δ = [some (.lst (rows.map dDr)), some (.str u), some .non, some (.obj A1), some (.obj A2), some (.obj A3), o6, o7, o8, o9, none] ∧ (∀ x ∈ made, x ∈ zz ∨ ∃ a ∈ ab, ∃ b ∈ be, Pr a b x) ∧ (∀ x ∈ zz, x ∈ made) ∧ (∀ a ∈ ab, ∀ b ∈ be, ∃ x ∈ made, Pr a b x) ∧ made.length = zz.length + ab.length * be.length)
      (s_for (it_own <| w_var 4 rfl ⟨A2, _, rfl, by rw [put_ne n23]; exact put_same, ?_⟩) rfl PassesOwn.never) ?_
    · have sw : ∀ (m m' : List DRw), put (put (put (put noR A1 (.L (m.map dDr))) A2 (.L (ab.map dDr))) A3 (.L (be.map dDr))) A1 (.L (m'.map dDr)) = put (put (put noR A1 (.L (m'.map dDr))) A2 (.L (ab.map dDr))) A3 (.L (be.map dDr)) := fun m m' => by
        funext x
        unfold put
        by_cases h1 : x = A1
        · subst h1
          simp [n13, n12]
        · simp [h1]
      have g1 : ∀ m : List DRw, put (put (put noR A1 (.L (m.map dDr))) A2 (.L (ab.map dDr))) A3 (.L (be.map dDr)) A1 = some (.L (m.map dDr)) := fun m => by rw [put_ne n13, put_ne n12, put_same]
      have g2 : ∀ m : List DRw, put (put (put noR A1 (.L (m.map dDr))) A2 (.L (ab.map dDr))) A3 (.L (be.map dDr)) A2 = some (.L (ab.map dDr)) := fun m => by rw [put_ne n23, put_same]
      have g3 : ∀ m : List DRw, put (put (put noR A1 (.L (m.map dDr))) A2 (.L (ab.map dDr))) A3 (.L (be.map dDr)) A3 = some (.L (be.map dDr)) := fun m => put_same
      refine forD_ind (fun rest ρ δ => ∃ (pre suf made : List DRw) (o6 o7 o8 o9 : Option D), rest = suf.map dDr ∧ ab = pre ++ suf ∧ ρ = put (put (put noR A1 (.L (made.map dDr))) A2 (.L (ab.map dDr))) A3 (.L (be.map dDr)) ∧
        δ = [some (.lst (rows.map dDr)), some (.str u), some .non, some (.obj A1), some (.obj A2), some (.obj A3), o6, o7, o8, o9, none] ∧ (∀ x ∈ made, x ∈ zz ∨ ∃ a ∈ ab, ∃ b ∈ be, Pr a b x) ∧ (∀ x ∈ zz, x ∈ made) ∧ (∀ a ∈ pre, ∀ b ∈ be, ∃ x ∈ made, Pr a b x) ∧ made.length = zz.length + pre.length * be.length) ?_ ?_ _ _ _
        ⟨[], ab, zz, none, none, none, none, rfl, rfl, rfl, rfl, (fun x hx => .inl hx), fun x hx => hx, (fun a ha => by cases ha), by simp⟩
      · rintro ρ δ ⟨pre, suf, made, o6, o7, o8, o9, e1, e2, rfl, rfl, p1, p2, p3, p4⟩
        have : suf = [] := by cases suf with | nil => rfl | cons _ _ => cases e1
        subst this
        rw [List.append_nil] at e2
        refine ⟨made, o6, o7, o8, o9, rfl, rfl, p1, p2, ?_, ?_⟩
        · rw [e2]; exact p3
        · rw [e2]; exact p4
      · rintro x xs ρ δ ⟨pre, suf, made, o6, o7, o8, o9, e1, e2, rfl, rfl, p1, p2, p3, p4⟩
        cases suf with
        | nil => cases e1
        | cons a suf =>
          cases e1
          have ha : a ∈ ab := by rw [e2]; simp
          obtain ⟨ha1, ha2⟩ := (abm a).mp ha
          have ia := hin a ha1
          have na : coef a.1.ps u ≠ 0 := fun z => by grind
          have za := ia.coef_sz c1 u
          have prel : pre.length < ab.length := by rw [e2]; simp
          have prel2 : pre.length * be.length + be.length ≤ ab.length * be.length := by
            have : (pre.length + 1) * be.length ≤ ab.length * be.length := Nat.mul_le_mul_right _ prel
            rw [Nat.add_mul, Nat.one_mul] at this
            exact this
          have absz : ab.length * be.length ≤ 1000 * 1000 := Nat.mul_le_mul (by omega) (by omega)
          refine tg_name 6 (bs_cons (s_for (it_own <| w_var 5 rfl ⟨A3, _, rfl, g3 made, ?_⟩) rfl PassesOwn.never)) sc_eliminated.nd
          refine forD_ind (fun rest ρ δ => ∃ (pb sb made' : List DRw) (o7 o8 o9 : Option D), rest = sb.map dDr ∧ be = pb ++ sb ∧ ρ = put (put (put noR A1 (.L (made'.map dDr))) A2 (.L (ab.map dDr))) A3 (.L (be.map dDr)) ∧
            δ = [some (.lst (rows.map dDr)), some (.str u), some .non, some (.obj A1), some (.obj A2), some (.obj A3), some (dDr a), o7, o8, o9, none] ∧ (∀ x ∈ made', x ∈ zz ∨ ∃ a ∈ ab, ∃ b ∈ be, Pr a b x) ∧ (∀ x ∈ made, x ∈ made') ∧ (∀ b ∈ pb, ∃ x ∈ made', Pr a b x) ∧ made'.length = made.length + pb.length) ?_ ?_ _ _ _
            ⟨[], be, made, o7, o8, o9, rfl, rfl, rfl, rfl, p1, fun x hx => hx, (fun b hb => by cases hb), rfl⟩
          · rintro ρ δ ⟨pb, sb, made', o7, o8, o9, e3, e4, rfl, rfl, q1, q2, q3, q4⟩
            have : sb = [] := by cases sb with | nil => rfl | cons _ _ => cases e3
            subst this
            rw [List.append_nil] at e4
            refine bs_nil ⟨g2 made', pre ++ [a], suf, made', some (dDr a), o7, o8, o9, rfl, by rw [e2]; simp, rfl, rfl, q1, fun x hx => q2 x (p2 x hx), fun a' ha' b hb => ?_, ?_⟩
            · rcases List.mem_append.mp ha' with h | h
              · obtain ⟨x, h3, h4⟩ := p3 a' h b hb
                exact ⟨x, q2 x h3, h4⟩
              · have : a' = a := by simpa using h
                rw [this]; exact q3 b (by rw [← e4]; exact hb)
            · rw [q4, p4, ← e4, List.length_append, Nat.add_mul]; simp; omega
          · rintro y ys ρ δ ⟨pb, sb, made', o7, o8, o9, e3, e4, rfl, rfl, q1, q2, q3, q4⟩
            cases sb with
            | nil => cases e3
            | cons b sb =>
              cases e3
              have hb : b ∈ be := by rw [e4]; simp
              obtain ⟨hb1, hb2⟩ := (bem b).mp hb
              have ib := hin b hb1
              have nb : coef b.1.ps u ≠ 0 := fun z => by grind
              have zb := ib.coef_sz c1 u
              have pbl : pb.length < be.length := by rw [e4]; simp
              refine tg_name 7 (bs_cons (s_set 8 (w_call Gv r3 <| wa_v <| w_gd h1 <| wa_v <| w_call Gn r1 <| wa_v <| w_ixT (xs := [dRow a.1, dPap a.2]) (d := dRow a.1) 6 0 rfl (r := wa_v <| w_var 1 rfl <| wa_nil ⟨a.1, u, rfl, ia.cn, wa_nil ⟨1, _, 1, 1, c, 1, rfl, Sz.one, za, na, by omega, by omega, by omega, ?_⟩⟩)) sc_eliminated.nd)) sc_eliminated.nd
              refine bs_cons (s_set 9 (w_call Gv r3 <| wa_v <| w_tup <| wi_cons <| w_neg <| w_int ⟨1, rfl, wi_cons <| w_int <| wi_nil ⟨one_line, wa_v <| w_call Gn r1 <| wa_v <| w_ixT (xs := [dRow b.1, dPap b.2]) (d := dRow b.1) 7 0 rfl (r := wa_v <| w_var 1 rfl <| wa_nil ⟨b.1, u, rfl, ib.cn, wa_nil ⟨-1, _, 1, 1, c, 1, rfl, Sz.one.neg, zb, nb, by omega, by omega, by omega, ?_⟩⟩)⟩⟩) sc_eliminated.nd)
              refine bs_cons (s_append (w_var 3 rfl rfl) (g1 made') (w_callT hT Gc r6 <| wa_v <| w_var 6 rfl <| wa_v <| w_var 8 rfl <| wa_v <| w_var 7 rfl <| wa_v <| w_var 9 rfl <| wa_nil ⟨a, b, 1 / coef a.1.ps u, -1 / coef b.1.ps u, c + 1, bn, bd, mn, md, rfl, ia.mono (by omega), ib.mono (by omega), (Sz.one.div za na).mono (by omega) (by omega), (Sz.one.neg.div zb nb).mono (by omega) (by omega), by omega, by omega, b1, b2, m1, m2, m3, m4, fun res hres => ⟨?_, ?_⟩⟩))
              · rw [List.length_map, sizeLine_eq]
                omega
              · have esw : put (put (put (put noR A1 (.L (made'.map dDr))) A2 (.L (ab.map dDr))) A3 (.L (be.map dDr))) A1 (.L (made'.map dDr ++ [dDr res])) = put (put (put noR A1 (.L ((made' ++ [res]).map dDr))) A2 (.L (ab.map dDr))) A3 (.L (be.map dDr)) := by
                  rw [← sw made' (made' ++ [res]), List.map_append]; rfl
                rw [esw]
                refine bs_nil ⟨g3 _, pb ++ [b], sb, made' ++ [res], _, _, _, rfl, by rw [e4]; simp, rfl, rfl, fun x hx => ?_, fun x hx => List.mem_append_left _ (q2 x hx), fun b' hb' => ?_, by rw [List.length_append, List.length_append, q4]; simp; omega⟩
                · rcases List.mem_append.mp hx with h | h
                  · exact q1 x h
                  · have : x = res := by simpa using h
                    rw [this]; exact .inr ⟨a, ha, b, hb, hres⟩
                · rcases List.mem_append.mp hb' with h | h
                  · obtain ⟨x, h3, h4⟩ := q3 b' h
                    exact ⟨x, List.mem_append_left _ h3, h4⟩
                  · have : b' = b := by simpa using h
                    rw [this]; exact ⟨res, by simp, hres⟩
    rintro _ _ ⟨made, o6, o7, o8, o9, rfl, rfl, p1, p2, p3, p4⟩
    refine bs_cons <| s_retO <| w_var 3 rfl ⟨A1, made.map dDr, rfl, by rw [put_ne n13, put_ne n12, put_same], _, rfl, flat_drs _, r made (fun x hx => ?_) ?_ (made_len hthree (Nat.le_of_eq p4))⟩
    · rcases p1 x hx with h | ⟨a, ha, b, hb, hx⟩
      · exact .inl ((zzm x).mp h)
      · exact good a b x ha hb hx
    · refine keep_pairs hne (fun d hd hc => p2 d ((zzm d).mpr ⟨hd, hc⟩)) fun a ha b hb h1 h2 => ?_
      obtain ⟨x, hx, hp⟩ := p3 a ((abm a).mpr ⟨ha, h1⟩) b ((bem b).mpr ⟨hb, h2⟩)
      exact ⟨x, hx, hp.row⟩
end
end LP
set_option maxRecDepth 100000
set_option maxHeartbeats 4000000
/-! Pn18: tighter, limits_for. -/
namespace LP
open PySem PySem.Spec PyProof.Rows L2
def wTig : List D → (D → Prop) → Prop := fun ds R => ∃ (old : Option Rat) (oi : Bool) (lim : Rat) (ins : Bool) (side : Int) (k : Nat), ds = [dO old, .bl oi, dQ lim, .bl ins, .int side] ∧ SzO k old ∧ Sz k k lim ∧ k ≤ 80000 ∧ (side = 1 ∨ side = -1) ∧ R (.tup [dO (tight old oi lim ins side).1, .bl (tight old oi lim ins side).2])
def kvOf (pt : Pts) : KD' := pt.map fun p => (Sum.inr p.1, dQ p.2)
theorem merge_is : ∀ (pt : Pts) (acc : KD') (ks : List Str) (g : Str → Rat), DictIs Sum.inr acc ks g → (pt.map (·.1)).Nodup → (∀ p ∈ pt, p.1 ∉ ks) → ∃ ks', DictIs Sum.inr (mergeD acc (kvOf pt)) ks' (fun v => g v + coef pt v)
  | [], acc, ks, g, h, _, _ => ⟨ks, by
      have : (fun v => g v + coef ([] : Pts) v) = g := by funext v; simp [coef]; grind
      rw [this]; exact h⟩
  | p :: pt, acc, ks, g, h, n, d => by
    obtain ⟨ks1, h1, _, h3⟩ := h.put inr_inj p.1 p.2
    rw [List.map_cons, List.nodup_cons] at n
    obtain ⟨ks2, h4⟩ := merge_is pt _ ks1 _ h1 n.2 fun q hq hm => by
      rcases (h3 q.1).mp hm with e | e
      · exact n.1 (e ▸ List.mem_map_of_mem hq)
      · exact d q (List.mem_cons_of_mem _ hq) e
    refine ⟨ks2, ?_⟩
    have e : (fun v => (if v = p.1 then p.2 else g v) + coef pt v) = fun v => g v + coef (p :: pt) v := by
      funext v
      rw [coef]
      by_cases hv : v = p.1
      · subst hv
        rw [if_pos rfl, if_pos rfl, h.out p.1 (d p (List.mem_cons_self ..)), coef_no n.1]; grind
      · rw [if_neg hv, if_neg (Ne.symm hv)]; grind
    rw [← e]
    exact h4
theorem dict_pt {pt : Pts} (n : (pt.map (·.1)).Nodup) : ∃ ks, DictIs Sum.inr (mergeD [] (kvOf pt)) ks (coef pt) := by
  obtain ⟨ks, h⟩ := merge_is pt [] [] (fun _ => 0) (dictIs_nil _) n (fun p _ h => by cases h)
  refine ⟨ks, ?_⟩
  have e : (fun v => (0 : Rat) + coef pt v) = coef pt := by funext v; grind
  rw [e] at h
  exact h
/-- bits for limits_for -/
structure LimS (c bn bd m : Nat) (u : Str) (d : DRw) : Prop where
  cn : Canon d.1.ps
  s : SzL c 1 d.1.ps
  b : Sz bn bd d.1.b
  n : d.1.ps.length ≤ m + 1
def others (u : Str) (ps : Pts) : Nat := (ps.filter fun p => decide (p.1 ≠ u)).length
theorem others_app (u : Str) (a b : Pts) : others u (a ++ b) = others u a + others u b := by unfold others; rw [List.filter_append, List.length_append]
theorem others_lt {u : Str} {ps : Pts} (h : coef ps u ≠ 0) : others u ps + 1 ≤ ps.length := by
  obtain ⟨p, hp, e⟩ := coef_key h
  unfold others
  have := filter_lt (l := ps) (p := fun p => decide (p.1 ≠ u)) (q := fun _ => true) (fun _ _ _ => rfl) ⟨p, hp, rfl, by simp [e]⟩
  rw [List.filter_eq_self.mpr (fun _ _ => rfl)] at this
  exact this
theorem snoc_ind {α : Type} {Q : List α → Prop} (h0 : Q []) (h1 : ∀ l a, Q l → Q (l ++ [a])) : ∀ l, Q l := fun l => by
  have : ∀ m : List α, Q m.reverse := fun m => by
    induction m with
    | nil => exact h0
    | cons a m ih => rw [List.reverse_cons]; exact h1 _ _ ih
  have := this l.reverse
  rw [List.reverse_reverse] at this
  exact this
theorem rest_sz {c bn bd j : Nat} {v : Val} {u : Str} {b : Rat} (h0 : v u = 0) (hb : Sz bn bd b) (hv : ∀ x, Sz j j (v x)) : ∀ pre : Pts, SzL c 1 pre → Sz (bn + bd + others u pre * (c + 2 * j + 3)) (bd + others u pre * (j + 1)) (b - ev v pre) := by
  refine snoc_ind ?_ ?_
  · intro _
    rw [show b - ev v ([] : Pts) = b by show b - 0 = b; grind]
    exact hb.mono (by omega) (by omega)
  · intro pre p ih hs
    have h1 := ih fun q hq => hs q (List.mem_append_left _ hq)
    have hp : Sz c 1 p.2 := hs p (by simp)
    have e : b - ev v (pre ++ [p]) = (b - ev v pre) - p.2 * v p.1 := by rw [ev_app, ev, ev]; grind
    rw [e, others_app]
    by_cases hu : p.1 = u
    · rw [hu, h0, show (b - ev v pre) - p.2 * 0 = b - ev v pre by grind, show others u [p] = 0 by unfold others; simp [hu], Nat.add_zero]
      exact h1
    · rw [show others u [p] = 1 by unfold others; simp [hu], Nat.add_mul, Nat.add_mul, Nat.one_mul, Nat.one_mul]
      have := Nat.mul_le_mul_left (others u pre) (show j + 1 ≤ c + 2 * j + 3 by omega)
      exact (h1.sub (hp.mul (hv p.1))).mono (by omega) (by omega)
theorem limit_sz {c bn bd m j k : Nat} {v : Val} {u : Str} {d : DRw} (c1 : 1 ≤ c) (hd : LimS c bn bd m u d) (hc : coef d.1.ps u ≠ 0) (h0 : v u = 0) (hv : ∀ x, Sz j j (v x)) (hk1 : bn + bd + m * (c + 2 * j + 3) + 1 ≤ k) (hk2 : bd + m * (j + 1) + c ≤ k) : Sz k k (limit v u d.1) := by
  have ho : others u d.1.ps ≤ m := by have := others_lt hc; have := hd.n; omega
  have h1 := rest_sz h0 hd.b hv d.1.ps hd.s
  have zc : Sz c 1 (coef d.1.ps u) := by
    obtain ⟨q, hq, e⟩ := coef_key hc
    rw [← e, coef_mem hd.cn.nd hq]; exact hd.s q hq
  have e : rest v u d.1 = d.1.b - ev v d.1.ps := by unfold rest; rw [h0]; grind
  unfold limit
  rw [e]
  have x1 : others u d.1.ps * (c + 2 * j + 3) ≤ m * (c + 2 * j + 3) := Nat.mul_le_mul_right _ ho
  have x2 : others u d.1.ps * (j + 1) ≤ m * (j + 1) := Nat.mul_le_mul_right _ ho
  exact (h1.div zc hc).mono (by omega) (by omega)
def dLim (s : Lim) : D := .tup [dO s.l, .bl s.li, dO s.u, .bl s.ui]
def wLim : List D → (D → Prop) → Prop := fun ds R => ∃ (rows : List DRw) (u : Str) (pt : Pts) (c bn bd m j k : Nat), ds = [.lst (rows.map dDr), .str u, .lst (pt.map dPt)] ∧ rows.length ≤ 1000000 ∧ (∀ d ∈ rows, LimS c bn bd m u d) ∧ (pt.map (·.1)).Nodup ∧ u ∉ pt.map (·.1) ∧ SzL j j pt ∧ 1 ≤ j ∧ 1 ≤ c ∧ c ≤ 4000 ∧
  bn + bd + m * (c + 2 * j + 3) + 1 ≤ k ∧ bd + m * (j + 1) + c ≤ k ∧ k < 4000 ∧ R (dLim (lims (coef pt) u rows lim0))
section
variable {P : Program} {w : World} {K : PySem.W.Frag} {mg : Str → Option Value} {base : Heap} {f : Addr} {fd : FuncData} {T : Addr}
theorem flat_dO (o : Option Rat) : (dO o).flat = true := by cases o <;> rfl
theorem ok_tighter (F : Fun K "tighter" "tighter" s_tighter f fd) (Gk : Def P w K mg base 1 "compare" P_compare (spD K wCmp)) : FnOk P w K mg base CX0 2 f fd P_tighter (spD K wTig) := by
  refine okD F sc_tighter (fun ds R h => by obtain ⟨old, oi, lim, ins, side, k, rfl, _⟩ := h; rfl) fun cdv A outer s H E hr ds R h => ?_
  obtain ⟨old, oi, lim, ins, side, k, rfl, ho, hl, hk, hs, r⟩ := h
  refine bs_If <| wt_cmp <| w_var 0 rfl <| w_non <| opw_isN ⟨_, rfl, ?_⟩
  rw [dO_non]
  cases old with
  | none => exact bs_cons <| s_ret <| w_tup <| wi_cons <| w_var 2 rfl <| wi_cons <| w_var 3 rfl <| wi_nil ⟨one_line, _, rfl, rfl, r⟩
  | some o =>
    have ho : Sz k k o := ho
    have cw : CMulW (cmpQ lim o) side := by
      refine Bt.wide (j := 1) (k := 1) ?_ ?_ (by decide)
      · rcases cmpQ_cases lim o with ⟨_, e⟩ | ⟨_, e⟩ | ⟨_, e⟩ <;> rw [e] <;> simp [Bt]
      · rcases hs with e | e <;> rw [e] <;> simp [Bt]
    refine bs_nil <| bs_cons (s_set 5 (w_bin <| w_call Gk hr <| wa_v <| w_var 2 rfl <| wa_v <| w_var 0 rfl <| wa_nil ⟨lim, o, k, rfl, hl, ho, by omega, w_var 4 rfl <| opw_mul cw ?_⟩) sc_tighter.nd)
    unfold tight at r
    refine bs_If <| wt_cmp <| w_var 5 rfl <| w_int <| opw_lt ⟨_, rfl, ?_⟩
    by_cases h1 : cmpQ lim o * side < 0
    · rw [decide_eq_true h1]
      simp only [if_pos h1] at r
      exact bs_cons <| s_ret <| w_tup <| wi_cons <| w_var 2 rfl <| wi_cons <| w_var 3 rfl <| wi_nil ⟨one_line, _, rfl, rfl, r⟩
    · rw [decide_eq_false h1]
      simp only [if_neg h1] at r
      refine bs_nil <| bs_If <| wt_cmp <| w_var 5 rfl <| w_int <| opw_eqI ⟨_, rfl, ?_⟩
      by_cases h2 : cmpQ lim o * side = 0
      · rw [decide_eq_true h2]
        simp only [if_pos h2] at r
        refine bs_cons <| s_ret <| w_tup <| wi_cons <| w_var 0 rfl <| wi_cons <| w_and <| w_var 1 rfl ⟨oi, rfl, ?_⟩
        cases oi with
        | true => exact w_one <| w_var 3 rfl <| wi_nil ⟨one_line, _, rfl, rfl, r⟩
        | false => exact wi_nil ⟨one_line, _, rfl, rfl, r⟩
      · rw [decide_eq_false h2]
        simp only [if_neg h2] at r
        exact bs_nil <| bs_cons <| s_ret <| w_tup <| wi_cons <| w_var 0 rfl <| wi_cons <| w_var 1 rfl <| wi_nil ⟨one_line, _, rfl, rfl, r⟩
theorem ok_limits_for (F : Fun K "limits_for" "limits_for" s_limits_for f fd) (Gn : Def P w K mg base 1 "number_in" P_number_in (spD K wNumIn)) (Gk : Def P w K mg base 1 "compare" P_compare (spD K wCmp)) (Gm : Def P w K mg base 3 "minus" P_minus (spD K (wOp (· - ·)))) (Gt : Def P w K mg base 3 "times" P_times (spD K (wOp (· * ·)))) (Gv : Def P w K mg base 3 "over" P_over (spD K wOver))
    (Gi : Def P w K mg base 2 "tighter" P_tighter (spD K wTig)) (h0 : GD K mg "ZERO" (dQ 0)) (hD : mg "dict" = none) : FnOk P w K mg base CX0 4 f fd P_limits_for (spD K wLim) := by
  refine okD F sc_limits_for (fun ds R h => by obtain ⟨rows, u, pt, c, bn, bd, m, j, k, rfl, _⟩ := h; rfl) fun cdv A outer s H E hr ds R h => ?_
  obtain ⟨rows, u, pt, c, bn, bd, m, j, k, rfl, hn, hrows, hnd, hup, hpt, j1, c1, c2, k1, k2, k3, r⟩ := h
  have hu := hr.units
  have r1 := hr.mono (show 1 ≤ 3 by decide)
  have r2 := hr.mono (show 2 ≤ 3 by decide)
  obtain ⟨v, hv⟩ : ∃ v : Val, v = coef pt := ⟨_, rfl⟩
  rw [← hv] at r
  have v0 : v u = 0 := by rw [hv]; exact coef_no hup
  have vs : ∀ x, Sz j j (v x) := fun x => by
    rw [hv]
    by_cases z : coef pt x = 0
    · rw [z]; exact Sz.zero.mono j1 j1
    · obtain ⟨q, hq, e⟩ := coef_key z
      rw [← e, coef_mem hnd hq]; exact hpt q hq
  refine bs_cons (s_asg (w_tup <| wi_cons <| w_non <| wi_cons <| w_bl <| wi_cons <| w_non <| wi_cons <| w_bl <| wi_nil ⟨one_line, tg_tup (tgs_cons <| tg_name 3 (tgs_cons <| tg_name 4 (tgs_cons <| tg_name 5 (tgs_cons <| tg_name 6 (tgs_nil ?_) sc_limits_for.nd) sc_limits_for.nd) sc_limits_for.nd) sc_limits_for.nd) rfl rfl⟩))
  refine bs_cons (s_setMP 7 (kvs := kvOf pt) rfl (w_var 2 rfl (by show (kvOf pt).map _ = pt.map dPt; unfold kvOf; rw [List.map_map]; rfl)) (fun A1 hA1 => ?_) hD sc_limits_for.nd)
  obtain ⟨ks, hdict⟩ := dict_pt hnd
  rw [← hv] at hdict
  generalize mergeD [] (kvOf pt) = kvs at *
  refine bs_cons (s_for (it_old <| w_var 0 rfl ⟨_, .inl rfl, ?_⟩) rfl PassesOwn.never)
  refine forD_ind (fun rest ρ δ => ∃ (pre suf : List DRw) (s : Lim) (o8 o9 o10 o11 o12 o13 o14 o15 o16 o17 o18 : Option D), rest = suf.map dDr ∧ rows = pre ++ suf ∧ s = lims v u pre lim0 ∧ ρ = put noR A1 (.M kvs) ∧
    δ = [some (.lst (rows.map dDr)), some (.str u), some (.lst (pt.map dPt)), some (dO s.l), some (.bl s.li), some (dO s.u), some (.bl s.ui), some (.obj A1), o8, o9, o10, o11, o12, o13, o14, o15, o16, o17, o18]) ?_ ?_ _ _ _
    ⟨[], rows, lim0, none, none, none, none, none, none, none, none, none, none, none, rfl, rfl, rfl, rfl, rfl⟩
  · rintro ρ δ ⟨pre, suf, s, o8, o9, o10, o11, o12, o13, o14, o15, o16, o17, o18, e1, e2, e3, rfl, rfl⟩
    have : suf = [] := by cases suf with | nil => rfl | cons _ _ => cases e1
    subst this
    rw [List.append_nil] at e2
    subst e2
    rw [← e3] at r
    refine bs_cons <| s_ret <| w_tup <| wi_cons <| w_var 3 rfl <| wi_cons <| w_var 4 rfl <| wi_cons <| w_var 5 rfl <| wi_cons <| w_var 6 rfl <| wi_nil ⟨one_line, _, rfl, ?_, r⟩
    show ((dO s.l).flat && (true && ((dO s.u).flat && (true && true)))) = true
    rw [flat_dO, flat_dO]; rfl
  · rintro x xs ρ δ ⟨pre, suf, s, o8, o9, o10, o11, o12, o13, o14, o15, o16, o17, o18, e1, e2, e3, rfl, rfl⟩
    cases suf with
    | nil => cases e1
    | cons d suf =>
      cases e1
      have hdm : d ∈ rows := by rw [e2]; simp
      have ld := hrows d hdm
      obtain ⟨⟨ps, sg, b⟩, pap⟩ := d
      have cps : Canon ps := ld.cn
      have sps : SzL c 1 ps := ld.s
      have sb : Sz bn bd b := ld.b
      have enext : limR v u s ⟨ps, sg, b⟩ = lims v u (pre ++ [⟨⟨ps, sg, b⟩, pap⟩]) lim0 := by
        rw [e3]
        unfold lims
        rw [List.foldl_append]; rfl
      have sizes : ∀ (pre' : List DRw) (s' : Lim), (∀ d ∈ pre', d ∈ rows) → s' = lims v u pre' lim0 → SzO k s'.l ∧ SzO k s'.u := fun pre' s' hm hs' => by
        have fr : From v u pre' s' := by rw [hs']; exact lims_from pre' lim0 (fun _ h => h) from0
        refine ⟨?_, ?_⟩
        · cases q : s'.l with
          | none => exact trivial
          | some z =>
            obtain ⟨d', g1, g2, g3, g4, g5⟩ := fr.1 z q
            rw [← g4]
            exact limit_sz c1 (hrows d' (hm d' g1)) g2 v0 vs k1 k2
        · cases q : s'.u with
          | none => exact trivial
          | some z =>
            obtain ⟨d', g1, g2, g3, g4, g5⟩ := fr.2 z q
            rw [← g4]
            exact limit_sz c1 (hrows d' (hm d' g1)) g2 v0 vs k1 k2
      have hsz := sizes pre s (fun d hd => by rw [e2]; exact List.mem_append_left _ hd) e3
      refine tg_tup (tgs_cons <| tg_name 8 (tgs_cons <| tg_name 9 (tgs_nil ?_) sc_limits_for.nd) sc_limits_for.nd) rfl rfl
      refine bs_cons (s_asg (w_var 8 rfl (tg_tup (tgs_cons <| tg_name 10 (tgs_cons <| tg_name 11 (tgs_cons <| tg_name 12 (tgs_nil ?_) sc_limits_for.nd) sc_limits_for.nd) sc_limits_for.nd) rfl rfl)))
      refine bs_cons (s_set 13 (w_call Gn r1 <| wa_v <| w_var 8 rfl <| wa_v <| w_var 1 rfl <| wa_nil ⟨⟨ps, sg, b⟩, u, rfl, cps, ?_⟩) sc_limits_for.nd)
      refine bs_If <| wt_cmp <| w_var 13 rfl <| w_gd h0 <| opw_eqT hu (k := decide (coef ps u = 0)) (by rw [decide_eq_true_eq]; exact dQ_iff.symm) ⟨_, rfl, ?_⟩
      by_cases hz : coef ps u = 0
      · rw [decide_eq_true hz]
        refine bs_cons (s_continue ⟨trivial, pre ++ [⟨⟨ps, sg, b⟩, pap⟩], suf, s, some (dRow ⟨ps, sg, b⟩), some (dPap pap), some (dPts ps), some (.str sg.str), some (dQ b), some (dQ (coef ps u)), o14, o15, o16, o17, o18, rfl, by rw [e2]; simp, ?_, rfl, rfl⟩)
        rw [← enext]
        unfold limR
        rw [if_pos hz]
      · rw [decide_eq_false hz]
        have lsz : Sz k k (limit v u ⟨ps, sg, b⟩) := limit_sz (d := ⟨⟨ps, sg, b⟩, pap⟩) c1 ld hz v0 vs k1 k2
        have ho : others u ps ≤ m := by have h2 := others_lt hz; have h1 : ps.length ≤ m + 1 := ld.n; omega
        have zc : Sz c 1 (coef ps u) := by
          obtain ⟨q, hq, e⟩ := coef_key hz
          rw [← e, coef_mem cps.nd hq]; exact sps q hq
        refine bs_nil <| bs_cons (s_set 14 (w_var 12 rfl ?_) sc_limits_for.nd)
        -- the rest
        refine bs_mid (fun ρ δ => ∃ o15 o16, ρ = put noR A1 (.M kvs) ∧ δ = [some (.lst (rows.map dDr)), some (.str u), some (.lst (pt.map dPt)), some (dO s.l), some (.bl s.li), some (dO s.u), some (.bl s.ui), some (.obj A1), some (dRow ⟨ps, sg, b⟩), some (dPap pap), some (dPts ps), some (.str sg.str), some (dQ b), some (dQ (coef ps u)), some (dQ (b - ev v ps)), o15, o16, o17, o18])
          (s_for (it_tup <| w_var 10 rfl ⟨_, rfl, ?_⟩) rfl PassesOwn.never) ?_
        · refine forD_ind (fun rest ρ δ => ∃ (pp sp : Pts) (o15 o16 : Option D), rest = sp.map dPt ∧ ps = pp ++ sp ∧ ρ = put noR A1 (.M kvs) ∧ δ = [some (.lst (rows.map dDr)), some (.str u), some (.lst (pt.map dPt)), some (dO s.l), some (.bl s.li), some (dO s.u), some (.bl s.ui), some (.obj A1), some (dRow ⟨ps, sg, b⟩), some (dPap pap), some (dPts ps), some (.str sg.str), some (dQ b), some (dQ (coef ps u)), some (dQ (b - ev v pp)), o15, o16, o17, o18]) ?_ ?_ _ _ _
            ⟨[], ps, o15, o16, rfl, rfl, rfl, by rw [show b - ev v ([] : Pts) = b by show b - 0 = b; grind]; rfl⟩
          · rintro ρ δ ⟨pp, sp, o15, o16, e4, e5, rfl, rfl⟩
            have : sp = [] := by cases sp with | nil => rfl | cons _ _ => cases e4
            subst this
            rw [List.append_nil] at e5
            rw [← e5]
            exact ⟨o15, o16, rfl, rfl⟩
          · rintro y ys ρ δ ⟨pp, sp, o15, o16, e4, e5, rfl, rfl⟩
            cases sp with
            | nil => cases e4
            | cons q sp =>
              cases e4
              have hq : Sz c 1 q.2 := sps q (by rw [e5]; simp)
              have hpp : SzL c 1 pp := fun z hz => sps z (by rw [e5]; exact List.mem_append_left _ hz)
              have rs := rest_sz v0 sb vs pp hpp
              have estep : b - ev v (pp ++ [q]) = (b - ev v pp) - q.2 * v q.1 := by rw [ev_app, ev, ev]; grind
              refine tg_tup (tgs_cons <| tg_name 15 (tgs_cons <| tg_name 16 (tgs_nil ?_) sc_limits_for.nd) sc_limits_for.nd) rfl rfl
              refine bs_If <| wt_cmp <| w_var 15 rfl <| w_var 1 rfl <| opw_neS ⟨_, rfl, ?_⟩
              by_cases hqu : q.1 = u
              · rw [decide_eq_true hqu]
                refine bs_nil <| bs_nil ⟨trivial, pp ++ [q], sp, some (.str q.1), some (dQ q.2), rfl, by rw [e5]; simp, rfl, ?_⟩
                rw [estep, hqu, v0, show (b - ev v pp) - q.2 * 0 = b - ev v pp by grind]
                rfl
              · rw [decide_eq_false hqu]
                have hop : others u pp + 1 ≤ m := by
                  have : others u ps = others u pp + others u (q :: sp) := by rw [e5, others_app]
                  have h2 : others u (q :: sp) = 1 + others u sp := by
                    rw [show q :: sp = [q] ++ sp from rfl, others_app]
                    unfold others
                    simp [hqu]
                  omega
                have x1 : (others u pp + 1) * (c + 2 * j + 3) ≤ m * (c + 2 * j + 3) := Nat.mul_le_mul_right _ hop
                have x2 : (others u pp + 1) * (j + 1) ≤ m * (j + 1) := Nat.mul_le_mul_right _ hop
                rw [Nat.add_mul, Nat.one_mul] at x1 x2
                refine bs_cons (s_set 14 (w_call Gm hr <| wa_v <| w_var 14 rfl <| wa_v <| w_call Gt hr <| wa_v <| w_var 16 rfl <| wa_v <| w_dget2 hu (w_var 7 rfl rfl) put_same (k := Sum.inr q.1) (w_var 15 rfl rfl) (w_gd h0 rfl) (hdict.val q.1) (wa_nil ⟨q.2, v q.1, c, 1, j, j, rfl, hq, vs _, by omega, by omega, by omega, wa_nil ⟨b - ev v pp, q.2 * v q.1, _, _, c + j, 1 + j, rfl, rs, hq.mul (vs _), by omega, by omega, by omega, ?_⟩⟩)) sc_limits_for.nd)
                refine bs_nil <| bs_nil ⟨trivial, pp ++ [q], sp, some (.str q.1), some (dQ q.2), rfl, by rw [e5]; simp, rfl, ?_⟩
                rw [estep]
                rfl
        rintro _ _ ⟨o15, o16, rfl, rfl⟩
        have rs := rest_sz v0 sb vs ps sps
        have x1 : others u ps * (c + 2 * j + 3) ≤ m * (c + 2 * j + 3) := Nat.mul_le_mul_right _ ho
        have x2 : others u ps * (j + 1) ≤ m * (j + 1) := Nat.mul_le_mul_right _ ho
        have elim : (b - ev v ps) / coef ps u = limit v u ⟨ps, sg, b⟩ := by
          unfold limit rest
          show _ = (b - (ev v ps - coef ps u * v u)) / coef ps u
          rw [v0, show ev v ps - coef ps u * 0 = ev v ps by grind]
        refine bs_cons (s_set 17 (w_call Gv hr <| wa_v <| w_var 14 rfl <| wa_v <| w_var 13 rfl <| wa_nil ⟨b - ev v ps, coef ps u, _, _, c, 1, rfl, rs, zc, hz, by omega, by omega, by omega, ?_⟩) sc_limits_for.nd)
        rw [elim]
        refine bs_cons (s_set 18 (w_cmp <| w_var 11 rfl <| w_str <| opw_neS ?_) sc_limits_for.nd)
        rw [str_lt, ← decide_not]
        have einside : decide (¬ sg = .lt) = inside ⟨ps, sg, b⟩ := rfl
        rw [einside]
        have csz : Sz (c + 1) (c + 1) (coef ps u) := zc.mono (by omega) (by omega)
        obtain ⟨sU, hsU⟩ : ∃ sU, sU = limU v u ⟨ps, sg, b⟩ s := ⟨_, rfl⟩
        have limRe : limR v u s ⟨ps, sg, b⟩ = limL v u ⟨ps, sg, b⟩ sU := by unfold limR; rw [if_neg hz, hsU]
        -- the upper bound
        refine bs_mid (fun ρ δ => ρ = put noR A1 (.M kvs) ∧ δ = [some (.lst (rows.map dDr)), some (.str u), some (.lst (pt.map dPt)), some (dO s.l), some (.bl s.li), some (dO sU.u), some (.bl sU.ui), some (.obj A1), some (dRow ⟨ps, sg, b⟩), some (dPap pap), some (dPts ps), some (.str sg.str), some (dQ b), some (dQ (coef ps u)), some (dQ (b - ev v ps)), o15, o16, some (dQ (limit v u ⟨ps, sg, b⟩)), some (.bl (inside ⟨ps, sg, b⟩))])
          (s_if <| wt_ww <| ww_or <| wt_cmp <| w_var 11 rfl <| w_str <| opw_eqS ⟨_, rfl, ?_⟩) ?_
        · rw [str_eq]
          have nextU : (sg = .eq ∨ 0 < coef ps u) → sU.u = (tight s.u s.ui (limit v u ⟨ps, sg, b⟩) (inside ⟨ps, sg, b⟩) 1).1 ∧ sU.ui = (tight s.u s.ui (limit v u ⟨ps, sg, b⟩) (inside ⟨ps, sg, b⟩) 1).2 := fun hh => by
            rw [hsU]; unfold limU; rw [if_pos hh]; exact ⟨rfl, rfl⟩
          have stayU : ¬ (sg = .eq ∨ 0 < coef ps u) → sU.u = s.u ∧ sU.ui = s.ui := fun hh => by
            rw [hsU]; unfold limU; rw [if_neg hh]; exact ⟨rfl, rfl⟩
          by_cases hs : sg = .eq
          · rw [decide_eq_true hs]
            obtain ⟨n1, n2⟩ := nextU (.inl hs)
            refine bs_cons (s_asg (w_call Gi r2 <| wa_v <| w_var 5 rfl <| wa_v <| w_var 6 rfl <| wa_v <| w_var 17 rfl <| wa_v <| w_var 18 rfl <| wa_v <| w_int <| wa_nil ⟨s.u, s.ui, _, _, 1, k, rfl, hsz.2, lsz, by omega, .inl rfl, tg_tup (tgs_cons <| tg_name 5 (tgs_cons <| tg_name 6 (tgs_nil ?_) sc_limits_for.nd) sc_limits_for.nd) rfl rfl⟩))
            rw [← n1, ← n2]
            exact bs_nil ⟨rfl, rfl⟩
          · rw [decide_eq_false hs]
            refine ww_or1 <| wt_cmp <| w_call Gk r1 <| wa_v <| w_var 13 rfl <| wa_v <| w_gd h0 <| wa_nil ⟨coef ps u, 0, c + 1, rfl, csz, Sz.zero.mono (by omega) (by omega), by omega, w_int <| opw_gt ⟨_, rfl, ?_⟩⟩
            rw [decide_eq_decide.mpr (cmpQ_gt (coef ps u) 0)]
            by_cases hp : 0 < coef ps u
            · rw [decide_eq_true hp]
              obtain ⟨n1, n2⟩ := nextU (.inr hp)
              refine bs_cons (s_asg (w_call Gi r2 <| wa_v <| w_var 5 rfl <| wa_v <| w_var 6 rfl <| wa_v <| w_var 17 rfl <| wa_v <| w_var 18 rfl <| wa_v <| w_int <| wa_nil ⟨s.u, s.ui, _, _, 1, k, rfl, hsz.2, lsz, by omega, .inl rfl, tg_tup (tgs_cons <| tg_name 5 (tgs_cons <| tg_name 6 (tgs_nil ?_) sc_limits_for.nd) sc_limits_for.nd) rfl rfl⟩))
              rw [← n1, ← n2]
              exact bs_nil ⟨rfl, rfl⟩
            · rw [decide_eq_false hp]
              obtain ⟨n1, n2⟩ := stayU (fun z => z.elim hs hp)
              rw [n1, n2]
              exact bs_nil ⟨rfl, rfl⟩
        rintro _ _ ⟨rfl, rfl⟩
        have sUl : sU.l = s.l ∧ sU.li = s.li := by rw [hsU]; unfold limU; split <;> exact ⟨rfl, rfl⟩
        -- the lower bound
        have fin : ∀ s2 : Lim, s2 = limL v u ⟨ps, sg, b⟩ sU → True ∧ ∃ (pre' suf' : List DRw) (s' : Lim) (q8 q9 q10 q11 q12 q13 q14 q15 q16 q17 q18 : Option D), suf.map dDr = suf'.map dDr ∧ rows = pre' ++ suf' ∧ s' = lims v u pre' lim0 ∧ put noR A1 (.M kvs) = put noR A1 (.M kvs) ∧
            [some (.lst (rows.map dDr)), some (.str u), some (.lst (pt.map dPt)), some (dO s2.l), some (.bl s2.li), some (dO s2.u), some (.bl s2.ui), some (.obj A1), some (dRow ⟨ps, sg, b⟩), some (dPap pap), some (dPts ps), some (.str sg.str), some (dQ b), some (dQ (coef ps u)), some (dQ (b - ev v ps)), o15, o16, some (dQ (limit v u ⟨ps, sg, b⟩)), some (.bl (inside ⟨ps, sg, b⟩))] = [some (.lst (rows.map dDr)), some (.str u), some (.lst (pt.map dPt)), some (dO s'.l), some (.bl s'.li), some (dO s'.u), some (.bl s'.ui), some (.obj A1), q8, q9, q10, q11, q12, q13, q14, q15, q16, q17, q18] := fun s2 h2 =>
          ⟨trivial, pre ++ [⟨⟨ps, sg, b⟩, pap⟩], suf, s2, some (dRow ⟨ps, sg, b⟩), some (dPap pap), some (dPts ps), some (.str sg.str), some (dQ b), some (dQ (coef ps u)), some (dQ (b - ev v ps)), o15, o16, some (dQ (limit v u ⟨ps, sg, b⟩)), some (.bl (inside ⟨ps, sg, b⟩)), rfl, by rw [e2]; simp, by rw [h2, ← limRe, enext], rfl, rfl⟩
        refine bs_If <| wt_ww <| ww_or <| wt_cmp <| w_var 11 rfl <| w_str <| opw_eqS ⟨_, rfl, ?_⟩
        rw [str_eq]
        have doL : (sg = .eq ∨ coef ps u < 0) → limL v u ⟨ps, sg, b⟩ sU = ⟨(tight s.l s.li (limit v u ⟨ps, sg, b⟩) (inside ⟨ps, sg, b⟩) (-1)).1, (tight s.l s.li (limit v u ⟨ps, sg, b⟩) (inside ⟨ps, sg, b⟩) (-1)).2, sU.u, sU.ui⟩ := fun hh => by
          unfold limL; rw [if_pos hh, sUl.1, sUl.2]
        have noL : ¬ (sg = .eq ∨ coef ps u < 0) → limL v u ⟨ps, sg, b⟩ sU = ⟨s.l, s.li, sU.u, sU.ui⟩ := fun hh => by
          unfold limL; rw [if_neg hh, ← sUl.1, ← sUl.2]
        by_cases hs : sg = .eq
        · rw [decide_eq_true hs]
          refine bs_cons (s_asg (w_call Gi r2 <| wa_v <| w_var 3 rfl <| wa_v <| w_var 4 rfl <| wa_v <| w_var 17 rfl <| wa_v <| w_var 18 rfl <| wa_v <| w_neg <| w_int ⟨1, rfl, wa_nil ⟨s.l, s.li, _, _, -1, k, rfl, hsz.1, lsz, by omega, .inr rfl, tg_tup (tgs_cons <| tg_name 3 (tgs_cons <| tg_name 4 (tgs_nil ?_) sc_limits_for.nd) sc_limits_for.nd) rfl rfl⟩⟩))
          exact bs_nil <| bs_nil <| fin _ (doL (.inl hs)).symm
        · rw [decide_eq_false hs]
          refine ww_or1 <| wt_cmp <| w_call Gk r1 <| wa_v <| w_var 13 rfl <| wa_v <| w_gd h0 <| wa_nil ⟨coef ps u, 0, c + 1, rfl, csz, Sz.zero.mono (by omega) (by omega), by omega, w_int <| opw_lt ⟨_, rfl, ?_⟩⟩
          rw [decide_eq_decide.mpr (cmpQ_lt (coef ps u) 0)]
          by_cases hp : coef ps u < 0
          · rw [decide_eq_true hp]
            refine bs_cons (s_asg (w_call Gi r2 <| wa_v <| w_var 3 rfl <| wa_v <| w_var 4 rfl <| wa_v <| w_var 17 rfl <| wa_v <| w_var 18 rfl <| wa_v <| w_neg <| w_int ⟨1, rfl, wa_nil ⟨s.l, s.li, _, _, -1, k, rfl, hsz.1, lsz, by omega, .inr rfl, tg_tup (tgs_cons <| tg_name 3 (tgs_cons <| tg_name 4 (tgs_nil ?_) sc_limits_for.nd) sc_limits_for.nd) rfl rfl⟩⟩))
            exact bs_nil <| bs_nil <| fin _ (doL (.inr hp)).symm
          · rw [decide_eq_false hp]
            exact bs_nil <| bs_nil <| fin _ (noL fun z => z.elim hs hp).symm
end
end LP
set_option maxRecDepth 100000
set_option maxHeartbeats 4000000
/-! Pn19: sorted points, lists of lists handed on, whole_paper. -/
namespace LP
open PySem PySem.Spec PyProof.Rows L2
/-! ### sorted(list of (text, number)) -/
def encP (p : Str × Rat) : PyData := .tuple [.str p.1, .tuple [.int p.2.num, .int (p.2.den : Int)]]
theorem encP_py (p : Str × Rat) : (dPt p).py = encP p := rfl
theorem alikeP (a b : Str × Rat) : PySem.W.alike (encP a) (encP b) = true := by
  simp [encP, PySem.W.alike, PySem.W.alikeAll]
section
variable {K : PySem.W.Frag} {H0 H : Hp}
theorem each_of : ∀ {pt : Pts} {vs : List V} {us : List Value}, IsVs K H0 H vs (pt.map dPt) → Vals vs us → PySem.W.EachIs (fun (u : Value) (b : V × (Str × Rat)) => RelV b.1 u ∧ IsV K H0 H b.1 (dPt b.2)) us (vs.zip pt)
  | [], vs, us, h, r => by
    cases h
    cases r
    exact .nil
  | p :: pt, vs, us, h, r => by
    obtain ⟨v, vs, rfl, h1, h2⟩ := h
    cases r with
    | cons r1 r2 => exact .cons ⟨r1, h1⟩ (each_of h2 r2)
theorem each_back : ∀ {bs : List (V × (Str × Rat))} {us : List Value}, PySem.W.EachIs (fun (u : Value) (b : V × (Str × Rat)) => RelV b.1 u ∧ IsV K H0 H b.1 (dPt b.2)) us bs → Vals (bs.map (·.1)) us ∧ IsVs K H0 H (bs.map (·.1)) ((bs.map (·.2)).map dPt)
  | [], _, .nil => ⟨.nil, rfl⟩
  | b :: bs, _, .cons h t => by
    obtain ⟨h1, h2⟩ := each_back t
    exact ⟨.cons h.1 h1, ⟨b.1, _, rfl, h.2, h2⟩⟩
end
theorem zip_snd {α β : Type} : ∀ {as : List α} {bs : List β}, as.length = bs.length → (as.zip bs).map (·.2) = bs
  | [], [], _ => rfl
  | a :: as, b :: bs, h => by
    rw [List.zip_cons_cons, List.map_cons, zip_snd (by simpa using h)]
section
variable {X : Cx} {H0 : Hp} {ρ : Rho} {δ : Del} {e : Expr} {es : List Expr} {pos p : Pos}
theorem call_sortP (hu : X.A.units + 64 < cLine) : CallR X (.builtin "sorted") (fun xs H Q => ∃ (a : Addr) (vs : List V) (pt : Pts), xs = [.ref a] ∧ H a = some (.lst vs) ∧ IsVs X.K H0 H vs (pt.map dPt) ∧ pt.length ≤ 1000 ∧
    ∀ (ws : List V) (q : Pts) (p : Addr), q.Perm pt → IsVs X.K H0 H ws (q.map dPt) → H p = none → Q (.ref p) (upd H p (.lst ws))) := by
  intro pins s σ H xs us Q I r q
  obtain ⟨a, vs, pt, ex, ha, hv, hl, q⟩ := q
  subst ex
  obtain ⟨u, eu, rx⟩ := vals1 r
  subst eu
  cases rx
  obtain ⟨its, rv, pl, hz⟩ := I.list (SqL.of (K := X.K) ha)
  have hlen := hv.len
  rw [List.length_map] at hlen
  have ee := each_of hv rv
  have er : PySem.W.EachIs (fun (u : Value) (b : V × (Str × Rat)) => ∃ as, Reads s.heap u (encP b.2) as) its (vs.zip pt) := ee.mono fun u b hb => by
    have := Dp.reads I (dPt b.2).py b.1 u (sm_dp 8 (dPt b.2) b.1 rfl hb.2) hb.1
    exact this
  refine PySem.W.sorted_data (enc := fun b : V × (Str × Rat) => encP b.2) pl.isList ee er (PySem.W.AllAlike.of fun b b' => alikeP b.2 b'.2) (PySem.W.Sortable.tuples fun b => ⟨_, _, rfl⟩) (by rw [List.length_zip, hlen]; simp; exact le_line (by omega)) (fun b hb => ?_) fun out ho eo => ?_
  · have : (encP b.2).depth ≤ 2 := by simp [encP, PyData.depth, PyData.depthAll]
    omega
  · have hperm := List.mergeSort_perm (vs.zip pt) (PySem.W.dataLe false fun b : V × (Str × Rat) => encP b.2)
    generalize (vs.zip pt).mergeSort (PySem.W.dataLe false fun b : V × (Str × Rat) => encP b.2) = bs at *
    obtain ⟨b1, b2⟩ := each_back eo
    have hpm : (bs.map (·.2)).Perm pt := by
      have := hperm.map (·.2)
      rw [zip_snd hlen] at this
      exact this
    obtain ⟨e', he'⟩ := PyProof.Rows.sortedAll_at s.heap its (List.toArray out)
    have hf : H (s.heap.objs.size + 1) = none := I.hok.fresh (Nat.le_succ _)
    have bl : (bs.map (·.1)).length ≤ sizeLine := by
      rw [List.length_map, hperm.length_eq, List.length_zip, hlen]; simp; exact le_line (by omega)
    exact ⟨.ref (s.heap.objs.size + 1), upd H (s.heap.objs.size + 1) (.lst (bs.map (·.1))), I.laid (t' := s.toks) (fun b o e => PyProof.Rows.sortedAll_old e) (Nat.le_succ _) (show ObjOk X.prog X.w _ _ _ (.lst (bs.map (·.1))) from ⟨bl, out, e', b1, he'⟩), rfl, q _ _ _ hpm b2 hf⟩
theorem wl_sortedP {pt : Pts} {q : Addr} {R : List D → Prop} (hu : X.A.units + 64 < cLine) (ho : W X H0 ρ δ e (· = .obj q)) (hq : ρ q = some (.L (pt.map dPt))) (hl : pt.length ≤ 1000) (r : ∀ pt' : Pts, pt'.Perm pt → R (pt'.map dPt)) (hm : X.mg "sorted" = none) (hg : Gl X "sorted" := by rfl)
    (he : starEach [e] X.env = (false, eval e X.env) :: starEach [] X.env := by rfl) : WL X H0 ρ δ (.Call (.Name "sorted" p) [e] [] pos) R :=
  fun σ H F S Q qq => E_of (pe_callB (call_sortP (H0 := H0) hu) hg hm (by decide +kernel) (pa_cons pe_E pa_nil he) (by decide) (by decide) he rfl) (ho σ H F S _ fun v H1 d ed e1 iv => by
    subst ed
    cases iv
    obtain ⟨vs, hv, iv⟩ := ((F.step e1).own q _ hq).2
    exact ⟨q, vs, pt, rfl, hv, iv, hl, fun ws pt' t h1 h2 ht => qq _ _ _ (r pt' h1) (e1.free ht) (e1.trans (.new ht)) ⟨ws, upd_same, h2.mono (.refl _) (Ex.new ht).tk⟩⟩)
/-! ### a list of owned lists handed on -/
inductive Lists (ρ : Rho) : List D → List (List D) → Prop
  | nil : Lists ρ [] []
  | cons {a : Addr} {ds : List D} {xs : List D} {yss : List (List D)} : ρ a = some (.L ds) → Lists ρ xs yss → Lists ρ (.obj a :: xs) (ds :: yss)
theorem lists_at {K : PySem.W.Frag} {H : Hp} (F : Fr K H0 H ρ) : ∀ {xs : List D} {yss : List (List D)} {vs : List V}, Lists ρ xs yss → IsVs K H0 H vs xs → IsVs K H H vs (yss.map D.lst)
  | _, _, _, .nil, h => by cases h; exact rfl
  | _, _, _, .cons ha t, h => by
    obtain ⟨v, r, rfl, h1, h2⟩ := h
    cases h1
    obtain ⟨us, hu, iu⟩ := (F.own _ _ ha).2
    exact ⟨_, r, rfl, ⟨_, us, rfl, hu, iu.mono F.ex (.refl _)⟩, lists_at F t h2⟩
theorem wa_oo {R : List D → Prop} (h : W X H0 ρ δ e fun d => ∃ q xs yss, d = .obj q ∧ ρ q = some (.L xs) ∧ Lists ρ xs yss ∧ WA X H0 ρ δ es fun ds => R (.lst (yss.map .lst) :: ds)) (hs : starEach (e :: es) X.env = (false, eval e X.env) :: starEach es X.env := by rfl) : WA X H0 ρ δ (e :: es) R :=
  fun σ H F S Q q => A_of (pa_cons pe_E pa_A hs) (h σ H F S _ fun x H1 d ⟨a, xs, yss, ed, ha, hl, wr⟩ e1 ix => by
    subst ed
    refine wr σ H1 (F.step e1) (S.step e1) _ fun vs H2 ds r e2 iv => q _ H2 _ r (e1.trans e2) ⟨x, vs, rfl, ?_, iv⟩
    have F2 := (F.step e1).step e2
    obtain ⟨us, hu, iu⟩ := (F2.own a _ ha).2
    exact ⟨a, us, ix, hu, lists_at F2 hl iu⟩)
end
/-! ### whole_paper -/
def wfac (p : Pap) : Rat := if 0 < tops (lcms p 1) p 0 then ((lcms p 1 : Nat) : Rat) / ((tops (lcms p 1) p 0 : Nat) : Rat) else 1
theorem wfac_pos (p : Pap) : 0 < wfac p := by
  unfold wfac
  split
  · rename_i h
    rw [Rat.div_def]
    exact Rat.mul_pos (Rat.natCast_pos.mpr (lcms_pos p 1 (by decide))) (Rat.inv_pos.mpr (Rat.natCast_pos.mpr h))
  · decide
def wWh : List D → (D → Prop) → Prop := fun ds R => ∃ (p : Pap) (n d : Nat), ds = [dPap p] ∧ SzL n d p ∧ (∀ q ∈ p, q.2 ≠ 0) ∧ p.length ≤ 8 ∧ 1 ≤ n ∧ 1 ≤ d ∧ n + 8 * d + 10 < 8900 ∧ R (dPap (p.map fun q => (q.1, wfac p * q.2)))
theorem wfac_whole {p : Pap} {n d : Nat} (s : SzL n d p) (z : ∀ q ∈ p, q.2 ≠ 0) : SzL (n + (p.length - 1) * d) 1 (p.map fun q => (q.1, wfac p * q.2)) := by
  intro q hq
  obtain ⟨q', hq', rfl⟩ := List.mem_map.mp hq
  obtain ⟨w, hw, hb⟩ := whole_val hq' (z q' hq')
  have tp : Bt (n + (p.length - 1) * d) (q'.2.num.natAbs * (lcms p 1 / q'.2.den)) := top_part s hq'
  show Sz _ _ (wfac p * q'.2)
  unfold wfac
  rw [if_pos (Nat.pos_of_ne_zero (tops_ne hq' (z q' hq') 0)), hw]
  refine ⟨?_, by rw [Rat.den_intCast]; show Bt 1 1; simp [Bt]⟩
  rw [Rat.num_intCast]
  exact tp.le hb
section
variable {P : Program} {w : World} {K : PySem.W.Frag} {mg : Str → Option Value} {base : Heap} {f : Addr} {fd : FuncData} {T : Addr}
theorem ok_whole_paper (F : Fun K "whole_paper" "whole_paper" s_whole_paper f fd) (Gc : Def P w K mg base 1 "common_divisor" P_common_divisor (spD K wCd)) (Go : Def P w K mg base 3 "over" P_over (spD K wOver)) (Gt : Def P w K mg base 3 "times" P_times (spD K (wOp (· * ·))))
    (h1 : GD K mg "ONE" (dQ 1)) (hA : mg "abs" = none) (hT : mg "tuple" = none) : FnOk P w K mg base CX0 4 f fd P_whole_paper (spD K wWh) := by
  refine okD F sc_whole_paper (fun ds R h => by obtain ⟨p, n, d, rfl, _⟩ := h; rfl) fun cdv A outer s H E hr ds R h => ?_
  obtain ⟨qs, n, d, rfl, hs, hz, h8, n1, d1, hnd, r⟩ := h
  have hu := hr.units
  have m1 := hr.mono (show 1 ≤ 3 by decide)
  have l1 : qs.length * d ≤ 8 * d := Nat.mul_le_mul_right _ h8
  have l2 : (qs.length - 1) * d ≤ 7 * d := Nat.mul_le_mul_right _ (by omega)
  refine bs_cons (s_set 1 (w_int ?_) sc_whole_paper.nd)
  refine bs_mid (fun ρ δ => ∃ o2 o3, ρ = noR ∧ δ = [some (dPap qs), some (.int (lcms qs 1 : Nat)), o2, o3, none, none, none]) (s_for (it_tup <| w_var 0 rfl ⟨_, rfl, ?_⟩) rfl PassesOwn.never) ?_
  · refine forD_ind (fun rest ρ δ => ∃ (pre suf : Pap) (o2 o3 : Option D), rest = suf.map dIx ∧ qs = pre ++ suf ∧ ρ = noR ∧ δ = [some (dPap qs), some (.int (lcms pre 1 : Nat)), o2, o3, none, none, none]) ?_ ?_ _ _ _ ⟨[], qs, none, none, rfl, rfl, rfl, rfl⟩
    · rintro ρ δ ⟨pre, suf, o2, o3, e1, e2, rfl, rfl⟩
      have : suf = [] := by cases suf with | nil => rfl | cons _ _ => cases e1
      subst this
      rw [List.append_nil] at e2
      subst e2
      exact ⟨o2, o3, rfl, rfl⟩
    · rintro x xs ρ δ ⟨pre, suf, o2, o3, e1, e2, rfl, rfl⟩
      cases suf with
      | nil => cases e1
      | cons q suf =>
        cases e1
        have hq : Sz n d q.2 := hs q (show q ∈ qs by rw [e2]; simp)
        have hl : Bt (qs.length * d + 1) (lcms pre 1) := (lcms_bt hs).dvd (Nat.pos_iff_ne_zero.mp (lcms_pos qs 1 (by decide))) (by rw [e2]; exact (by unfold lcms; rw [List.foldl_append]; exact lcms_dvd0 _ _))
        have hg : Bt d (Nat.gcd (lcms pre 1) q.2.den) := hq.d.dvd q.2.den_nz (Nat.gcd_dvd_right _ _)
        have hgp := Nat.gcd_pos_of_pos_right (lcms pre 1) (Nat.pos_of_ne_zero q.2.den_nz)
        refine tg_tup (tgs_cons <| tg_name 2 (tgs_cons <| tg_name 3 (tgs_nil ?_) sc_whole_paper.nd) sc_whole_paper.nd) rfl rfl
        refine bs_cons (s_set 1 (w_bin <| w_bin <| w_var 1 rfl <| w_ixT 3 1 rfl (r := opw_mul (Bt.wideN hl hq.d (by omega)) <| w_call Gc m1 <| wa_v <| w_var 1 rfl <| wa_v <| w_ixT 3 1 rfl (r := wa_nil ⟨lcms pre 1, q.2.den, rfl, opw_fdiv (Bt.wdivN hg hgp (by omega)) ?_⟩))) sc_whole_paper.nd)
        refine bs_nil ⟨trivial, pre ++ [q], suf, some (.int q.1), some (dQ q.2), rfl, by rw [e2]; simp, rfl, ?_⟩
        rw [show lcms (pre ++ [q]) 1 = Nat.lcm (lcms pre 1) q.2.den by unfold lcms; rw [List.foldl_append]; rfl]
        rw [show ((Nat.lcm (lcms pre 1) q.2.den : Nat) : Int) = (lcms pre 1 : Int) * (q.2.den : Int) / ((Nat.gcd (lcms pre 1) q.2.den : Nat) : Int) by unfold Nat.lcm; rw [Int.natCast_ediv, Int.natCast_mul]]
        rfl
  rintro _ _ ⟨o2, o3, rfl, rfl⟩
  refine bs_cons (s_set 4 (w_int ?_) sc_whole_paper.nd)
  refine bs_mid (fun ρ δ => ∃ o2 o3, ρ = noR ∧ δ = [some (dPap qs), some (.int (lcms qs 1 : Nat)), o2, o3, some (.int (tops (lcms qs 1) qs 0 : Nat)), none, none]) (s_for (it_tup <| w_var 0 rfl ⟨_, rfl, ?_⟩) rfl PassesOwn.never) ?_
  · refine forD_ind (fun rest ρ δ => ∃ (pre suf : Pap) (o2 o3 : Option D), rest = suf.map dIx ∧ qs = pre ++ suf ∧ ρ = noR ∧ δ = [some (dPap qs), some (.int (lcms qs 1 : Nat)), o2, o3, some (.int (tops (lcms qs 1) pre 0 : Nat)), none, none]) ?_ ?_ _ _ _ ⟨[], qs, o2, o3, rfl, rfl, rfl, rfl⟩
    · rintro ρ δ ⟨pre, suf, o2, o3, e1, e2, rfl, rfl⟩
      have : suf = [] := by cases suf with | nil => rfl | cons _ _ => cases e1
      subst this
      rw [List.append_nil] at e2
      rw [← e2]
      exact ⟨o2, o3, rfl, rfl⟩
    · rintro x xs ρ δ ⟨pre, suf, o2, o3, e1, e2, rfl, rfl⟩
      cases suf with
      | nil => cases e1
      | cons q suf =>
        cases e1
        have hqm : q ∈ qs := by rw [e2]; simp
        have hq : Sz n d q.2 := hs q hqm
        have hdv : Bt (qs.length * d + 1) (lcms qs 1 / q.2.den) := (lcms_bt hs).le (Nat.div_le_self _ _)
        have hdp := Nat.pos_of_ne_zero q.2.den_nz
        refine tg_tup (tgs_cons <| tg_name 2 (tgs_cons <| tg_name 3 (tgs_nil ?_) sc_whole_paper.nd) sc_whole_paper.nd) rfl rfl
        refine bs_cons (s_set 4 (w_call Gc m1 <| wa_v <| w_var 4 rfl <| wa_v <| w_abs (w_bin <| w_ixT 3 0 rfl (r := w_bin <| w_var 1 rfl <| w_ixT 3 1 rfl (r := opw_fdiv (Bt.wdivN hq.d hdp (by omega)) <| opw_mul (Bt.wide (j := n) (k := qs.length * d + 1) hq.n ?_ (by omega)) ⟨_, rfl, wa_nil ⟨tops (lcms qs 1) pre 0, q.2.num.natAbs * (lcms qs 1 / q.2.den), ?_, ?_⟩⟩))) hA) sc_whole_paper.nd)
        · rw [← Int.natCast_ediv, Int.natAbs_natCast]; exact hdv
        · rw [← Int.natCast_ediv]
          have : ∀ z : Int, (if z < 0 then -z else z) = (z.natAbs : Int) := fun z => by split <;> omega
          rw [this, Int.natAbs_mul, Int.natAbs_natCast]
        · refine bs_nil ⟨trivial, pre ++ [q], suf, some (.int q.1), some (dQ q.2), rfl, by rw [e2]; simp, rfl, ?_⟩
          rw [show tops (lcms qs 1) (pre ++ [q]) 0 = Nat.gcd (tops (lcms qs 1) pre 0) (q.2.num.natAbs * (lcms qs 1 / q.2.den)) by unfold tops; rw [List.foldl_append]; rfl]
          rfl
  rintro _ _ ⟨o2, o3, rfl, rfl⟩
  have hbt : Bt (qs.length * d + 1) (lcms qs 1) := lcms_bt hs
  have done : ∀ (x y : Nat), Sz x y (wfac qs) → x ≤ 90000 → y + d < 9000 → BS (cxOf CX0 P w K mg base N_whole_paper "whole_paper" (defScope s_whole_paper) f cdv A outer s H E).nox H noR [some (dPap qs), some (.int (lcms qs 1 : Nat)), o2, o3, some (.int (tops (lcms qs 1) qs 0 : Nat)), some (dQ (wfac qs)), none] ((defBody s_whole_paper).drop 5) (PD R) := fun x y hf hx hy => by
    refine bs_cons <| s_ret <| w_tupL (lc2 (α := Nat × Rat) [("index", 6), ("value", 3)] 6 3 sc_whole_paper.nd (it_tup <| w_var 0 rfl ⟨_, rfl, ?_⟩)) hT
    refine ⟨by rw [List.length_map]; exact le_line (by omega), qs, fun p => .int p.1, fun p => dQ p.2, fun p => dIx (p.1, wfac qs * p.2), rfl, fun p hp s' H' C cl fp => ?_, ?_⟩
    · exact w_tup <| wi_cons <| w_var 6 rfl <| wi_cons <| w_call Gt hr <| wa_v <| w_var 5 rfl <| wa_v <| w_var 3 rfl <| wa_nil ⟨wfac qs, p.2, x, y, n, d, rfl, hf, hs p hp, hy, hx, by omega, wi_nil ⟨one_line, rfl⟩⟩
    · unfold dPap at r
      rw [List.map_map] at r
      exact ⟨_, rfl, flat_map _ (fun _ _ => rfl) _, r⟩
  by_cases hnil : qs = []
  · subst hnil
    refine bs_cons (s_set 5 (w_ifE <| wt_cmp <| w_var 4 rfl <| w_int <| opw_gt ⟨_, rfl, ?_⟩) sc_whole_paper.nd)
    refine w_gd h1 ?_
    exact done 1 1 Sz.one (by omega) (by omega)
  · obtain ⟨q0, hm⟩ := List.exists_mem_of_ne_nil qs hnil
    have tp : 0 < tops (lcms qs 1) qs 0 := Nat.pos_of_ne_zero (tops_ne hm (hz q0 hm) 0)
    have htt : Bt (n + (qs.length - 1) * d) (tops (lcms qs 1) qs 0) := tops_bt hs hm (hz q0 hm)
    refine bs_cons (s_set 5 (w_ifE <| wt_cmp <| w_var 4 rfl <| w_int <| opw_gt ⟨_, rfl, ?_⟩) sc_whole_paper.nd)
    rw [decide_eq_true (show (0 : Int) < ((tops (lcms qs 1) qs 0 : Nat) : Int) by omega)]
    have hf : wfac qs = ((lcms qs 1 : Nat) : Rat) / ((tops (lcms qs 1) qs 0 : Nat) : Rat) := by unfold wfac; rw [if_pos tp]
    have tne : ((tops (lcms qs 1) qs 0 : Nat) : Rat) ≠ 0 := by
      have : tops (lcms qs 1) qs 0 ≠ 0 := by omega
      exact_mod_cast this
    refine w_call Go hr <| wa_v <| w_tup <| wi_cons <| w_var 1 rfl <| wi_cons <| w_int <| wi_nil ⟨one_line, wa_v <| w_tup <| wi_cons <| w_var 4 rfl <| wi_cons <| w_int <| wi_nil ⟨one_line, wa_nil ⟨((lcms qs 1 : Nat) : Rat), ((tops (lcms qs 1) qs 0 : Nat) : Rat), _, 1, _, 1, by rw [dQ_nat, dQ_nat], Sz_nat hbt, Sz_nat htt, tne, by omega, by omega, by omega, ?_⟩⟩⟩
    rw [← hf]
    exact done (qs.length * d + 1 + 1) (1 + (n + (qs.length - 1) * d)) (by rw [hf]; exact (Sz_nat hbt).div (Sz_nat htt) tne) (by omega) (by omega)
end
end LP
set_option maxRecDepth 100000
set_option maxHeartbeats 4000000
/-! Pn20: back_from. -/
namespace LP
open PySem PySem.Spec PyProof.Rows L2
def stAt (stages : List (List DRw)) (k : Nat) : List DRw := stages.getD k []
def nmAt (names : List Str) (k : Nat) : Str := names.getD k ""
structure Stg (Jz : Nat → Nat) (names : List Str) (stages : List (List DRw)) (G : Nat → Pts → Prop) : Prop where
  len : stages.length = names.length
  n3 : names.length ≤ 3
  nd : names.Nodup
  g0 : G names.length []
  step : ∀ k pt, k < names.length → G (k + 1) pt → pt.map (·.1) = (names.drop (k + 1)).reverse → gapOk (lims (coef pt) (nmAt names k) (stAt stages k) lim0).l (lims (coef pt) (nmAt names k) (stAt stages k) lim0).li (lims (coef pt) (nmAt names k) (stAt stages k) lim0).u (lims (coef pt) (nmAt names k) (stAt stages k) lim0).ui = true ∧
    ∀ x, LIn x (lims (coef pt) (nmAt names k) (stAt stages k) lim0) → G k (pt ++ [(nmAt names k, x)])
  sz : ∀ k, k < names.length → ∃ c bn bd m, (∀ d ∈ stAt stages k, LimS c bn bd m (nmAt names k) d) ∧ 1 ≤ c ∧ c ≤ 4000 ∧ bn + bd + m * (c + 2 * Jz (k + 1) + 3) + 1 ≤ Jz k - 1 ∧ bd + m * (Jz (k + 1) + 1) + c ≤ Jz k - 1
  mono : ∀ k, Jz (k + 1) ≤ Jz k ∧ 1 ≤ Jz k ∧ Jz k ≤ 4000
  rl : ∀ k, k < names.length → (stAt stages k).length ≤ 1000000
def wBack : List D → (D → Prop) → Prop := fun ds R => ∃ (Jz : Nat → Nat) (names : List Str) (stages : List (List DRw)) (G : Nat → Pts → Prop), ds = [.lst (stages.map fun r => .lst (r.map dDr)), .lst (names.map .str), .tup []] ∧ Stg Jz names stages G ∧
  ∀ pt pt' : Pts, G 0 pt → pt.map (·.1) = names.reverse → pt'.Perm pt → SzL (Jz 0) (Jz 0) pt → R (dPts pt')
theorem nums_down : ∀ n : Nat, nums ((n : Int) - 1) (-1) n = (List.range n).reverse.map fun k : Nat => D.int (k : Int)
  | 0 => rfl
  | n + 1 => by
    rw [nums, List.range_succ, List.reverse_append]
    have e : ((n + 1 : Nat) : Int) - 1 = (n : Int) := by omega
    rw [e]
    show D.int (n : Int) :: nums ((n : Int) + -1) (-1) n = _
    rw [show (n : Int) + -1 = (n : Int) - 1 by omega, nums_down n]
    rfl
section
variable {P : Program} {w : World} {K : PySem.W.Frag} {mg : Str → Option Value} {base : Heap} {f : Addr} {fd : FuncData} {T : Addr}
theorem ok_back_from (F : Fun K "back_from" "back_from" s_back_from f fd) (Gl' : Def P w K mg base 4 "limits_for" P_limits_for (spD K wLim)) (Gs : Def P w K mg base 6 "simplest_between" P_simplest_between (spD K wSb)) (hL : mg "len" = none) (hR : mg "range" = none) (hLi : mg "list" = none) (hT : mg "tuple" = none) (hS : mg "sorted" = none) :
    FnOk P w K mg base CX0 7 f fd P_back_from (spD K wBack) := by
  refine okD F sc_back_from (fun ds R h => by obtain ⟨_, _, _, _, rfl, _⟩ := h; rfl) fun cdv A outer s H E hr ds R h => ?_
  obtain ⟨Jz, names, stages, G, rfl, st, r⟩ := h
  have hu := hr.units
  refine bs_cons (s_setL 3 (wl_list (w_var 2 rfl ⟨[], rfl, fun A1 hA1 => ?_⟩) hLi) sc_back_from.nd)
  have hn3 := st.n3
  have hrg : RgC ((names.length : Int) - 1) (-1) (-1) names.length := by
    have := RgC.neg (i := (names.length : Int) - 1) (j := -1) (by omega) (by omega) (by omega) (by omega)
    rw [show ((names.length : Int) - 1 - -1).toNat = names.length by omega] at this
    exact this
  refine bs_cons (s_for (it_range3 (wi_cons <| w_bin <| w_len (w_var 1 rfl ⟨_, rfl, w_int <| opw_sub <| wi_cons <| w_neg <| w_int ⟨1, rfl, wi_cons <| w_neg <| w_int ⟨1, rfl, wi_nil ⟨(names.length : Int) - 1, -1, -1, names.length, by rw [List.length_map], hrg, ?_⟩⟩⟩⟩) hL) hR) rfl PassesOwn.never)
  rw [nums_down]
  refine forD_ind (fun rest ρ δ => ∃ (k : Nat) (pt : Pts) (o4 o5 o6 o7 o8 : Option D), k ≤ names.length ∧ rest = (List.range k).reverse.map (fun k : Nat => D.int (k : Int)) ∧ G k pt ∧ pt.map (·.1) = (names.drop k).reverse ∧ SzL (Jz k) (Jz k) pt ∧ ρ = put noR A1 (.L (pt.map dPt)) ∧
    δ = [some (.lst (stages.map fun r => .lst (r.map dDr))), some (.lst (names.map .str)), some (.tup []), some (.obj A1), o4, o5, o6, o7, o8]) ?_ ?_ _ _ _ ⟨names.length, [], none, none, none, none, none, Nat.le_refl _, rfl, st.g0, by simp, (fun p hp => by cases hp), rfl, rfl⟩
  · rintro ρ δ ⟨k, pt, o4, o5, o6, o7, o8, hk, e1, g, hn, hz, rfl, rfl⟩
    have k0 : k = 0 := by
      cases k with
      | zero => rfl
      | succ k => rw [List.range_succ, List.reverse_append] at e1; cases e1
    subst k0
    rw [List.drop_zero] at hn
    have hl : pt.length ≤ 3 := by
      have := congrArg List.length hn
      rw [List.length_map, List.length_reverse] at this
      omega
    refine bs_cons <| s_ret <| w_tupL (wl_sortedP hu (w_var 3 rfl rfl) put_same (by omega) (fun pt' hp => ?_) hS) hT
    exact ⟨_, rfl, flat_map _ (fun _ _ => rfl) _, r pt pt' g hn hp hz⟩
  · rintro x xs ρ δ ⟨k, pt, o4, o5, o6, o7, o8, hk, e1, g, hn, hz, rfl, rfl⟩
    cases k with
    | zero => cases e1
    | succ k =>
      rw [List.range_succ, List.reverse_append, List.map_append] at e1
      obtain ⟨rfl, rfl⟩ : x = D.int (k : Int) ∧ xs = (List.range k).reverse.map (fun k : Nat => D.int (k : Int)) := by
        injection e1 with a b
        exact ⟨a, b⟩
      have hk' : k < names.length := by omega
      obtain ⟨c, bn, bd, m, l1, l2, l3, l4, l5⟩ := st.sz k hk'
      obtain ⟨mo1, mo2, mo3⟩ := st.mono k
      obtain ⟨mo4, mo5, mo6⟩ := st.mono (k + 1)
      obtain ⟨gap, next⟩ := st.step k pt hk' g hn
      have es : (stages.map fun r => D.lst (r.map dDr))[k]? = some (D.lst ((stAt stages k).map dDr)) := by
        have : k < stages.length := by rw [st.len]; exact hk'
        rw [List.getElem?_map, List.getElem?_eq_getElem this]
        unfold stAt
        rw [List.getD_eq_getElem?_getD, List.getElem?_eq_getElem this]; rfl
      have en : (names.map D.str)[k]? = some (D.str (nmAt names k)) := by
        rw [List.getElem?_map, List.getElem?_eq_getElem hk']
        unfold nmAt
        rw [List.getD_eq_getElem?_getD, List.getElem?_eq_getElem hk']; rfl
      have edrop : names.drop k = nmAt names k :: names.drop (k + 1) := by
        rw [List.drop_eq_getElem_cons hk']
        unfold nmAt
        rw [List.getD_eq_getElem?_getD, List.getElem?_eq_getElem hk']; rfl
      have ndk : (names.drop k).Nodup := st.nd.sublist (List.drop_sublist _ _)
      rw [edrop, List.nodup_cons] at ndk
      have ptnd : (pt.map (·.1)).Nodup := by rw [hn]; exact (List.reverse_perm _).nodup_iff.mpr ndk.2
      have ptn : nmAt names k ∉ pt.map (·.1) := by rw [hn, List.mem_reverse]; exact ndk.1
      have ptl : pt.length ≤ 3 := by
        have := congrArg List.length hn
        rw [List.length_map, List.length_reverse, List.length_drop] at this
        omega
      obtain ⟨sl, hsl⟩ : ∃ sl, sl = lims (coef pt) (nmAt names k) (stAt stages k) lim0 := ⟨_, rfl⟩
      rw [← hsl] at gap next
      -- sizes of the bounds
      have v0 : coef pt (nmAt names k) = 0 := coef_no ptn
      have vs : ∀ x, Sz (Jz (k + 1)) (Jz (k + 1)) (coef pt x) := fun x => by
        by_cases z : coef pt x = 0
        · rw [z]; exact Sz.zero.mono mo5 mo5
        · obtain ⟨q, hq, e⟩ := coef_key z
          rw [← e, coef_mem ptnd hq]; exact hz q hq
      have fr : From (coef pt) (nmAt names k) (stAt stages k) sl := by rw [hsl]; exact lims_from _ lim0 (fun _ h => h) from0
      have szl : SzO (Jz k - 1) sl.l ∧ SzO (Jz k - 1) sl.u := by
        refine ⟨?_, ?_⟩
        · cases q : sl.l with
          | none => exact trivial
          | some z =>
            obtain ⟨d', g1, g2, g3, g4, g5⟩ := fr.1 z q
            rw [← g4]
            exact limit_sz l2 (l1 d' g1) g2 v0 vs l4 l5
        · cases q : sl.u with
          | none => exact trivial
          | some z =>
            obtain ⟨d', g1, g2, g3, g4, g5⟩ := fr.2 z q
            rw [← g4]
            exact limit_sz l2 (l1 d' g1) g2 v0 vs l4 l5
      refine tg_name 4 (bs_cons (s_asg (w_call Gl' (hr.mono (by decide)) <| wa_v <| w_ix <| w_var 0 rfl <| w_var 4 rfl ⟨k, _, _, rfl, rfl, es, wa_v <| w_ix <| w_var 1 rfl <| w_var 4 rfl ⟨k, _, _, rfl, rfl, en, wa_o <| w_var 3 rfl ⟨A1, _, rfl, put_same, wa_nil ⟨stAt stages k, nmAt names k, pt, c, bn, bd, m, Jz (k + 1), Jz k - 1, rfl, st.rl k hk', l1, ptnd, ptn, hz, mo5, l2, l3, l4, l5, by omega, ?_⟩⟩⟩⟩))) sc_back_from.nd
      rw [← hsl]
      refine tg_tup (tgs_cons <| tg_name 5 (tgs_cons <| tg_name 6 (tgs_cons <| tg_name 7 (tgs_cons <| tg_name 8 (tgs_nil ?_) sc_back_from.nd) sc_back_from.nd) sc_back_from.nd) sc_back_from.nd) rfl rfl
      refine bs_cons (s_append (w_var 3 rfl rfl) put_same (w_tup <| wi_cons <| w_ix <| w_var 1 rfl <| w_var 4 rfl ⟨k, _, _, rfl, rfl, en, wi_cons <| w_call Gs hr <| wa_v <| w_var 5 rfl <| wa_v <| w_var 6 rfl <| wa_v <| w_var 7 rfl <| wa_v <| w_var 8 rfl <| wa_nil ⟨sl.l, sl.li, sl.u, sl.ui, Jz k - 1, rfl, szl.1, szl.2, by omega, gap, fun x xa xb xs => wi_nil ⟨one_line, ?_, ?_⟩⟩⟩))
      · rw [List.length_map]; exact lt_line (by omega)
      · rw [put_put]
        refine bs_nil ⟨trivial, k, pt ++ [(nmAt names k, x)], _, _, _, _, _, by omega, rfl, next x ⟨xa, xb⟩, ?_, ?_, by rw [List.map_append]; rfl, rfl⟩
        · rw [List.map_append, hn, edrop, List.reverse_cons]; rfl
        · refine SzL.app (hz.mono mo1 mo1) fun p hp => ?_
          have : p = (nmAt names k, x) := by simpa using hp
          rw [this]
          exact xs.mono (by omega) (by omega)
end
end LP
set_option maxRecDepth 100000
/-! Sol: what solve keeps from stage to stage, in plain Lean. -/
namespace LP
open PySem L2
def lc : Nat → Nat | 0 => 2 | 1 => 19 | _ => 62
def lbn : Nat → Nat | 0 => 6 | 1 => 37 | _ => 160
def lbd : Nat → Nat | 0 => 6 | 1 => 38 | _ => 179
def lmn : Nat → Nat | 0 => 1 | 1 => 27 | _ => 140
def lmd : Nat → Nat | 0 => 1 | 1 => 28 | _ => 159
def lB : Nat → Nat | 0 => 8 | 1 => 24 | 2 => 168 | _ => 7224
def LvJ (j : Nat) (us : List Str) (d : DRw) : Prop := LvOk (lc j) (lbn j) (lbd j) (lmn j) (lmd j) us d
/-- a row of a stage, or one without parts -/
structure StR (sys : List Row) (j : Nat) (us : List Str) (d : DRw) : Prop where
  dv : Dv sys d
  sz : (d.1.ps = [] ∧ Sz 1000 1000 d.1.b ∧ SzL 911 911 d.2 ∧ d.2.length ≤ 8) ∨ LvJ j us d
theorem StR.b {sys : List Row} {j : Nat} {us : List Str} {d : DRw} (h : StR sys j us d) : Sz 1000 1000 d.1.b := by
  rcases h.sz with h | h
  · exact h.2.1
  · refine h.b.mono ?_ ?_ <;> (rcases j with _ | _ | _ <;> exact Nat.le_of_ble_eq_true rfl)
theorem LvJ.ins {sys : List Row} {j : Nat} {us : List Str} {d : DRw} (h : LvJ j us d) (dv : Dv sys d) (hu : us.length ≤ 3) : InS (lc j) (lbn j) (lbd j) (lmn j) (lmd j) d :=
  ⟨h.cn, h.s, Nat.le_trans (names_len h.cn h.nm) hu, h.b, h.m, h.l, dv.asc⟩
theorem el_step {sys : List Row} {j : Nat} {u : Str} {us : List Str} {rows : List DRw} {r : DRw} (h8 : sys.length ≤ 8) (hj : j ≤ 2) (hu : us.length + 1 + j ≤ 3) (hr : ∀ d ∈ rows, Dv sys d ∧ LvJ j (u :: us) d) (h : ElR (lc j) rows u r) : StR sys (j + 1) us r := by
  rcases h with ⟨hm, hc⟩ | ⟨a, b, one, other, ha, hb, s1, s2, p1, p2, co, h0⟩
  · obtain ⟨dv, lv⟩ := hr r hm
    refine ⟨dv, .inr ?_⟩
    refine LvOk.mono lv ?_ ?_ ?_ ?_ ?_ ?_
    · rcases j with _ | _ | _ | _ <;> first | decide | omega
    · rcases j with _ | _ | _ | _ <;> first | decide | omega
    · rcases j with _ | _ | _ | _ <;> first | decide | omega
    · rcases j with _ | _ | _ | _ <;> first | decide | omega
    · rcases j with _ | _ | _ | _ <;> first | decide | omega
    · intro p hp
      rcases List.mem_cons.mp (lv.nm p hp) with e | e
      · exact absurd (by rw [e]; exact hc) (lv.cn.coef_ne hp)
      · exact e
  · obtain ⟨da, la⟩ := hr a ha
    obtain ⟨db, lb⟩ := hr b hb
    have dv := comb_dv da db p1 p2 co
    have la' : LvOk (lc j + 1) (lbn j) (lbd j) (lmn j) (lmd j) (u :: us) a := la.mono (by omega) (Nat.le_refl _) (Nat.le_refl _) (Nat.le_refl _) (Nat.le_refl _) la.nm
    have lb' : LvOk (lc j + 1) (lbn j) (lbd j) (lmn j) (lmd j) (u :: us) b := lb.mono (by omega) (Nat.le_refl _) (Nat.le_refl _) (Nat.le_refl _) (Nat.le_refl _) lb.nm
    have hl : r.2.length ≤ 8 := by
      have := asc_len dv.asc (n := sys.length) fun i hi => by
        obtain ⟨p, hp, rfl⟩ := List.mem_map.mp hi
        exact dv.lt p hp
      rw [List.length_map] at this
      omega
    have m1 : 1 ≤ lmn j := by rcases j with _ | _ | _ <;> exact Nat.le_of_ble_eq_true rfl
    have m2 : 1 ≤ lmd j := by rcases j with _ | _ | _ <;> exact Nat.le_of_ble_eq_true rfl
    obtain ⟨k1, k2⟩ := comb_lv (us := u :: us) (us' := us) (u := u) (p := 2 - j) (by omega) m1 m2 la' lb' da.asc db.asc s1 s2 co (fun w => by rw [List.mem_cons]) h0 (by omega) hl
    refine ⟨dv, ?_⟩
    by_cases e : r.1.ps = []
    · left
      obtain ⟨x1, x2⟩ := k1 e
      refine ⟨e, x1.mono ?_ ?_, x2.mono ?_ ?_, hl⟩
      · rcases j with _ | _ | _ | _ <;> first | decide | omega
      · rcases j with _ | _ | _ | _ <;> first | decide | omega
      · rcases j with _ | _ | _ | _ <;> first | decide | omega
      · rcases j with _ | _ | _ | _ <;> first | decide | omega
    · right
      have lv := k2 e
      by_cases hj2 : j = 2
      · subst hj2
        have : us = [] := List.eq_nil_of_length_eq_zero (by omega)
        subst this
        have hne := List.exists_mem_of_ne_nil _ e
        obtain ⟨q, hq⟩ := hne
        exact absurd (lv.nm q hq) (by simp)
      · refine LvOk.mono lv ?_ ?_ ?_ ?_ ?_ lv.nm
        · rcases j with _ | _ | _ | _ <;> first | decide | omega
        · rcases j with _ | _ | _ | _ <;> first | decide | omega
        · rcases j with _ | _ | _ | _ <;> first | decide | omega
        · rcases j with _ | _ | _ | _ <;> first | decide | omega
        · rcases j with _ | _ | _ | _ <;> first | decide | omega
theorem lB_step {j n m : Nat} (hj : j ≤ 2) (h : n ≤ lB j) (g : 4 * m ≤ 4 * n + n * n) : m ≤ lB (j + 1) := by
  have h2 : n * n ≤ lB j * lB j := Nat.mul_le_mul h h
  rcases j with _ | _ | _ | _
  · simp only [lB] at *; omega
  · simp only [lB] at *; omega
  · simp only [lB] at *; omega
  · omega
/-- the first stage -/
theorem idx_dv {sys : List Row} (h : ∀ r ∈ sys, LRow r) {d : DRw} (hd : d ∈ idxs sys) : Dv sys d ∧ ∃ r ∈ sys, d.1 = r ∧ SzL 1 1 d.2 ∧ d.2.length = 1 := by
  obtain ⟨k, hk, rfl⟩ := List.mem_map.mp hd
  have hk := List.mem_range.mp hk
  have e : sys[k]? = some (rowAt sys k) := by rw [List.getElem?_eq_getElem hk, rowAt_some (List.getElem?_eq_getElem hk)]
  have hm : rowAt sys k ∈ sys := List.mem_of_getElem? e
  have lr := h _ hm
  refine ⟨⟨by simp, fun p hp => ?_, fun u => ?_, ?_, ?_, lr.c⟩, _, hm, rfl, fun p hp => ?_, rfl⟩
  · have : p = (k, 1) := by simpa using hp
    subst this
    refine ⟨_, e, ?_⟩
    unfold isM
    split
    · exact decide_eq_true (show (1 : Rat) ≠ 0 by decide)
    · exact decide_eq_true (show (0 : Rat) < 1 by decide)
  · show coef (rowAt sys k).ps u = coef (combP sys [(k, 1)]) u
    rw [combP, combP, List.append_nil, coef_map]; grind
  · show (rowAt sys k).b = combB sys [(k, 1)]
    rw [combB, combB]; grind
  · show (rowAt sys k).sg = signOf [(rowAt sys k).sg]
    cases (rowAt sys k).sg <;> simp [signOf]
  · have : p = (k, 1) := by simpa using hp
    subst this
    exact Sz.one
theorem idx_sat {sys : List Row} {v : Val} (h : Sat v (idxs sys)) : ∀ r ∈ sys, Hold v r := fun r hr => by
  obtain ⟨k, hk, e⟩ := List.getElem_of_mem hr
  have := h (rowAt sys k, [(k, 1)]) (List.mem_map.mpr ⟨k, List.mem_range.mpr hk, rfl⟩)
  rw [show rowAt sys k = r from rowAt_some (by rw [List.getElem?_eq_getElem hk, e])] at this
  exact this
theorem idx_st {sys : List Row} {us : List Str} (h : ∀ r ∈ sys, LRow r) (hu : ∀ r ∈ sys, ∀ p ∈ r.ps, p.1 ∈ us) {d : DRw} (hd : d ∈ idxs sys) : StR sys 0 us d := by
  obtain ⟨dv, r, hr, e, s, l⟩ := idx_dv h hd
  have lr := h r hr
  refine ⟨dv, ?_⟩
  by_cases hp : d.1.ps = []
  · exact .inl ⟨hp, by rw [e]; exact lr.b.mono (by omega) (by omega), s.mono (by omega) (by omega), by omega⟩
  · right
    refine ⟨hp, dv.cn, ?_, ?_, ?_, s, by omega⟩
    · rw [e]; exact lr.s
    · rw [e]; exact hu r hr
    · rw [e]; exact lr.b
theorem coef_perm {α : Type} [DecidableEq α] {a b : List (α × Rat)} (h : a.Perm b) (u : α) : coef a u = coef b u := by
  induction h with
  | nil => rfl
  | cons x _ ih => rw [coef, coef, ih]
  | swap x y l => rw [coef, coef, coef, coef]; grind
  | trans _ _ ih1 ih2 => rw [ih1, ih2]
theorem keep_clean {u : Str} {rows made : List DRw} (h : Keepp u rows made) : Keepp u rows (cleanR made) := fun v hv => h v (clean_sat hv)
theorem coef_snocV {pt : Pts} {u : Str} {x : Rat} (h : u ∉ pt.map (·.1)) : coef (pt ++ [(u, x)]) = putV (coef pt) u x := by
  funext w
  rw [coef_app]
  unfold putV
  by_cases e : w = u
  · subst e
    rw [if_pos rfl, coef_no h]; simp [coef]; grind
  · rw [if_neg e]; simp [coef, Ne.symm e]; grind
/-- the paper at the end -/
theorem end_paper {sys : List Row} {d : DRw} (h8 : sys.length ≤ 8) (dv : Dv sys d) (hp : d.1.ps = []) (hh : holds0 d.1 = false) (hs : SzL 911 911 d.2) (hl : d.2.length ≤ 8) :
    PapOk 8000 sys (d.2.map fun q => (q.1, wfac d.2 * q.2)) ∧ (∀ u, coef (combP sys (d.2.map fun q => (q.1, wfac d.2 * q.2))) u = 0) ∧ holds0 (totRow sys (d.2.map fun q => (q.1, wfac d.2 * q.2))) = false := by
  have w0 := wfac_pos d.2
  have nz : ∀ q ∈ d.2, q.2 ≠ 0 := fun q hq => by
    obtain ⟨r, e1, e2⟩ := dv.each q hq
    unfold isM at e2
    split at e2
    · exact of_decide_eq_true e2
    · have := of_decide_eq_true e2; exact fun z => by grind
  have hw := wfac_whole hs nz
  have hcP : ∀ p : Pap, ∀ u, coef (combP sys (p.map fun q => (q.1, wfac d.2 * q.2))) u = wfac d.2 * coef (combP sys p) u := fun p u => by
    induction p with
    | nil => show (0 : Rat) = _ * 0; grind
    | cons q p ih => rw [List.map_cons, combP, combP, coef_app, coef_app, ih, coef_map, coef_map]; grind
  have hcB : ∀ p : Pap, combB sys (p.map fun q => (q.1, wfac d.2 * q.2)) = wfac d.2 * combB sys p := fun p => by
    induction p with
    | nil => show (0 : Rat) = _ * 0; grind
    | cons q p ih => rw [List.map_cons, combB, combB, ih]; grind
  refine ⟨⟨by rw [keys_map]; exact dv.asc, fun q hq => ?_⟩, fun u => ?_, ?_⟩
  · have hq2 := hw q hq
    obtain ⟨q', hq', rfl⟩ := List.mem_map.mp hq
    obtain ⟨r, e1, e2⟩ := dv.each q' hq'
    refine ⟨r, e1, ?_, hq2.mono (by have : (d.2.length - 1) * 911 ≤ 7 * 911 := Nat.mul_le_mul_right _ (by omega); omega) (Nat.le_refl _)⟩
    unfold isM at *
    split at e2
    · rename_i hs'
      rw [if_pos hs']
      exact decide_eq_true fun z => by
        rcases Rat.mul_eq_zero.mp z with h | h
        · grind
        · exact nz q' hq' h
    · rename_i hs'
      rw [if_neg hs']
      exact decide_eq_true (Rat.mul_pos w0 (of_decide_eq_true e2))
  · rw [hcP, ← dv.co, hp]
    show _ * (0 : Rat) = 0
    grind
  · have hb : (totRow sys (d.2.map fun q => (q.1, wfac d.2 * q.2))).b = wfac d.2 * d.1.b := by
      show combB sys _ = _
      rw [hcB, dv.bo]
    have hsg : (totRow sys (d.2.map fun q => (q.1, wfac d.2 * q.2))).sg = d.1.sg := by
      show signOf _ = _
      rw [List.map_map, dv.sg]
      rfl
    unfold holds0 at *
    rw [hb, hsg]
    cases q : d.1.sg with
    | eq =>
      rw [q] at hh
      have hh : decide ((0 : Rat) = d.1.b) = false := hh
      have := of_decide_eq_false hh
      show decide ((0 : Rat) = wfac d.2 * d.1.b) = false
      refine decide_eq_false fun z => ?_
      rcases Rat.mul_eq_zero.mp z.symm with h | h
      · grind
      · exact this h.symm
    | le =>
      rw [q] at hh
      have hh : (decide (0 < d.1.b) || decide ((0 : Rat) = d.1.b)) = false := hh
      rw [Bool.or_eq_false_iff] at hh
      have h1 := of_decide_eq_false hh.1
      have h2 := of_decide_eq_false hh.2
      show (decide (0 < wfac d.2 * d.1.b) || decide ((0 : Rat) = wfac d.2 * d.1.b)) = false
      have neg : d.1.b < 0 := by grind
      have := (mul_lt_iff w0 (a := d.1.b) (b := 0)).mpr neg
      rw [Bool.or_eq_false_iff]
      exact ⟨decide_eq_false (by grind), decide_eq_false (by grind)⟩
    | lt =>
      rw [q] at hh
      have hh : decide (0 < d.1.b) = false := hh
      have h1 := of_decide_eq_false hh
      show decide (0 < wfac d.2 * d.1.b) = false
      have neg : d.1.b ≤ 0 := by grind
      have := (mul_le_iff w0 (a := d.1.b) (b := 0)).mpr neg
      exact decide_eq_false (by grind)
def Jz : Nat → Nat | 0 => 3148 | 1 => 781 | 2 => 341 | _ => 1
end LP
set_option maxRecDepth 100000
set_option maxHeartbeats 4000000
/-! Pn21: solve. -/
namespace LP
open PySem PySem.Spec PyProof.Rows L2
def allN (sys : List Row) : List Str := (sys.map fun r => r.ps.map (·.1)).flatten
def wUnk : List D → (List D → Prop) → Prop := fun ds R => ∃ sys : List Row, ds = [.lst (sys.map dRow)] ∧ sys.length ≤ 63 ∧ (allN sys).length < 64 ∧ R ((nms (allN sys)).map .str)
def wSolve : List D → (D → Prop) → Prop := fun ds R => ∃ sys : List Row, ds = [.lst (sys.map dRow)] ∧ sys.length ≤ 8 ∧ (∀ r ∈ sys, LRow r) ∧ (nms (allN sys)).length ≤ 3 ∧
  (∀ pt : Pts, (pt.map (·.1)).Nodup → pt.length ≤ 3 → SzL 3148 3148 pt → (∀ r ∈ sys, Hold (coef pt) r) → R (.tup [.str "point", dPts pt])) ∧
  (∀ pap : Pap, PapOk 8000 sys pap → pap.length ≤ 8 → (∀ u, coef (combP sys pap) u = 0) → holds0 (totRow sys pap) = false → R (.tup [.str "paper", dPap pap]))
theorem allN_mem {sys : List Row} {r : Row} (hr : r ∈ sys) {p : Str × Rat} (hp : p ∈ r.ps) : p.1 ∈ allN sys := by
  unfold allN
  rw [List.mem_flatten]
  exact ⟨_, List.mem_map.mpr ⟨r, hr, rfl⟩, List.mem_map_of_mem hp⟩
theorem allN_len {sys : List Row} (h : ∀ r ∈ sys, r.ps.length ≤ 3) : (allN sys).length ≤ 3 * sys.length := by
  induction sys with
  | nil => simp [allN]
  | cons r sys ih =>
    have h1 := ih fun q hq => h q (List.mem_cons_of_mem _ hq)
    have h2 := h r (List.mem_cons_self ..)
    unfold allN at *
    rw [List.map_cons, List.flatten_cons, List.length_append, List.length_map, List.length_cons]
    omega
theorem Lists.put {ρ : Rho} {p : Addr} {o : O} {xs : List D} {yss : List (List D)} (h : Lists ρ xs yss) (hn : ∀ a, D.obj a ∈ xs → a ≠ p) : Lists (put ρ p o) xs yss := by
  induction h with
  | nil => exact .nil
  | cons ha t ih => exact .cons (by rw [put_ne (hn _ (List.mem_cons_self ..))]; exact ha) (ih fun a hm => hn a (List.mem_cons_of_mem _ hm))
theorem Lists.snoc {ρ : Rho} {a : Addr} {ds : List D} {xs : List D} {yss : List (List D)} (h : Lists ρ xs yss) (ha : ρ a = some (.L ds)) : Lists ρ (xs ++ [.obj a]) (yss ++ [ds]) := by
  induction h with
  | nil => exact .cons ha .nil
  | cons hb t ih => exact .cons hb ih
theorem Lists.some_ {ρ : Rho} {a : Addr} {xs : List D} {yss : List (List D)} (h : Lists ρ xs yss) (hm : D.obj a ∈ xs) : ∃ ds, ρ a = some (.L ds) := by
  induction h with
  | nil => cases hm
  | cons hb t ih =>
    rcases List.mem_cons.mp hm with e | e
    · cases e; exact ⟨_, hb⟩
    · exact ih e
/-- what is true ahead of a turn -/
structure SolAt (sys : List Row) (names : List Str) (j : Nat) (stages : List (List DRw)) (rows : List DRw) : Prop where
  len : stages.length = j
  rl : rows.length ≤ lB j
  sl : ∀ st ∈ stages, st.length ≤ 1000000
  ok : ∀ k, k < j → ∀ d ∈ stAt stages k, Dv sys d ∧ LvJ k (names.drop k) d
  keep : ∀ k, k < j → Keepp (nmAt names k) (stAt stages k) (stAt (stages ++ [rows]) (k + 1))
  sat0 : ∀ v, Sat v (stAt (stages ++ [rows]) 0) → ∀ r ∈ sys, Hold v r
theorem stAt_app {stages : List (List DRw)} {rows : List DRw} {k : Nat} (h : k < stages.length) : stAt (stages ++ [rows]) k = stAt stages k := by
  unfold stAt
  rw [List.getD_eq_getElem?_getD, List.getD_eq_getElem?_getD, List.getElem?_append_left h]
theorem stAt_end (stages : List (List DRw)) (rows : List DRw) : stAt (stages ++ [rows]) stages.length = rows := by
  unfold stAt
  rw [List.getD_eq_getElem?_getD, List.getElem?_append_right (Nat.le_refl _), Nat.sub_self]; rfl
section
variable {P : Program} {w : World} {K : PySem.W.Frag} {mg : Str → Option Value} {base : Heap} {f : Addr} {fd : FuncData} {T : Addr}
theorem ok_solve (F : Fun K "solve" "solve" s_solve f fd) (Gu : Def P w K mg base 2 "unknowns" P_unknowns (spL K wUnk)) (Gc : Def P w K mg base 4 "cleaned" P_cleaned (spL K wCln)) (Gd : Def P w K mg base 1 "derived" P_derived (spL K wDeriv)) (Gf : Def P w K mg base 3 "false_row" P_false_row (spD K wFal))
    (Ge : Def P w K mg base 8 "eliminated" P_eliminated (spT T (spL K wElm))) (Gw : Def P w K mg base 4 "whole_paper" P_whole_paper (spD K wWh)) (Gb : Def P w K mg base 7 "back_from" P_back_from (spD K wBack)) : FnOk P w K mg base CX0 9 f fd P_solve (spT T (spD K wSolve)) := by
  refine okDT F sc_solve (fun ds R h => by obtain ⟨sys, rfl, _⟩ := h; rfl) fun cdv A outer s H E hT hr ds R h => ?_
  obtain ⟨sys, rfl, h8, hrows, hn3, rpt, rpp⟩ := h
  have hu := hr.units
  have hal := allN_len fun r hr => (hrows r hr).l
  obtain ⟨names, hnames⟩ : ∃ names, names = nms (allN sys) := ⟨_, rfl⟩
  have hnd : names.Nodup := by rw [hnames]; exact nms_nd _
  have hin : ∀ r ∈ sys, ∀ p ∈ r.ps, p.1 ∈ names := fun r hr p hp => by rw [hnames]; exact nms_mem.mpr (allN_mem hr hp)
  rw [← hnames] at hn3
  refine bs_cons (s_setL 1 (wl_call Gu (hr.mono (by decide)) <| wa_v <| w_var 0 rfl <| wa_nil ⟨sys, rfl, by omega, by omega, ?_⟩) sc_solve.nd)
  rw [← hnames]
  intro An hAn
  refine bs_cons (s_setL 2 (wl_call Gc (hr.mono (by decide)) <| wa_l <| wl_call Gd (hr.mono (by decide)) <| wa_v <| w_var 0 rfl <| wa_nil ⟨sys, rfl, by omega, wa_nil ⟨idxs sys, 1000, rfl, by unfold idxs; rw [List.length_map, List.length_range]; omega, fun d hd => (idx_st hrows hin hd).b, by omega, fun Ar hAr => ?_⟩⟩) sc_solve.nd)
  refine bs_cons (s_setL 3 (wl_lst <| wi_nil ⟨by decide, fun As hAs => ?_⟩) sc_solve.nd)
  have nAr : An ≠ Ar := fun e => by subst e; rw [put_same] at hAr; cases hAr
  have nAs : An ≠ As := fun e => by subst e; rw [put_ne nAr, put_same] at hAs; cases hAs
  have nRs : Ar ≠ As := fun e => by subst e; rw [put_same] at hAs; cases hAs
  have ilen : (idxs sys).length = sys.length := by unfold idxs; rw [List.length_map, List.length_range]
  -- the state with its promise
  let Inv' : List Str → Rho → Del → D → Addr → List DRw → Prop := fun _ _ _ _ _ _ => True
  -- the end
  have fin : ∀ (ρ : Rho) (δ : Del) (pre suf : List Str) (stages : List (List DRw)) (rows : List DRw) (objs : List D) (Ax : Addr) (wr : D) (o5 : Option D),
      names = pre ++ suf → SolAt sys names pre.length stages rows → ρ An = some (.L (names.map .str)) → ρ As = some (.L objs) → ρ Ax = some (.L (rows.map dDr)) → Lists ρ objs (stages.map fun r => r.map dDr) →
      δ = [some (.lst (sys.map dRow)), some (.obj An), some (.obj Ax), some (.obj As), some wr, o5] →
      ((∃ d : DRw, wr = dDr d ∧ d ∈ rows ∧ Dv sys d ∧ d.1.ps = [] ∧ holds0 d.1 = false ∧ SzL 911 911 d.2 ∧ d.2.length ≤ 8) ∨ (wr = .non ∧ suf = [] ∧ ∀ d ∈ rows, Dv sys d ∧ LvJ pre.length (names.drop pre.length) d)) →
      BS (cxOf CX0 P w K mg base N_solve "solve" (defScope s_solve) f cdv A outer s H E).nox H ρ δ ((defBody s_solve).drop 5) (PD R) := by
    rintro ρ δ pre suf stages rows objs Ax wr o5 hps sol hρn hρs hρx hls rfl hw
    rcases hw with ⟨d, rfl, hd, dv, dp, dh, ds, dl⟩ | ⟨rfl, rfl, hlv⟩
    · refine bs_If <| wt_cmp <| w_var 4 rfl <| w_non <| opw_notN ⟨_, rfl, ?_⟩
      obtain ⟨e1, e2, e3⟩ := end_paper h8 dv dp dh ds dl
      have nz : ∀ q ∈ d.2, q.2 ≠ 0 := fun q hq => by
        obtain ⟨r, e1, e2⟩ := dv.each q hq
        unfold isM at e2
        split at e2
        · exact of_decide_eq_true e2
        · have := of_decide_eq_true e2; exact fun z => by grind
      refine bs_cons <| s_ret <| w_tup <| wi_cons <| w_str <| wi_cons <| w_call Gw (hr.mono (by decide)) <| wa_v <| w_ixT (xs := [dRow d.1, dPap d.2]) (d := dPap d.2) 4 1 rfl (r := wa_nil ⟨d.2, 911, 911, rfl, ds, nz, dl, by omega, by omega, by omega, wi_nil ⟨one_line, ?_⟩⟩)
      refine ⟨_, rfl, ?_, rpp _ e1 (by rw [List.length_map]; exact dl) e2 e3⟩
      show (true && (D.flats (List.map dIx _) && true)) = true
      rw [flat_map dIx (fun _ _ => rfl)]; rfl
    · refine bs_If <| wt_cmp <| w_var 4 rfl <| w_non <| opw_notN ⟨_, rfl, ?_⟩
      rw [List.append_nil] at hps
      -- no rows are left
      have hr0 : rows = [] := by
        cases rows with
        | nil => rfl
        | cons d rows =>
          obtain ⟨_, lv⟩ := hlv d (List.mem_cons_self ..)
          obtain ⟨q, hq⟩ := List.exists_mem_of_ne_nil _ lv.ne
          have := lv.nm q hq
          rw [← hps, List.drop_length] at this
          cases this
      have slen : stages.length = names.length := by rw [sol.len, hps]
      refine bs_nil <| bs_cons <| s_ret <| w_tup <| wi_cons <| w_str <| wi_cons <| w_call Gb (hr.mono (by decide)) <| wa_oo <| w_var 3 rfl ⟨As, objs, _, rfl, hρs, hls, wa_o <| w_var 1 rfl ⟨An, _, rfl, hρn, wa_v <| w_tup <| wi_nil ⟨by decide, wa_nil ⟨Jz, names, stages, fun k pt => Sat (coef pt) (stAt (stages ++ [rows]) k), by rw [List.map_map]; rfl, ?_, fun pt pt' g hn hp hz => ?_⟩⟩⟩⟩
      · refine ⟨slen, hn3, hnd, ?_, fun k pt hk g hn => ?_, fun k hk => ?_, fun k => ?_, fun k hk => ?_⟩
        · show Sat _ (stAt (stages ++ [rows]) names.length)
          rw [← slen, stAt_end, hr0]
          intro d hd; cases hd
        · have kp := sol.keep k (by rw [← hps]; exact hk)
          have edrop : names.drop k = nmAt names k :: names.drop (k + 1) := by
            rw [List.drop_eq_getElem_cons hk]
            unfold nmAt
            rw [List.getD_eq_getElem?_getD, List.getElem?_eq_getElem hk]; rfl
          have ndk : (names.drop k).Nodup := hnd.sublist (List.drop_sublist _ _)
          rw [edrop, List.nodup_cons] at ndk
          have ptn : nmAt names k ∉ pt.map (·.1) := by rw [hn, List.mem_reverse]; exact ndk.1
          refine ⟨(kp _ g).1, fun x hx => ?_⟩
          show Sat (coef (pt ++ [(nmAt names k, x)])) (stAt (stages ++ [rows]) k)
          rw [coef_snocV ptn, stAt_app (by omega)]
          exact kp.point g hx
        · have lk : ∀ d ∈ stAt stages k, Dv sys d ∧ LvJ k (names.drop k) d := sol.ok k (by rw [← hps]; exact hk)
          refine ⟨lc k, lbn k, lbd k, 2 - k, fun d hd => ?_, ?_, ?_, ?_, ?_⟩
          · obtain ⟨dv, lv⟩ := lk d hd
            refine ⟨lv.cn, lv.s, lv.b, ?_⟩
            have := names_len lv.cn lv.nm
            rw [List.length_drop] at this
            omega
          · rcases k with _ | _ | _ <;> exact Nat.le_of_ble_eq_true rfl
          · rcases k with _ | _ | _ <;> exact Nat.le_of_ble_eq_true rfl
          · have : k ≤ 2 := by omega
            rcases k with _ | _ | _ | _ <;> first | decide | omega
          · have : k ≤ 2 := by omega
            rcases k with _ | _ | _ | _ <;> first | decide | omega
        · rcases k with _ | _ | _ | _ <;> exact ⟨Nat.le_of_ble_eq_true rfl, Nat.le_of_ble_eq_true rfl, Nat.le_of_ble_eq_true rfl⟩
        · have hk' : k < stages.length := by omega
          refine sol.sl _ ?_
          unfold stAt
          rw [List.getD_eq_getElem?_getD, List.getElem?_eq_getElem hk']
          exact List.getElem_mem hk'
      · have hnd' : (pt'.map (·.1)).Nodup := by
          rw [(hp.map (·.1)).nodup_iff, hn]
          exact (List.reverse_perm _).nodup_iff.mpr hnd
        have hl : pt'.length ≤ 3 := by
          have := congrArg List.length hn
          rw [List.length_map, List.length_reverse] at this
          have := hp.length_eq
          omega
        have hc : coef pt' = coef pt := funext fun u => coef_perm hp u
        refine wi_nil ⟨one_line, _, rfl, ?_, rpt pt' hnd' hl (fun q hq => hz q (hp.mem_iff.mp hq)) ?_⟩
        · show (true && (D.flats (List.map dPt _) && true)) = true
          rw [flat_map dPt (fun _ _ => rfl)]; rfl
        · rw [hc]
          exact sol.sat0 _ g
  -- what false_row tells
  have after : ∀ (ρ : Rho) (δ : Del) (j : Nat) (us : List Str) (rows : List DRw) (Ax : Addr) (Q : D → Prop), (∀ d ∈ rows, StR sys j us d ∧ ¬ (d.1.ps = [] ∧ holds0 d.1 = true)) → rows.length ≤ 1000000 → ρ Ax = some (.L (rows.map dDr)) → δ[2]? = some (some (.obj Ax)) →
      (∀ d : DRw, d ∈ rows → Dv sys d → d.1.ps = [] → holds0 d.1 = false → SzL 911 911 d.2 → d.2.length ≤ 8 → Q (dDr d)) → ((∀ d ∈ rows, Dv sys d ∧ LvJ j us d) → Q .non) → ∀ p1 p2 p3,
      W (cxOf CX0 P w K mg base N_solve "solve" (defScope s_solve) f cdv A outer s H E).nox H ρ δ (.Call (.Name "false_row" p1) [.Name "rows" p2] [] p3) Q := by
    intro ρ δ j us rows Ax Q hst hl hρ hδ q1 q2 p1 p2 p3
    refine w_call Gf (hr.mono (by decide)) <| wa_o <| w_var 2 hδ ⟨Ax, _, rfl, hρ, wa_nil ⟨rows, 1000, rfl, hl, fun d hd => (hst d hd).1.b, by omega, fun d hd hp hh => ?_, fun hall => ?_⟩⟩
    · obtain ⟨st, _⟩ := hst d hd
      rcases st.sz with z | z
      · exact q1 d hd st.dv hp hh z.2.2.1 z.2.2.2
      · exact absurd hp z.ne
    · refine q2 fun d hd => ?_
      obtain ⟨st, hn⟩ := hst d hd
      refine ⟨st.dv, ?_⟩
      rcases st.sz with z | z
      · exact absurd ⟨z.1, hall d hd z.1⟩ hn
      · exact z
  have hst0 : ∀ d ∈ cleanR (idxs sys), StR sys 0 names d ∧ ¬ (d.1.ps = [] ∧ holds0 d.1 = true) := fun d hd => by
    obtain ⟨h1, h2⟩ := clean_sub hd
    exact ⟨idx_st hrows hin h1, h2⟩
  have l0 : (cleanR (idxs sys)).length ≤ 8 := by have := clean_len (idxs sys); omega
  have sol0 : SolAt sys names 0 [] (cleanR (idxs sys)) := ⟨rfl, l0, (fun st h => by cases h), (fun k h => by omega), (fun k h => by omega), fun v hv => idx_sat (clean_sat hv)⟩
  have loop : ∀ wr : D, ((∃ d : DRw, wr = dDr d ∧ d ∈ cleanR (idxs sys) ∧ Dv sys d ∧ d.1.ps = [] ∧ holds0 d.1 = false ∧ SzL 911 911 d.2 ∧ d.2.length ≤ 8) ∨ (wr = .non ∧ ∀ d ∈ cleanR (idxs sys), Dv sys d ∧ LvJ 0 names d)) →
      BS (cxOf CX0 P w K mg base N_solve "solve" (defScope s_solve) f cdv A outer s H E).nox H (put (put (put noR An (.L (names.map .str))) Ar (.L ((cleanR (idxs sys)).map dDr))) As (.L [])) [some (.lst (sys.map dRow)), some (.obj An), some (.obj Ar), some (.obj As), some wr, none] ((defBody s_solve).drop 4) (PD R) := by
    intro wr hwr
    refine bs_mid (fun ρ δ => ∃ (pre suf : List Str) (stages : List (List DRw)) (rows : List DRw) (objs : List D) (Ax : Addr) (wr : D) (o5 : Option D),
      names = pre ++ suf ∧ SolAt sys names pre.length stages rows ∧ ρ An = some (.L (names.map .str)) ∧ ρ As = some (.L objs) ∧ ρ Ax = some (.L (rows.map dDr)) ∧ Lists ρ objs (stages.map fun r => r.map dDr) ∧
      δ = [some (.lst (sys.map dRow)), some (.obj An), some (.obj Ax), some (.obj As), some wr, o5] ∧
      ((∃ d : DRw, wr = dDr d ∧ d ∈ rows ∧ Dv sys d ∧ d.1.ps = [] ∧ holds0 d.1 = false ∧ SzL 911 911 d.2 ∧ d.2.length ≤ 8) ∨ (wr = .non ∧ suf = [] ∧ ∀ d ∈ rows, Dv sys d ∧ LvJ pre.length (names.drop pre.length) d)))
      (s_for (it_own <| w_var 1 rfl ⟨An, _, rfl, by rw [put_ne nAs, put_ne nAr, put_same], ?_⟩) rfl PassesOwn.never) ?_
    · refine forD_ind (fun rest ρ δ => ∃ (pre suf : List Str) (stages : List (List DRw)) (rows : List DRw) (objs : List D) (Ax : Addr) (wr : D) (o5 : Option D),
        rest = suf.map D.str ∧ names = pre ++ suf ∧ SolAt sys names pre.length stages rows ∧ ρ An = some (.L (names.map .str)) ∧ ρ As = some (.L objs) ∧ ρ Ax = some (.L (rows.map dDr)) ∧ Lists ρ objs (stages.map fun r => r.map dDr) ∧ Ax ≠ As ∧ Ax ≠ An ∧ (∀ a, D.obj a ∈ objs → a ≠ As) ∧ objs.length ≤ pre.length ∧
        δ = [some (.lst (sys.map dRow)), some (.obj An), some (.obj Ax), some (.obj As), some wr, o5] ∧
        ((∃ d : DRw, wr = dDr d ∧ d ∈ rows ∧ Dv sys d ∧ d.1.ps = [] ∧ holds0 d.1 = false ∧ SzL 911 911 d.2 ∧ d.2.length ≤ 8) ∨ (wr = .non ∧ ∀ d ∈ rows, Dv sys d ∧ LvJ pre.length (names.drop pre.length) d))) ?_ ?_ _ _ _
        ⟨[], names, [], cleanR (idxs sys), [], Ar, wr, none, rfl, rfl, sol0, by rw [put_ne nAs, put_ne nAr, put_same], put_same, by rw [put_ne nRs, put_same], .nil, nRs, nAr.symm, (fun a h => by cases h), Nat.le_refl _, rfl, hwr⟩
      · rintro ρ δ ⟨pre, suf, stages, rows, objs, Ax, wr, o5, e1, e2, sol, a1, a2, a3, a4, a5, a6, a7, a8, rfl, hw⟩
        have : suf = [] := by cases suf with | nil => rfl | cons _ _ => cases e1
        subst this
        exact ⟨pre, [], stages, rows, objs, Ax, wr, o5, e2, sol, a1, a2, a3, a4, rfl, hw.imp id fun h => ⟨h.1, rfl, h.2⟩⟩
      · rintro x xs ρ δ ⟨pre, suf, stages, rows, objs, Ax, wr, o5, e1, e2, sol, a1, a2, a3, a4, a5, a6, a7, a8, rfl, hw⟩
        cases suf with
        | nil => cases e1
        | cons u suf =>
          cases e1
          refine tg_name 5 ?_ sc_solve.nd
          refine bs_If <| wt_cmp <| w_var 4 rfl <| w_non <| opw_notN ⟨_, rfl, ?_⟩
          rcases hw with ⟨d, rfl, hd⟩ | ⟨rfl, hlv⟩
          · exact bs_cons (s_break ⟨pre, u :: suf, stages, rows, objs, Ax, dDr d, some (.str u), e2, sol, a1, a2, a3, a4, rfl, .inl ⟨d, rfl, hd⟩⟩)
          · refine bs_nil ?_
            have plen : pre.length < names.length := by rw [e2]; simp
            have hj : pre.length ≤ 2 := by omega
            have edrop : names.drop pre.length = u :: suf := by rw [e2, List.drop_left]
            have edrop2 : names.drop (pre.length + 1) = suf := by rw [e2, show pre ++ u :: suf = (pre ++ [u]) ++ suf by simp, show pre.length + 1 = (pre ++ [u]).length by simp, List.drop_left]
            have enm : nmAt names pre.length = u := by
              unfold nmAt
              rw [List.getD_eq_getElem?_getD, e2, List.getElem?_append_right (Nat.le_refl _), Nat.sub_self]; rfl
            rw [edrop] at hlv
            have rl1 : rows.length ≤ 168 := by
              have := sol.rl
              have h2 : lB pre.length ≤ 168 := by
                rcases hpl : pre.length with _ | _ | _ | _ <;> first | decide | omega
              omega
            have slen3 : suf.length + 1 + pre.length ≤ 3 := by
              have := congrArg List.length e2
              rw [List.length_append, List.length_cons] at this
              omega
            have hins : ∀ d ∈ rows, InS (lc pre.length) (lbn pre.length) (lbd pre.length) (lmn pre.length) (lmd pre.length) d := fun d hd => (hlv d hd).2.ins (hlv d hd).1 (by rw [List.length_cons]; omega)
            refine bs_cons (s_append (w_var 3 rfl rfl) a2 (w_var 2 rfl ⟨lt_line (by omega), ?_⟩))
            refine bs_cons (s_setL 2 (wl_call Gc (hr.mono (by decide)) <| wa_l <| wl_callT hT Ge hr <| wa_o <| w_var 2 rfl ⟨Ax, _, rfl, by rw [put_ne a5]; exact a3, wa_v <| w_var 5 rfl <| wa_nil ⟨rows, u, lc pre.length, lbn pre.length, lbd pre.length, lmn pre.length, lmd pre.length, rfl, by omega, hins, ?_, ?_, ?_, ?_, ?_, ?_, ?_, ?_, fun made hel hkp hml => ?_⟩⟩) sc_solve.nd)
            · rcases hpl : pre.length with _ | _ | _ <;> exact Nat.le_of_ble_eq_true rfl
            · rcases hpl : pre.length with _ | _ | _ <;> exact Nat.le_of_ble_eq_true rfl
            · rcases hpl : pre.length with _ | _ | _ <;> exact Nat.le_of_ble_eq_true rfl
            · rcases hpl : pre.length with _ | _ | _ <;> exact Nat.le_of_ble_eq_true rfl
            · rcases hpl : pre.length with _ | _ | _ <;> exact Nat.le_of_ble_eq_true rfl
            · rcases hpl : pre.length with _ | _ | _ <;> exact Nat.le_of_ble_eq_true rfl
            · rcases hpl : pre.length with _ | _ | _ <;> exact Nat.le_of_ble_eq_true rfl
            · rcases hpl : pre.length with _ | _ | _ <;> exact Nat.le_of_ble_eq_true rfl
            have hst : ∀ d ∈ made, StR sys (pre.length + 1) suf d := fun d hd => el_step h8 hj slen3 hlv (hel d hd)
            have mlen := lB_step hj sol.rl hml
            have mlen2 : made.length ≤ 7224 := by
              have h2 : lB (pre.length + 1) ≤ 7224 := by
                rcases hpl : pre.length with _ | _ | _ | _ <;> first | decide | omega
              omega
            refine wa_nil ⟨made, 1000, rfl, by omega, fun d hd => (hst d hd).b, by omega, fun Ay hAy => ?_⟩
            have ny1 : Ay ≠ As := fun e => by subst e; rw [put_same] at hAy; cases hAy
            have ny2 : Ay ≠ An := fun e => by subst e; rw [put_ne nAs, a1] at hAy; cases hAy
            have ny3 : Ay ≠ Ax := fun e => by subst e; rw [put_ne a5, a3] at hAy; cases hAy
            have ny4 : ∀ a, D.obj a ∈ objs ++ [.obj Ax] → a ≠ Ay := fun a hm e => by
              subst e
              rcases List.mem_append.mp hm with h | h
              · obtain ⟨ds, hds⟩ := a4.some_ h
                rw [put_ne ny1, hds] at hAy; cases hAy
              · have : a = Ax := by
                  have := List.mem_singleton.mp h
                  injection this
                exact ny3 this
            have cst : ∀ d ∈ cleanR made, StR sys (pre.length + 1) suf d ∧ ¬ (d.1.ps = [] ∧ holds0 d.1 = true) := fun d hd => by
              obtain ⟨h1, h2⟩ := clean_sub hd
              exact ⟨hst d h1, h2⟩
            have clen : (cleanR made).length ≤ lB (pre.length + 1) := Nat.le_trans (clean_len made) mlen
            have sol' : SolAt sys names (pre ++ [u]).length (stages ++ [rows]) (cleanR made) := by
              have lenp : (pre ++ [u]).length = pre.length + 1 := by simp
              rw [lenp]
              refine ⟨by rw [List.length_append, sol.len]; rfl, clen, fun st hs => ?_, fun k hk => ?_, fun k hk => ?_, fun v hv => ?_⟩
              · rcases List.mem_append.mp hs with h | h
                · exact sol.sl st h
                · have : st = rows := by simpa using h
                  rw [this]; omega
              · by_cases hkk : k < pre.length
                · rw [stAt_app (by rw [sol.len]; exact hkk)]
                  exact sol.ok k hkk
                · have : k = stages.length := by rw [sol.len]; omega
                  rw [this, stAt_end, sol.len, edrop]
                  exact hlv
              · by_cases hkk : k < pre.length
                · have := sol.keep k hkk
                  rw [stAt_app (by rw [sol.len]; exact hkk), stAt_app (by rw [List.length_append, sol.len]; simp; omega)]
                  exact this
                · have hke : k = stages.length := by rw [sol.len]; omega
                  have e1 : stAt ((stages ++ [rows]) ++ [cleanR made]) (k + 1) = cleanR made := by
                    have := stAt_end (stages ++ [rows]) (cleanR made)
                    rw [List.length_append] at this
                    rw [hke]; exact this
                  rw [e1, hke, stAt_end, sol.len, enm]
                  exact keep_clean hkp
              · refine sol.sat0 v ?_
                rw [stAt_app (by simp)] at hv
                exact hv
            refine bs_cons (s_set 4 (after _ _ (pre.length + 1) suf (cleanR made) Ay _ cst (by have := clean_len made; omega) put_same rfl (fun d hd dv dp dh ds dl => ?_) (fun hall => ?_) _ _ _) sc_solve.nd)
            · refine bs_nil ⟨by rw [put_ne ny2.symm, put_ne nAs]; exact a1, pre ++ [u], suf, stages ++ [rows], cleanR made, objs ++ [.obj Ax], Ay, dDr d, some (.str u), rfl, by rw [e2]; simp, sol', by rw [put_ne ny2.symm, put_ne nAs]; exact a1, by rw [put_ne ny1.symm, put_same], put_same, ?_, ny1, ny2, ?_, by rw [List.length_append, List.length_append]; simp; omega, rfl, .inl ⟨d, rfl, hd, dv, dp, dh, ds, dl⟩⟩
              · rw [List.map_append]
                exact ((a4.put a7).snoc (by rw [put_ne a5]; exact a3)).put ny4
              · intro a hm
                rcases List.mem_append.mp hm with h | h
                · exact a7 a h
                · have : a = Ax := by
                    have := List.mem_singleton.mp h
                    injection this
                  rw [this]; exact a5
            · refine bs_nil ⟨by rw [put_ne ny2.symm, put_ne nAs]; exact a1, pre ++ [u], suf, stages ++ [rows], cleanR made, objs ++ [.obj Ax], Ay, .non, some (.str u), rfl, by rw [e2]; simp, sol', by rw [put_ne ny2.symm, put_ne nAs]; exact a1, by rw [put_ne ny1.symm, put_same], put_same, ?_, ny1, ny2, ?_, by rw [List.length_append, List.length_append]; simp; omega, rfl, .inr ⟨rfl, ?_⟩⟩
              · rw [List.map_append]
                exact ((a4.put a7).snoc (by rw [put_ne a5]; exact a3)).put ny4
              · intro a hm
                rcases List.mem_append.mp hm with h | h
                · exact a7 a h
                · have : a = Ax := by
                    have := List.mem_singleton.mp h
                    injection this
                  rw [this]; exact a5
              · rw [show (pre ++ [u]).length = pre.length + 1 by simp, edrop2]
                exact hall
    · rintro ρ δ ⟨pre, suf, stages, rows, objs, Ax, wr, o5, e2, sol, a1, a2, a3, a4, rfl, hw⟩
      exact fin ρ _ pre suf stages rows objs Ax wr o5 e2 sol a1 a2 a3 a4 rfl hw
  refine bs_cons (s_set 4 (after _ _ 0 names (cleanR (idxs sys)) Ar _ hst0 (by omega) (by rw [put_ne nRs, put_same]) rfl (fun d hd dv dp dh ds dl => ?_) (fun hall => ?_) _ _ _) sc_solve.nd)
  · exact loop _ (.inl ⟨d, rfl, hd, dv, dp, dh, ds, dl⟩)
  · exact loop _ (.inr ⟨rfl, hall⟩)
end
end LP
set_option maxRecDepth 100000
set_option maxHeartbeats 4000000
/-! Us1: a set of texts: added to, sorted. -/
namespace LP
open PySem PySem.Spec PyProof.Rows L2 PySem.Froz
/-- the set at a holds the texts ks -/
def TSet (P : Program) (w : World) (h : Heap) (a : Addr) (ks : List Str) : Prop :=
  ∃ Z : SD, h.get? a = some (sObj "set" Z) ∧ TxOk P w Z ks ∧ ks.Nodup ∧ Ris Z.2.2.place.toList ∧ (w.params.followText "set-order" = true ∨ Z.2.2.led = true)
def addS (ks : List Str) (k : Str) : List Str := if k ∈ ks then ks else k :: ks
theorem mem_addS {ks : List Str} {k u : Str} : u ∈ addS ks k ↔ u = k ∨ u ∈ ks := by
  unfold addS
  split
  · rename_i h
    exact ⟨.inr, fun z => z.elim (fun e => e ▸ h) id⟩
  · exact List.mem_cons
theorem addS_nd {ks : List Str} {k : Str} (h : ks.Nodup) : (addS ks k).Nodup := by
  unfold addS
  split
  · exact h
  · rename_i n
    exact List.nodup_cons.mpr ⟨n, h⟩
theorem addS_len (ks : List Str) (k : Str) : (addS ks k).length ≤ ks.length + 1 := by
  unfold addS
  split
  · omega
  · simp
theorem walkable (Z : SD) (h : Int) (v : Value) (r : Ris Z.2.2.place.toList) : Ris (addTx h v Z).2.2.place.toList ∧ (addTx h v Z).2.2.led = Z.2.2.led := by
  obtain ⟨es, ep, t⟩ := Z
  have r1 := layNew_ris t es h v r
  have l1 := layNew_led t es h v
  show Ris (tailTx _ _ _ _).2.2.place.toList ∧ (tailTx _ _ _ _).2.2.led = t.led
  have r2 : Ris (if (layNew t es h v).2.1.plain = true then { (layNew t es h v).2.1 with plain := false } else (layNew t es h v).2.1).place.toList := by split <;> exact r1
  have l2 : (if (layNew t es h v).2.1.plain = true then { (layNew t es h v).2.1 with plain := false } else (layNew t es h v).2.1).led = t.led := by split <;> exact l1
  show Ris (tailTx _ (layNew t es h v).1 (if (layNew t es h v).2.1.plain = true then { (layNew t es h v).2.1 with plain := false } else (layNew t es h v).2.1) _).2.2.place.toList ∧ (tailTx _ (layNew t es h v).1 (if (layNew t es h v).2.1.plain = true then { (layNew t es h v).2.1 with plain := false } else (layNew t es h v).2.1) _).2.2.led = t.led
  generalize (if (layNew t es h v).2.1.plain = true then { (layNew t es h v).2.1 with plain := false } else (layNew t es h v).2.1) = t2 at r2 l2 ⊢
  unfold tailTx
  split
  · exact ⟨relayAll_ris _ _ _, (relayAll_led _ _ _).trans l2⟩
  · exact ⟨r2, l2⟩
section
variable {P : Program} {w : World} {A : Around} {E : Value → Shared → Prop} {s : Shared} {a : Addr} {ks : List Str}
theorem TSet.keep {h h' : Heap} (S : TSet P w h a ks) (k : ∀ o, h.get? a = some o → h'.get? a = some o) : TSet P w h' a ks := by
  obtain ⟨Z, ho, r⟩ := S
  exact ⟨Z, k _ ho, r⟩
theorem tset_hashed {k : Str} {u : Tok} {Q : Bool → Shared → Prop} (S : TSet P w s.heap a ks) (room : ks.length + 1 < scanBound)
    (q : ∀ b h', Heap.SameBut a s.heap h' → TSet P w h' a (addS ks k) → Q b { s with heap := h' }) : wpAny (model P w) A (setAddHashed a (.str k u) (hashStr w k)) Q E s := by
  obtain ⟨Z, ho, T, nd, r, l⟩ := S
  by_cases hk : k ∈ ks
  · obtain ⟨es, ep, t⟩ := Z
    have hd : (sObj "set" (es, ep, t)).data = .set es ep t := rfl
    have el : ElemsOf (strKind P w) es.toList := T.el
    have small : es.size < scanBound := by
      have := T.sz
      simp only at this
      omega
    have isk : (strKind P w).is k (.str k u) = true := is_str k u
    unfold setAddHashed setAddHashedIn
    refine wpAny_holding (wpAny_bind (wpAny_setState_of ho hd T.fit ?_))
    dsimp only
    rw [byScan_of rfl small el]
    simp only [↓reduceIte]
    unfold setAddByScan
    refine wpAny_bind (wpAny_bind (wpAny_rule (wpAny_bind (wpAny_setScan_of (knd := strKind P w) (k := k) isk ho hd T.fit el ?_))))
    cases hf : List.findIdx? (fun e => (strKind P w).is k e.2) es.toList with
    | none =>
      obtain ⟨e, he, z⟩ := (T.mem k).mp hk
      rw [List.findIdx?_eq_none_iff.mp hf e he] at z
      cases z
    | some j =>
      dsimp only
      refine wpAny_pure (wpAny_pure (q _ s.heap (Heap.SameBut.refl a s.heap) ?_))
      have e : addS ks k = ks := if_pos hk
      rw [e]
      exact ⟨_, ho, T, nd, r, l⟩
  · refine add_x ho T hk room (q true _ (Heap.SameBut.update s.heap a _) ?_)
    have e : addS ks k = k :: ks := if_neg hk
    have wk := walkable Z (hashStr w k) (.str k u) r
    rw [e]
    exact ⟨_, get_upd _ ho rfl, add_ok u T, List.nodup_cons.mpr ⟨hk, nd⟩, wk.1, by rw [wk.2]; exact l⟩
/-- s.add(k) -/
theorem tset_add {k : Str} {u : Tok} {Q : Value → Shared → Prop} (S : TSet P w s.heap a ks) (room : ks.length + 1 < scanBound)
    (q : ∀ h', Heap.SameBut a s.heap h' → TSet P w h' a (addS ks k) → Q .none { s with heap := h', toks := s.toks + 1 }) :
    wpAny (model P w) A (call (.builtin "set.add") [.ref a, .str k u]) Q E s := by
  have ty : s.TypeIs (.ref a) "set" := by
    obtain ⟨Z, ho, _⟩ := S
    exact ⟨_, ho, rfl⟩
  refine wpAny_call_entry F.slot_set_add ty F.entry_set_add ?_ (F.args_set_add_2 _ _)
  unfold Builtin.«set.add» Builtin.Frozenset.oneOther
  simp only [List.isEmpty_nil, bind_assoc]
  unfold Builtin.Frozenset.addrOf setAdd
  refine wpAny_bind (wpAny_pure ?_)
  try dsimp only
  refine wpAny_bind (wpAny_pure ?_)
  try dsimp only
  refine wpAny_bind (wpAny_holding (wpAny_bind ((strKind P w).pyHash (is_str k u) ?_)))
  refine tset_hashed (s := { s with toks := s.toks + 1 }) S room fun b h' sb T => ?_
  show wpAny _ _ (ret Value.none) _ _ _
  exact wpAny_pure ⟨_, rfl, q h' sb T⟩
theorem tset_new {h : Heap} : TSet P w (h.push { cls := .type "set", dict := none, data := .set #[] 0 (.fresh 0 0 (!w.params.followText "set-order")) }) h.objs.size [] :=
  ⟨(#[], 0, .fresh 0 0 (!w.params.followText "set-order")), Heap.get?_push_size _ rfl, TxOk.nil (by rfl), List.Pairwise.nil, List.Pairwise.nil, by
    show _ ∨ (!w.params.followText "set-order") = true
    cases w.params.followText "set-order"
    · exact .inr rfl
    · exact .inl rfl⟩
theorem strs_of : ∀ (l : List Value), (∀ v ∈ l, ∃ k tk, v = Value.str k tk) → ∃ ks, StrsAre l ks
  | [], _ => ⟨[], .nil⟩
  | v :: l, h => by
    obtain ⟨k, tk, rfl⟩ := h v List.mem_cons_self
    obtain ⟨ks, hk⟩ := strs_of l fun u hu => h u (List.mem_cons_of_mem _ hu)
    exact ⟨k :: ks, .cons k tk hk⟩
theorem strs_mem {l : List Value} {ks : List Str} (h : StrsAre l ks) (k : Str) : k ∈ ks ↔ ∃ v ∈ l, Value.isStrOf k v = true := by
  induction h with
  | nil => simp
  | cons x t h ih =>
    rw [List.mem_cons, ih]
    constructor
    · rintro (e | ⟨v, hv, e⟩)
      · exact ⟨_, List.mem_cons_self .., by rw [e]; simp [Value.isStrOf]⟩
      · exact ⟨v, List.mem_cons_of_mem _ hv, e⟩
    · rintro ⟨v, hv, e⟩
      rcases List.mem_cons.mp hv with z | z
      · subst z
        have : x = k := by simpa [Value.isStrOf] using e
        exact .inl this.symm
      · exact .inr ⟨v, z, e⟩
theorem perm_len [DecidableEq α] : ∀ {ks js : List α}, ks.Nodup → (∀ k ∈ ks, k ∈ js) → js.length ≤ ks.length → js.Perm ks
  | [], js, _, _, h => by
    have : js = [] := List.eq_nil_of_length_eq_zero (Nat.le_zero.mp h)
    rw [this]
  | k :: ks, js, nd, m, h => by
    obtain ⟨n1, n2⟩ := List.nodup_cons.mp nd
    have hk := m k (List.mem_cons_self ..)
    have p1 := List.perm_cons_erase hk
    have le := p1.length_eq
    refine p1.trans (.cons k (perm_len n2 (fun u hu => ?_) (by rw [List.length_cons] at le h; omega)))
    have ne : u ≠ k := fun z => n1 (by rw [← z]; exact hu)
    exact (List.mem_erase_of_ne ne).mpr (m u (List.mem_cons_of_mem _ hu))
theorem strs_len {l : List Value} {ks : List Str} (h : StrsAre l ks) : l.length = ks.length := by
  induction h with
  | nil => rfl
  | cons _ _ _ ih => rw [List.length_cons, List.length_cons, ih]
end
/-! ### as a thing that is tracked -/
def STO (P : Program) (w : World) (a : Addr) (ks : List Str) : HO := .ext fun h => TSet P w h a ks
theorem sto_ok {P : Program} {w : World} {H : Hp} {h : Heap} {a : Addr} {ks : List Str} (S : TSet P w h a ks) : ObjOk P w H h a (STO P w a ks) := by
  obtain ⟨Z, ho, _⟩ := id S
  exact ⟨S, ⟨_, ho⟩, fun h1 h2 p k => TSet.keep p k⟩
section
variable {X : Cx} {pins : List (Addr × Obj)} {σ : L2.St} {H : Hp} {s : Shared}
theorem sto_at {a : Addr} {ks : List Str} (I : Inv X pins σ H s) (h : H a = some (STO X.prog X.w a ks)) : TSet X.prog X.w s.heap a ks := (I.hok a _ h).1
theorem sto_add {E : Value → Shared → Prop} {a : Addr} {ks : List Str} {k : Str} {u : Tok} {Q : Value → Shared → Prop} (I : Inv X pins σ H s) (h : H a = some (STO X.prog X.w a ks)) (room : ks.length + 1 < scanBound)
    (q : ∀ s', Inv X pins σ (upd H a (STO X.prog X.w a (addS ks k))) s' → Q .none s') : wpAny (model X.prog X.w) X.A (call (.builtin "set.add") [.ref a, .str k u]) Q E s := by
  refine tset_add (sto_at I h) room fun h' sb T => ?_
  obtain ⟨Z, ho, _⟩ := id T
  exact q _ (I.write (e := a) (t' := s.toks + 1) (by rw [h]; trivial) (.inl rfl) (fun b o hb e => (sb.2 b hb).trans e) ⟨_, ho⟩ (sto_ok T))
/-- sorted(s) -/
theorem call_sortT (hcalm : X.calm = true) : CallR X (.builtin "sorted") (fun xs H Q => ∃ (a : Addr) (ks : List Str), xs = [.ref a] ∧ H a = some (STO X.prog X.w a ks) ∧ ks.length < 64 ∧
    ∀ ys p, ys.Perm ks → sortedS ys = true → H p = none → Q (.ref p) (upd H p (.lst (ys.map V.str)))) := by
  rintro pins s σ H _ us Q I r ⟨a, ks, rfl, ha, h64, q⟩
  obtain ⟨u, rfl, rx⟩ := vals1 r
  obtain rfl : u = .ref a := rx
  obtain ⟨⟨es, ep, t⟩, ho, T, nd, ri, le⟩ := sto_at I ha
  have sz : es.size = ks.length := T.sz
  have el : ElemsOf (strKind X.prog X.w) es.toList := T.el
  refine Calls.call_function_entry PyProof.Rows.kind_sorted PyProof.Rows.plain_sorted PyProof.Rows.entry_sorted (PyProof.Rows.args_sorted1 _) ?_
  unfold Builtin.«sorted»
  refine wpAny_bind (m := checkCount "sorted" 1 1 _) (wpAny_pure ?_)
  refine wpAny_bind (collect_set (A := X.A.in1) (I.ok.hd hcalm) ⟨_, ho, rfl, rfl⟩ T.fit (by rw [sz]; exact Nat.lt_trans h64 (by decide)) ri le fun s1 vs k1 z1 g1 o1 pm => ?_)
  obtain ⟨js, hS⟩ := strs_of vs fun v hv => by
    obtain ⟨e, he, ee⟩ := List.mem_map.mp (pm.mem_iff.mp hv)
    obtain ⟨⟨k, h1, _⟩, _⟩ := el e he
    obtain ⟨tk, e1⟩ := Value.isStrOf_shape (x := k) (v := e.2) h1
    exact ⟨k, tk, by rw [← ee]; exact e1⟩
  have ln : vs.length = ks.length := by rw [pm.length_eq, List.length_map, Array.length_toList, sz]
  have mm : ∀ k, k ∈ js ↔ k ∈ ks := fun k => by
    rw [strs_mem hS k, show k ∈ ks ↔ _ from T.mem k]
    constructor
    · rintro ⟨v, hv, e⟩
      obtain ⟨p, hp, rfl⟩ := List.mem_map.mp (pm.mem_iff.mp hv)
      exact ⟨p, hp, e⟩
    · rintro ⟨p, hp, e⟩
      exact ⟨p.2, pm.mem_iff.mpr (List.mem_map_of_mem hp), e⟩
  have pj : js.Perm ks := perm_len nd (fun k hk => (mm k).mpr hk) (by rw [← strs_len hS, ln]; exact Nat.le_refl _)
  have I1 : Inv X pins σ H s1 := I.call' (ch := []) o1 (Un.kept k1) (I.hok.kept k1) (by rw [g1]; exact I.bare) (fun _ z => nomatch z)
  refine wpAny_bind (wpAny_newList ?_ (by rw [ln, sizeLine_eq]; omega))
  have hoL : (s1.heap.push (seqObj "list" vs.toArray 0)).get? s1.heap.objs.size = some (seqObj "list" vs.toArray 0) := Heap.get?_push_size _ rfl
  refine wpAny_bind (wpAny_holding (wpAny_call_entry PyProof.Rows.slot_list_sort ⟨_, hoL, rfl⟩ PyProof.Rows.entry_list_sort
    (list_sort_treeK strKind_oneLt hoL hS.keysOf (fun v₁ v₂ rest e => keyKind_strs (by rw [← e]; exact hS)) (by rw [ln]; exact h64) fun st' hp hs => ⟨_, rfl, ?_⟩)
    (PyProof.Rows.args_list_sort _)))
  obtain ⟨ys, g1', g2, g3⟩ := sorted_out_str hS hp hs
  obtain ⟨ep', he'⟩ := PyProof.Rows.sortedHeap_at (vs := vs) (out := (arrOf st').map (·.2)) hoL
  have hf : H s1.heap.objs.size = none := I1.hok.fresh (Nat.le_refl _)
  have hlen : (ys.map V.str).length ≤ sizeLine := by
    rw [List.length_map, g2.length_eq, ← strs_len hS, ln, sizeLine_eq]
    omega
  refine wpAny_pure ⟨_, rfl, .ref s1.heap.objs.size, upd H s1.heap.objs.size (.lst (ys.map V.str)), I1.laid (t' := s1.toks) (fun b o e => ?_) (Nat.le_refl _)
    (show ObjOk X.prog X.w _ _ _ (.lst (ys.map V.str)) from ⟨hlen, ((arrOf st').map (·.2)).toList, ep', vals_of_strs g1', by rw [Array.toArray_toList]; exact he'⟩), rfl, q ys _ (g2.trans pj) g3 hf⟩
  have lt := Heap.lt_size e
  rw [PyProof.Rows.sortedHeap_old (Nat.ne_of_lt lt) (by rw [size_push']; exact Nat.lt_succ_of_lt lt)]
  exact Heap.get?_push_of_some _ e
end
end LP
set_option maxRecDepth 100000
set_option maxHeartbeats 4000000
/-! Us2: {elt for tg in iter for tg1 in iter1}, elt a text. -/
namespace LP
open PySem PySem.Spec PyProof.Rows L2 PySem.Froz PpSet
/-- the comprehension as a piece of syntax -/
@[reducible] def scE (elt t0 i0 t1 i1 : Expr) (sc : Scope) (p : Pos) : Expr := .SetComp elt [⟨t0, i0, [], 0⟩, ⟨t1, i1, [], 0⟩] sc p
theorem turn_outer (elt t0 i0 t1 i1 : Expr) (sc : Scope) (p : Pos) (it acc : Value) (env : Env) : compTurn (scE elt t0 i0 t1 i1 sc p) 0 it acc env = (do
    standAt i0.pos
    match ← pyNext it with
    | none => pure (.done .next)
    | some v =>
      letOwnedTupleGo t0 it v
      assign t0 env v
      let x ← eval i1 env
      standAt i1.pos
      let x ← foldedSetIterable i1 env x
      let _ ← runOwn (.compStart (scE elt t0 i0 t1 i1 sc p) 1 (← holding [x] (pyIter x)) acc env) env
      again (.compLoop (scE elt t0 i0 t1 i1 sc p) 0 it acc env)) := by rfl
theorem turn_inner (elt t0 i0 t1 i1 : Expr) (sc : Scope) (p : Pos) (it acc : Value) (env : Env) : compTurn (scE elt t0 i0 t1 i1 sc p) 1 it acc env = (do
    standAt i1.pos
    match ← pyNext it with
    | none => pure (.done .next)
    | some v =>
      letOwnedTupleGo t1 it v
      assign t1 env v
      (do let v ← eval elt env; standAt elt.pos; let _ ← call (.builtin "set.add") [acc, v])
      again (.compLoop (scE elt t0 i0 t1 i1 sc p) 1 it acc env)) := by rfl
section
variable {prog : Program} {w : World} {A : Around} {R : Result → Shared → Prop} {s : Shared} {elt t0 i0 t1 i1 : Expr} {sc : Scope} {p : Pos} {it acc : Value} {env : Env}
theorem outer_any (hf : ∀ x, foldedSetIterable i1 env x = pure x) (J : Nat → Shared → Prop)
    (turn : ∀ n z, J n z → wpAny (model prog w) A (pyNext it) (fun r z1 => match r with
      | none => R (.ok .next) z1
      | some v => wpAny (model prog w) A (letOwnedTupleGo t0 it v) (fun _ z2 => wpAny (model prog w) A (assign t0 env v) (fun _ z3 =>
          wpAny (model prog w) A (eval i1 env) (fun x z4 => wpAny (model prog w) A (pyIter x) (fun it1 z5 =>
            codeAny (model prog w) A (.compStart (scE elt t0 i0 t1 i1 sc p) 1 it1 acc env) (fun r z' => match r with
              | .ok _ => ∃ m, m < n ∧ J m z'
              | .error _ => False) z5) (notedBy (model prog w) A env fun e z' => R (.error e) z') z4) (notedBy (model prog w) A env fun e z' => R (.error e) z') z3) (notedBy (model prog w) A env fun e z' => R (.error e) z') z2) (notedBy (model prog w) A env fun e z' => R (.error e) z') z1) (notedBy (model prog w) A env fun e z' => R (.error e) z') z)
    (n : Nat) (h : J n s) : codeAny (model prog w) A (.compLoop (scE elt t0 i0 t1 i1 sc p) 0 it acc env) R s := by
  refine codeAny_loop rfl J (fun n z hJ => ?_) n h
  show wpAny _ A ((compTurn (scE elt t0 i0 t1 i1 sc p) 0 it acc env).onRaise (fun x => do noteFrame x env; theTreesLotGoes x)) _ _ z
  refine wpAny_noted ?_
  rw [turn_outer]
  refine wpAny_bind (wpAny_standAt (wpAny_bind (wpAny_mono (turn n z hJ) (fun r z1 h1 => ?_) fun _ _ q => q)))
  cases r with
  | none => exact wpAny_pure h1
  | some v =>
    refine wpAny_bind (wpAny_mono h1 (fun _ z2 h2 => wpAny_bind (wpAny_mono h2 (fun _ z3 h3 => ?_) fun _ _ q => q)) fun _ _ q => q)
    refine wpAny_bind (wpAny_mono h3 (fun x z4 h4 => ?_) fun _ _ q => q)
    refine wpAny_bind (wpAny_standAt (wpAny_bind (wpAny_of_eq (hf x) (wpAny_bind (wpAny_holding (wpAny_mono h4 (fun it1 z5 h5 => ?_) fun _ _ q => q))))))
    refine wpAny_bind (wpAny_runOwn ?_)
    rw [Around.mark_none]
    refine codeAny_mono h5 fun r z' hr => ?_
    cases r with
    | ok f => first
      | exact wpAny_pure ⟨rfl, hr⟩
      | exact wpAny_bind (wpAny_pure (wpAny_pure ⟨rfl, hr⟩))
    | error e => exact hr.elim
theorem inner_any (J : Nat → Shared → Prop)
    (turn : ∀ n z, J n z → wpAny (model prog w) A (pyNext it) (fun r z1 => match r with
      | none => R (.ok .next) z1
      | some v => wpAny (model prog w) A (letOwnedTupleGo t1 it v) (fun _ z2 => wpAny (model prog w) A (assign t1 env v) (fun _ z3 =>
          wpAny (model prog w) A (eval elt env) (fun x z4 => wpAny (model prog w) A (call (.builtin "set.add") [acc, x]) (fun _ z5 => ∃ m, m < n ∧ J m z5)
            (notedBy (model prog w) A env fun e z' => R (.error e) z') z4) (notedBy (model prog w) A env fun e z' => R (.error e) z') z3) (notedBy (model prog w) A env fun e z' => R (.error e) z') z2) (notedBy (model prog w) A env fun e z' => R (.error e) z') z1) (notedBy (model prog w) A env fun e z' => R (.error e) z') z)
    (n : Nat) (h : J n s) : codeAny (model prog w) A (.compLoop (scE elt t0 i0 t1 i1 sc p) 1 it acc env) R s := by
  refine codeAny_loop rfl J (fun n z hJ => ?_) n h
  show wpAny _ A ((compTurn (scE elt t0 i0 t1 i1 sc p) 1 it acc env).onRaise (fun x => do noteFrame x env; theTreesLotGoes x)) _ _ z
  refine wpAny_noted ?_
  rw [turn_inner]
  refine wpAny_bind (wpAny_standAt (wpAny_bind (wpAny_mono (turn n z hJ) (fun r z1 h1 => ?_) fun _ _ q => q)))
  cases r with
  | none => exact wpAny_pure h1
  | some v =>
    refine wpAny_bind (wpAny_mono h1 (fun _ z2 h2 => wpAny_bind (wpAny_mono h2 (fun _ z3 h3 => ?_) fun _ _ q => q)) fun _ _ q => q)
    exact wpAny_bind (wpAny_bind (wpAny_mono h3 (fun x z4 h4 => wpAny_bind (wpAny_standAt (wpAny_bind (wpAny_mono h4 (fun _ z5 h5 => wpAny_pure (wpAny_pure ⟨rfl, h5⟩)) fun _ _ q => q)))) fun _ _ q => q))
theorem start_inner (h0 : codeAny (model prog w) A (.compLoop (scE elt t0 i0 t1 i1 sc p) 1 it acc env) R s)
    (h : wpAny (model prog w) A (pyIter it) (fun it' z' => codeAny (model prog w) A (.compLoop (scE elt t0 i0 t1 i1 sc p) 1 it' acc env) R z')
      (notedBy (model prog w) A env fun x z' => R (.error x) z') s) :
    codeAny (model prog w) A (.compStart (scE elt t0 i0 t1 i1 sc p) 1 it acc env) R s := by
  refine codeAny_of_tree ?_
  show wpAny _ _ ((compStart (scE elt t0 i0 t1 i1 sc p) 1 it acc env).onRaise (fun x => do noteFrame x env; standAt theWindowsPlace)) _ _ s
  refine wpAny_notedAt ?_
  unfold compStart
  show wpAny _ _ (ask >>= _) _ _ s
  refine wpAny_bind (wpAny_askSetting (wpAny_ite ?_))
  split
  · first
      | exact wpAny_bind (wpAny_pure (wpAny_pure (And.intro rfl h0)))
      | exact wpAny_pure (And.intro rfl h0)
  · first
      | exact wpAny_bind (wpAny_rule (wpAny_bind (wpAny_standAt (wpAny_bind (wpAny_mono h (fun it' z' h' => wpAny_pure (And.intro rfl h')) fun _ _ x => x)))))
      | (refine wpAny_bind (wpAny_rule ?_); show wpAny _ _ (standAt i1.pos >>= _) _ _ s; exact wpAny_bind (wpAny_standAt (wpAny_bind (wpAny_mono h (fun it' z' h' => wpAny_pure (And.intro rfl h')) fun _ _ x => x))))
end
section
variable {X : Cx}
/-- what is asked of it; nw: the set -/
def tSc2 (X : Cx) (wi : TI) (g : TG) (wi1 : TI) (g1 : TG) (te : TE) (vs vs1 : List Nat) : TE := fun σ H Q => wi σ H fun J H1 => ∀ nw, H1 nw = none → ∃ Wo : Nat → Nat → Hp → Prop, (∃ m, Wo 0 m (upd H1 nw (STO X.prog X.w nw []))) ∧ ∀ i m H, Wo i m H →
  (J.stop i H ∧ Q (.ref nw) H) ∨ (J.go i H ∧ ∃ Nx : Hp → Prop, (∀ H', Nx H' → ∃ m', m' < m ∧ Wo (i + 1) m' H') ∧ ∀ x H', J.yld i H x H' → g x (wipe σ vs) H' fun σ2 H2 => wipe σ2 vs = wipe σ vs ∧
    wi1 σ2 H2 fun J1 H4 => ∃ Wn : Nat → Nat → Hp → Prop, (∃ m, Wn 0 m H4) ∧ ∀ j k H, Wn j k H →
      (J1.stop j H ∧ Nx H) ∨ (J1.go j H ∧ ∃ Ny : Hp → Prop, (∀ H', Ny H' → ∃ k', k' < k ∧ Wn (j + 1) k' H') ∧ ∀ x H', J1.yld j H x H' → g1 x (wipe σ2 vs1) H' fun σ3 H5 => wipe σ3 vs1 = wipe σ2 vs1 ∧
        te σ3 H5 fun y H7 => ∃ u ks, y = .str u ∧ H7 nw = some (STO X.prog X.w nw ks) ∧ ks.length + 1 < scanBound ∧ Ny (upd H7 nw (STO X.prog X.w nw (addS ks u)))))
/-- the loop of the second clause, in a block's context -/
theorem inner_run {Y : Cx} {pins : List (Addr × Obj)} {s : Shared} {σ : L2.St} {H : Hp} {elt t0 i0 tg1 iter1 : Expr} {sc : Scope} {p : Pos} {vs1 : List Nat} {wi1 : TI} {g1 : TG} {te : TE} {nw : Addr} {Nx : Hp → Prop} {Er : Value → Shared → Prop}
    (hc : Y.calm = true) (hxe : Y.xe = fun _ _ => False) (I : Inv Y pins σ H s) (pi1 : PI Y tg1 iter1 wi1) (pg1 : PG Y tg1 g1) (pe : PE Y elt te)
    (h : wi1 σ H fun J1 H4 => ∃ Wn : Nat → Nat → Hp → Prop, (∃ m, Wn 0 m H4) ∧ ∀ j k H, Wn j k H →
      (J1.stop j H ∧ Nx H) ∨ (J1.go j H ∧ ∃ Ny : Hp → Prop, (∀ H', Ny H' → ∃ k', k' < k ∧ Wn (j + 1) k' H') ∧ ∀ x H', J1.yld j H x H' → g1 x (wipe σ vs1) H' fun σ3 H5 => wipe σ3 vs1 = wipe σ vs1 ∧
        te σ3 H5 fun y H7 => ∃ u ks, y = .str u ∧ H7 nw = some (STO Y.prog Y.w nw ks) ∧ ks.length + 1 < scanBound ∧ Ny (upd H7 nw (STO Y.prog Y.w nw (addS ks u))))) :
    wpAny (model Y.prog Y.w) Y.A (eval iter1 Y.env) (fun x z4 => wpAny (model Y.prog Y.w) Y.A (pyIter x) (fun it1 z5 =>
      codeAny (model Y.prog Y.w) Y.A (.compStart (scE elt t0 i0 tg1 iter1 sc p) 1 it1 (.ref nw) Y.env) (fun r z' => match r with
        | .ok _ => ∃ H', Inv Y pins (wipe σ vs1) H' z' ∧ Nx H'
        | .error _ => False) z5) Er z4) Er s := by
  have run1 := pi1.run pins s σ H _ I h
  rw [hxe] at run1
  refine thnF run1 fun xv z4 hx => thnF hx fun itv z5 h5 => ?_
  obtain ⟨it1, fp, tn, J, H5, rfl, I5, T, st5, f5, Wn, ⟨m, w0⟩, turn⟩ := h5
  have fpY : ∀ {H' : Hp}, (∀ b ∈ fp, H' b = none) → ∀ b ∈ fp, FpOk Y pins H' b := fun hn b hb => ⟨hn b hb, (f5 b hb).2⟩
  have loop : codeAny (model Y.prog Y.w) Y.A (.compLoop (scE elt t0 i0 tg1 iter1 sc p) 1 (.ref it1) (.ref nw) Y.env) (fun r z' => match r with
        | .ok _ => ∃ H', Inv Y pins (wipe σ vs1) H' z' ∧ Nx H'
        | .error _ => False) z5 := by
    refine inner_any (fun k z => ∃ j H', Inv Y pins (wipe σ vs1) H' z ∧ tn j z.heap ∧ (∀ b ∈ fp, H' b = none) ∧ Wn j k H') ?_ m ⟨0, H5, I5.weak (wipe_length _ _) (fun j v e => (wipe_some e).1), st5, fun b hb => (f5 b hb).1, w0⟩
    rintro k z ⟨j, Hj, Ij, stj, nj, wj⟩
    rcases turn j k Hj wj with ⟨stop, nx⟩ | ⟨go, Ny, hNy, step⟩
    · exact thnF (T.done Y rfl rfl rfl hc j _ z (wipe σ vs1) Hj (fun _ _ => False) Ij (fpY nj) stj stop) fun r z1 ⟨hr, I1⟩ => by
        subst hr
        exact ⟨Hj, I1, nx⟩
    · refine thnF (T.item Y rfl rfl rfl hc j _ z (wipe σ vs1) Hj (fun _ _ => False) Ij (fpY nj) stj go) fun r z1 ⟨u1, hr, h1⟩ => ?_
      subst hr
      refine thnF h1 fun _ z2 ⟨x1, H2, I2, r2, y2, st2, n2⟩ => ?_
      have run2 := pg1.run _ z2 (wipe σ vs1) H2 x1 u1 _ (I2.pinned (fpY n2) (T.obj _ _ st2)) r2 (step x1 H2 y2)
      rw [hxe] at run2
      refine thnF run2 fun _ z3 ⟨σ3, H3, I3, hw, q3⟩ => ?_
      have run3 := pe.run _ z3 σ3 H3 _ I3 q3
      rw [hxe] at run3
      refine thnF run3 fun v z4 ⟨yv, H4, I4, r4, u, ks, ey, hnw, room, ny⟩ => ?_
      subst ey
      obtain ⟨t, rfl⟩ := (show ∃ t, v = Value.str u t from r4)
      refine sto_add I4 hnw room fun z5 I5' => ?_
      obtain ⟨k', lt, w'⟩ := hNy _ ny
      have pin' : ∀ b ∈ fp, ∀ o, z2.heap.get? b = some o → z5.heap.get? b = some o ∧ upd H4 nw (STO Y.prog Y.w nw (addS ks u)) b = none := fun b hb o e =>
        let y := I5'.pin (b, o) (List.mem_append_right _ (List.mem_append_right _ (mem_pinsAt hb e)))
        ⟨y.1, y.2.1⟩
      exact ⟨k', lt, j + 1, _, I5'.unpinned.weak (by rw [← hw, wipe_length]) (fun i v e => by rw [← hw] at e; exact (wipe_some e).1), T.keep _ _ _ st2 fun b hb o e => (pin' b hb o e).1, fun b hb => (T.obj _ _ st2 b hb).elim fun o e => (pin' b hb o e.1).2, w'⟩
  exact start_inner loop (T.self Y.A 0 _ _ _ st5 loop)
theorem pe_sc2 {elt tg iter tg1 iter1 : Expr} {scope : Scope} {own : List (PySem.Str × Nat)} {vs1 : List Nat} {pos : Pos} {wi wi1 : TI} {g g1 : TG} {te : TE} (hc : X.calm = true) (hN : X.N.Nodup) (hi : PI X tg iter wi) (ok : BlkOk X.N X.env.scope scope own) (hv : ∀ i ∈ vs1, i ∈ own.map (·.2))
    (hg : Blk X scope fun Y => PG Y tg g) (hi1 : Blk X scope fun Y => PI Y tg1 iter1 wi1) (hg1 : Blk X scope fun Y => PG Y tg1 g1) (he : Blk X scope fun Y => PE Y elt te)
    (hs : ∀ x, foldedSetIterable iter X.env x = pure x := by intro _; rfl) (hs1 : ∀ env x, foldedSetIterable iter1 env x = pure x := by intro _ _; rfl) :
    PE X (scE elt tg iter tg1 iter1 scope pos) (tSc2 X wi g wi1 g1 te (own.map (·.2)) vs1) := by
  refine ⟨fun pins s σ H Q I h => ?_⟩
  show wpAny _ _ (eval (.SetComp elt [⟨tg, iter, [], 0⟩, ⟨tg1, iter1, [], 0⟩] scope pos) X.env) _ _ _
  rw [eval_SetComp]
  have frees : ∀ y ∈ scope.names, y.2 = .free → ∃ c, X.env.cells.lookup y.1 = some c := fun y hy e => (ok.free y hy e).elim (fun k => I.ok.has _ (.inl k)) (fun k => I.ok.has _ (.inr k))
  refine wpAny_comprehension_free (use := none) rfl hs (closure_ok frees) ok.kind (fun y hy e => by rw [ok.uniq y hy, e]) (thn (hi.run pins s σ H _ I h) fun xv s1 hx => thn hx fun itv s2 h2 => ?_)
  obtain ⟨it, fp, tn, J, H2, rfl, I2, T, st2, f2, q⟩ := h2
  refine newSet_ok (newEnv_comp ?_)
  generalize enw : s2.heap.objs.size = nw
  have nw0 : H2 nw = none := I2.hok.fresh (Nat.le_of_eq enw)
  obtain ⟨Wo, ⟨m0, w0⟩, turn⟩ := q nw nw0
  -- the set stands
  generalize es3 : ({ s2 with heap := s2.heap.push { cls := .type "set", dict := none, data := .set #[] 0 (.fresh 0 0 (!X.w.params.followText "set-order")) } } : Shared) = s3
  have up3 : ∀ b o, s2.heap.get? b = some o → s3.heap.get? b = some o := fun b o e => by rw [← es3]; exact Heap.get?_push_of_some _ e
  have I3 : Inv X pins σ (upd H2 nw (STO X.prog X.w nw [])) s3 := by
    rw [← es3]
    refine I2.laid (t' := s2.toks) (fun b o e => Heap.get?_push_of_some _ e) (Nat.le_of_eq enw) ?_
    rw [← enw]
    exact sto_ok tset_new
  have below : ∀ b ∈ fp, b < s2.heap.objs.size := fun b hb => (T.obj _ _ st2 b hb).elim fun o e => Heap.lt_size e.1
  have f3 : ∀ b ∈ fp, FpOk X pins (upd H2 nw (STO X.prog X.w nw [])) b ∧ b < s3.heap.objs.size := fun b hb => by
    have lt := below b hb
    refine ⟨⟨(upd_ne (by rw [← enw]; exact Nat.ne_of_lt lt)).trans (f2 b hb).1, (f2 b hb).2⟩, ?_⟩
    rw [← es3]
    show b < (s2.heap.push _).objs.size
    rw [Heap.size_push]
    exact Nat.lt_succ_of_lt lt
  have st3 : tn 0 s3.heap := T.keep _ _ _ st2 fun b _ o e => up3 b o e
  have I4 := block_start I3 ok hN f3
  have pg := hg s3 (upd H2 nw (STO X.prog X.w nw [])) s3.heap.objs.size (cellsFrom (s3.heap.objs.size + 1) scope.names (cloFrom X.env.cells scope.names [])) fp
  have pe := he s3 (upd H2 nw (STO X.prog X.w nw [])) s3.heap.objs.size (cellsFrom (s3.heap.objs.size + 1) scope.names (cloFrom X.env.cells scope.names [])) fp
  have pi1 := hi1 s3 (upd H2 nw (STO X.prog X.w nw [])) s3.heap.objs.size (cellsFrom (s3.heap.objs.size + 1) scope.names (cloFrom X.env.cells scope.names [])) fp
  have pg1 := hg1 s3 (upd H2 nw (STO X.prog X.w nw [])) s3.heap.objs.size (cellsFrom (s3.heap.objs.size + 1) scope.names (cloFrom X.env.cells scope.names [])) fp
  show codeAny _ _ (.compStart (scE elt tg iter tg1 iter1 scope pos) 0 (.ref it) (.ref nw) (compEnvC scope (cellsFrom (s3.heap.objs.size + 1) scope.names (cloFrom X.env.cells scope.names [])) s3.heap.objs.size X.env)) _ { s3 with heap := pushCells (s3.heap.push { cls := .type "dict", data := .dict #[] }) scope.names }
  have free3 : ∀ b ∈ fp, (upd H2 nw (STO X.prog X.w nw [])) b = none := fun b hb => (f3 b hb).1.1
  generalize ece : compEnvC scope (cellsFrom (s3.heap.objs.size + 1) scope.names (cloFrom X.env.cells scope.names [])) s3.heap.objs.size X.env = ce at I4 pg pe pi1 pg1 ⊢
  have locs : ce.locals = s3.heap.objs.size := by subst ece; rfl
  generalize eH3 : upd H2 nw (STO X.prog X.w nw []) = H3 at I3 I4 pg pe pi1 pg1 w0 free3 f3
  generalize es4 : ({ s3 with heap := pushCells (s3.heap.push { cls := .type "dict", data := .dict #[] }) scope.names } : Shared) = s4 at I4 ⊢
  have st4 : tn 0 s4.heap := T.keep _ _ _ st3 fun b _ o e => by rw [← es4]; exact pushCells_keeps _ _ _ _ (Heap.get?_push_of_some _ e)
  have fpY : ∀ {σ' : L2.St} {H' : Hp} {z : Shared}, Inv (X.blk s3 H3 scope ce fp) [] σ' H' z → (∀ b ∈ fp, H' b = none) → ∀ b ∈ fp, FpOk (X.blk s3 H3 scope ce fp) [] H' b := fun {σ' H' z} I' hn b hb =>
    ⟨hn b hb, (I'.ok.exf b hb).1, I'.ok.exfs b hb, .inl hb, fun x c e => (I'.ok.exf b hb).2 x c e, fun p hp => absurd (show p ∈ ([] : List (Addr × Obj)) ++ [] from hp) (by simp)⟩
  have loop : codeAny (model X.prog X.w) X.A (.compLoop (scE elt tg iter tg1 iter1 scope pos) 0 (.ref it) (.ref nw) ce) (compPost (model X.prog X.w) X.A X.xe none (EP X pins σ Q) (.ref nw) s3.heap.objs.size) s4 := by
    refine outer_any (hs1 ce) (fun n z => ∃ i H', Inv (X.blk s3 H3 scope ce fp) [] (wipe σ (own.map (·.2))) H' z ∧ tn i z.heap ∧ (∀ b ∈ fp, H' b = none) ∧ Wo i n H') ?_ m0 ⟨0, H3, I4, st4, free3, w0⟩
    rintro n z ⟨i, Hi, Ii, sti, ni, wi0⟩
    rcases turn i n Hi wi0 with ⟨stop, qq⟩ | ⟨go, Nx, hNx, step⟩
    · refine thnF (T.done (X.blk s3 H3 scope ce fp) rfl rfl rfl hc i [] z _ Hi (fun _ _ => False) Ii (fpY Ii ni) sti stop) fun r z1 ⟨hr, I1⟩ => ?_
      subst hr
      have Ib : Inv X pins σ Hi z1 := I3.call' (ch := fp) I1.os I1.base I1.hok I1.bare fun b hb => ⟨(f3 b hb).1.2.2.2.1, (f3 b hb).1.2.1, (f3 b hb).1.2.2.2.2.1, (f3 b hb).1.2.2.2.2.2⟩
      have nC : Hi s3.heap.objs.size = none := by rw [← locs]; exact I1.free
      obtain ⟨m, hm, _⟩ := I1.loc
      have hm : z1.heap.Ns ce.locals m := hm
      rw [locs] at hm
      refine ⟨m, hm, fun h'' sb => ?_⟩
      obtain ⟨p0, p1, p2, p3, p4, p5⟩ := I3.fpOk (Nat.le_refl _) nC
      exact ⟨.ref nw, Hi, Ib.turned (t' := z1.toks) (fun b o hb e => (sb.2 b hb).trans e) p0 p1 p3 p4 p5, rfl, qq⟩
    · refine thnF (T.item (X.blk s3 H3 scope ce fp) rfl rfl rfl hc i [] z _ Hi (fun _ _ => False) Ii (fpY Ii ni) sti go) fun r z1 ⟨u, hr, h1⟩ => ?_
      subst hr
      refine thnF h1 fun _ z2 ⟨x, H6, I6, r6, y6, st6, n6⟩ => ?_
      refine thnF (pg.run _ z2 _ H6 x u _ (I6.pinned (fpY I6 n6) (T.obj _ _ st6)) r6 (step x H6 y6)) fun _ z3 ⟨σ7, H7, I7, hw, q7⟩ => ?_
      have run := inner_run (Y := X.blk s3 H3 scope ce fp) (t0 := tg) (i0 := iter) (sc := scope) (p := pos) (Er := fun _ _ => False) hc rfl I7 pi1 pg1 pe q7
      refine thnF run fun xv z4 hx => thnF hx fun itv z5 h5 => codeAny_mono h5 fun r z' hr => ?_
      cases r with
      | error e => exact hr.elim
      | ok _ =>
        obtain ⟨H', I', nx⟩ := hr
        obtain ⟨m', lt, w'⟩ := hNx H' nx
        have pin' : ∀ b ∈ fp, ∀ o, z2.heap.get? b = some o → z'.heap.get? b = some o ∧ H' b = none := fun b hb o e =>
          let y := I'.pin (b, o) (List.mem_append_right _ (List.mem_append_right _ (mem_pinsAt hb e)))
          ⟨y.1, y.2.1⟩
        refine ⟨m', lt, i + 1, H', (I'.unpinned (pins := [])).weak (by rw [← hw, wipe_length, wipe_length]) (fun j v e => ?_), T.keep _ _ _ st6 fun b hb o e => (pin' b hb o e).1, fun b hb => (T.obj _ _ st6 b hb).elim fun o e => (pin' b hb o e.1).2, w'⟩
        rw [← hw] at e
        obtain ⟨e1, e2⟩ := wipe_some e
        rw [wipe_out fun y => e2 (hv j y)]
        exact e1
  exact codeAny_compStart_set loop (T.self X.A 0 _ _ _ st4 loop)
end
end LP
set_option maxRecDepth 100000
set_option maxHeartbeats 4000000
/-! Pn22: unknowns. -/
namespace LP
open PySem PySem.Spec PyProof.Rows L2 PySem.Froz PpSet
theorem put_mem {l : List Str} {k : Str} {ks : List Str} (h : ∀ u, u ∈ ks ↔ u ∈ l) : ∀ u, u ∈ addS ks k ↔ u ∈ l ++ [k] := fun u => by
  rw [mem_addS, List.mem_append, List.mem_singleton, h u]
  exact Or.comm
theorem put_len {l : List Str} {ks : List Str} (nd : ks.Nodup) (h : ∀ u, u ∈ ks ↔ u ∈ l) : ks.length ≤ l.length :=
  (nd.length_le_of_subset fun u hu => (h u).mp hu)
theorem wipe_set3 {σ : L2.St} {vs : List Nat} {i j k : Nat} {v w x : V} (h : i ∈ vs) (h' : j ∈ vs) (h'' : k ∈ vs) : wipe ((((wipe σ vs).set i (some v)).set j (some w)).set k (some x)) vs = wipe σ vs := by
  refine (wipe_eq (fun m hm => ?_) (by simp)).trans (wipe_wipe σ vs)
  rw [List.getElem?_set_ne (show ¬ k = m from fun e => hm (by rw [← e]; exact h'')), List.getElem?_set_ne (show ¬ j = m from fun e => hm (by rw [← e]; exact h')), List.getElem?_set_ne (show ¬ i = m from fun e => hm (by rw [← e]; exact h))]
theorem W.run {X : Cx} {H0 H : Hp} {ρ : Rho} {δ : Del} {σ : L2.St} {e : Expr} {R : D → Prop} {Q : VK} (S : Sl X.K H0 H σ δ) (F : Fr X.K H0 H ρ) (h : W X H0 ρ δ e R) (q : ∀ v H' d, R d → Ex H H' → IsV X.K H0 H' v d → Q v H') : tE X e σ H Q := h σ H F S Q q
theorem ntup_sto {P : Program} {w : World} {H : Hp} {a : Addr} {ks : List Str} (h : H a = some (STO P w a ks)) : NT H a := ⟨(fun xs r => by
  rcases r with r | ⟨o, r⟩
  · rw [h] at r; cases r
  · rw [h] at r; cases r), (fun o u z => by rw [h] at z; cases z)⟩
theorem allN_snoc (pre : List Row) (r : Row) : allN (pre ++ [r]) = allN pre ++ r.ps.map (·.1) := by
  unfold allN
  rw [List.map_append, List.flatten_append]
  simp
section
variable {P : Program} {w : World} {K : PySem.W.Frag} {mg : Str → Option Value} {base : Heap} {f : Addr} {fd : FuncData}
theorem ok_unknowns (F : Fun K "unknowns" "unknowns" s_unknowns f fd) (hS : mg "sorted" = none) : FnOk P w K mg base CX0 2 f fd P_unknowns (spL K wUnk) := by
  refine okL F sc_unknowns (fun ds R h => by obtain ⟨sys, rfl, _⟩ := h; rfl) fun cdv A outer s H0 E hr ds R h => ?_
  obtain ⟨sys, rfl, h63, h64, r⟩ := h
  refine bs_cons <| s_retL ?_
  intro σ H F S Q q
  refine E_of (pe_callB (call_sortT rfl) rfl hS (by decide +kernel) (pa_cons (pe_sc2 (own := [("parts", 1), ("sign", 2), ("bound", 3), ("unknown", 4), ("value", 5)]) (vs1 := [4, 5]) (g := gTup K 3 (gCons (gName 1) (gCons (gName 2) (gCons (gName 3) gNil)))) (g1 := gTup K 2 (gCons (gName 4) (gCons (gName 5) gNil))) (wi1 := fun σ H Q => Blk _ _ fun Y => tI Y _ _ σ H Q) (te := fun σ H Q => Blk _ _ fun Y => tE Y _ σ H Q)
    rfl sc_unknowns.nd pi_I (blk_of rfl) (by decide)
    (fun _ _ _ _ _ => pg_tup rfl (pgs_cons (pg_name (i := 1) sc_unknowns.nd rfl (.inl rfl) (.inr rfl)) (pgs_cons (pg_name (i := 2) sc_unknowns.nd rfl (.inl rfl) (.inr rfl)) (pgs_cons (pg_name (i := 3) sc_unknowns.nd rfl (.inl rfl) (.inr rfl)) pgs_nil rfl) rfl) rfl) rfl rfl)
    (fun s H C cl fp => ⟨fun pins s' σ' H' Q' I h' => h' s H C cl fp pins s' I⟩)
    (fun _ _ _ _ _ => pg_tup rfl (pgs_cons (pg_name (i := 4) sc_unknowns.nd rfl (.inl rfl) (.inr rfl)) (pgs_cons (pg_name (i := 5) sc_unknowns.nd rfl (.inl rfl) (.inr rfl)) pgs_nil rfl) rfl) rfl rfl)
    (fun s H C cl fp => ⟨fun pins s' σ' H' Q' I h' => h' s H C cl fp pins s' I⟩)) pa_nil rfl) (by decide) (by decide) rfl rfl) ?_
  refine it_old (R := fun ρ' ds cl => ds = sys.map dRow) (w_var 0 rfl ⟨_, .inl rfl, rfl⟩) σ H F S _ fun J H1 ρ1 ds cl G ed F1 e1 wk g1 c keep nw hnw => ?_
  subst ed
  have small : ∀ ks : List Str, ks.Nodup → (∀ u ∈ ks, u ∈ allN sys) → ks.length ≤ 63 := fun ks nd h => by
    have := nd.length_le_of_subset (fun u hu => h u hu : ks ⊆ allN sys)
    omega
  have sub : ∀ i u, u ∈ allN (sys.take i) → u ∈ allN sys := fun i u hu => by
    unfold allN at *
    rw [List.mem_flatten] at *
    obtain ⟨l, hl, h⟩ := hu
    obtain ⟨r, hr, rfl⟩ := List.mem_map.mp hl
    exact ⟨_, List.mem_map.mpr ⟨r, List.mem_of_mem_take hr, rfl⟩, h⟩
  refine ⟨fun i m H' => m = sys.length - i ∧ i ≤ sys.length ∧ Ex H1 H' ∧ ∃ ks, H' nw = some (STO P w nw ks) ∧ ks.Nodup ∧ ∀ u, u ∈ ks ↔ u ∈ allN (sys.take i), ⟨sys.length, by simp, Nat.zero_le _, .new hnw, [], upd_same, List.Pairwise.nil, fun u => by simp [allN]⟩, ?_⟩
  rintro i m H2 ⟨rfl, hi, e2, ks, hks, nd, mem⟩
  have F2 := F1.step e2
  have G2 := keep H1 H2 ρ1 g1 e2.tk F2 c
  by_cases lt : i < sys.length
  · refine .inr ⟨wk.go i H2 G2 (by rw [List.length_map]; exact lt), fun H' => Ex H1 H' ∧ ∃ ks, H' nw = some (STO P w nw ks) ∧ ks.Nodup ∧ ∀ u, u ∈ ks ↔ u ∈ allN (sys.take (i + 1)),
      fun H' hr => ⟨sys.length - (i + 1), by omega, rfl, lt, hr⟩, fun x H3 y => ?_⟩
    have hd : (sys.map dRow)[i]? = some (dRow sys[i]) := by rw [List.getElem?_map, List.getElem?_eq_getElem lt]; rfl
    obtain ⟨e3, ix⟩ := wk.yld i H2 x H3 G2 y _ hd
    obtain ⟨a, vs, rfl, sq, v1, r1, rfl, i1, v2, r2, rfl, i2, v3, r3, rfl, i3, rfl⟩ := ix
    have F3 := F2.step e3
    have S3 := ((S.step e1).step e2).step e3
    refine ⟨a, _, rfl, sq, rfl, v1, _, rfl, v2, _, rfl, v3, _, rfl, rfl, wipe_set3 (by decide) (by decide) (by decide), ?_⟩
    have hns : H3 nw = some (STO P w nw ks) := e3.get hks (fun _ z => by cases z)
    intro s' Hb C cl' fp
    show tI _ _ _ _ _ _
    have S4 := (((S3.wipe [1, 2, 3, 4, 5]).set (i := 1) i1).set (i := 2) i2).set (i := 3) i3
    refine it_tup (X := Cx.blk _ s' Hb _ (compEnvC _ cl' C _) fp) (R := fun ρ' ds cl => ρ' = ρ1 ∧ ds = sys[i].ps.map dPt) (w_var (d := dPts sys[i].ps) 1 rfl ⟨_, rfl, rfl, rfl⟩) _ H3 F3 S4 _ fun J1 H4 ρ2 ds1 cl1 G1 ⟨eρ, ed⟩ F4 e4 wk1 g4 c1 keep1 => ?_
    subst eρ
    subst ed
    have hn4 : H4 nw = some (STO P w nw ks) := e4.get hns (fun _ z => by cases z)
    refine ⟨fun j k H' => k = sys[i].ps.length - j ∧ j ≤ sys[i].ps.length ∧ (Ex H1 H' ∧ TK H4 H') ∧ ∃ ks, H' nw = some (STO P w nw ks) ∧ ks.Nodup ∧ ∀ u, u ∈ ks ↔ u ∈ allN (sys.take i) ++ (sys[i].ps.take j).map (·.1),
      ⟨sys[i].ps.length, by simp, Nat.zero_le _, ⟨(e2.trans e3).trans e4, .refl _⟩, ks, hn4, nd, fun u => by simpa using mem u⟩, ?_⟩
    rintro j k H5 ⟨rfl, hj, ⟨e5, t5⟩, ks5, hn5, nd5, mem5⟩
    have F5 := F1.step e5
    have G5 := keep1 H4 H5 ρ2 g4 t5 F5 c1
    by_cases lt1 : j < sys[i].ps.length
    · refine .inr ⟨wk1.go j H5 G5 (by rw [List.length_map]; exact lt1), fun H' => (Ex H1 H' ∧ TK H4 H') ∧ ∃ ks, H' nw = some (STO P w nw ks) ∧ ks.Nodup ∧ ∀ u, u ∈ ks ↔ u ∈ allN (sys.take i) ++ (sys[i].ps.take (j + 1)).map (·.1),
        fun H' hr => ⟨sys[i].ps.length - (j + 1), by omega, rfl, lt1, hr⟩, fun x H6 y6 => ?_⟩
      have hd1 : (sys[i].ps.map dPt)[j]? = some (dPt sys[i].ps[j]) := by rw [List.getElem?_map, List.getElem?_eq_getElem lt1]; rfl
      obtain ⟨e6, ix6⟩ := wk1.yld j H5 x H6 G5 y6 _ hd1
      obtain ⟨a6, vs6, rfl, sq6, v4, r4, rfl, i4, v5, r5, rfl, i5, rfl⟩ := ix6
      have S6 := (S.step e1).step (e5.trans e6)
      refine ⟨a6, _, rfl, sq6, rfl, v4, _, rfl, v5, _, rfl, rfl, wipe_set2 (by decide) (by decide), fun s'' Hb' C' cl'' fp' => ?_⟩
      show tE _ _ _ _ _
      have S7 := (((((S4.step e4).tk t5).step e6).wipe [4, 5]).set (i := 4) i4).set (i := 5) i5
      refine W.run (X := Cx.blk _ s'' Hb' _ (compEnvC _ cl'' C' _) fp') S7 (F5.step e6) (w_var (R := (· = .str sys[i].ps[j].1)) 4 rfl rfl) fun v H7 d ed e7 iv => ?_
      subst ed
      cases iv
      have e57 := e6.trans e7
      have hn7 : H7 nw = some (STO P w nw ks5) := e57.get hn5 (fun _ z => by cases z)
      have l5 := put_len nd5 mem5
      refine ⟨_, ks5, rfl, hn7, ?_, ⟨(e5.trans e57).mut hnw, (t5.trans e57.tk).trans (TK.mut (.refl _) (ntup_sto hn7))⟩, _, upd_same, addS_nd nd5, ?_⟩
      · refine Nat.lt_of_le_of_lt (Nat.add_le_add_right (small ks5 nd5 fun u hu => ?_) 1) (show 64 < scanBound by decide)
        rcases List.mem_append.mp ((mem5 u).mp hu) with z | z
        · exact sub i u z
        · obtain ⟨p, hp, rfl⟩ := List.mem_map.mp z
          exact allN_mem (List.getElem_mem lt) (List.mem_of_mem_take hp)
      · rw [← List.take_append_getElem lt1, List.map_append, ← List.append_assoc]
        exact put_mem mem5
    · have ej : j = sys[i].ps.length := by omega
      subst ej
      have hst := wk1.stop H5 G5
      rw [List.length_map] at hst
      refine .inl ⟨hst, e5, ks5, hn5, nd5, fun u => ?_⟩
      rw [mem5 u, List.take_length, ← List.take_append_getElem lt, allN_snoc]
  · have ei : i = sys.length := by omega
    subst ei
    have hst := wk.stop H2 G2
    rw [List.length_map] at hst
    rw [List.take_length] at mem
    refine .inl ⟨hst, nw, ks, rfl, hks, ?_, fun ys p hp hsrt hfree => ?_⟩
    · have := small ks nd fun u hu => (mem u).mp hu
      omega
    · have e := nms_eq hp hsrt nd mem
      subst e
      have e12 := e1.trans e2
      exact q _ _ _ ⟨_, rfl, flat_map D.str (fun _ _ => rfl) _, r⟩ (e12.free hfree) (e12.trans (.new hfree)) ⟨_, upd_same, isVs_strs _⟩
end
end LP
set_option maxRecDepth 100000
set_option maxHeartbeats 4000000
/-! Fw8: new owned lists within what is made; a displayed dict of texts, looked into. -/
namespace LP
open PySem PySem.Spec PyProof.Rows L2
/-- ρ' knows new owned objects at most -/
def Grow (H : Hp) (ρ ρ' : Rho) : Prop := ∀ b, H b ≠ none → ρ' b = ρ b
def WN (X : Cx) (H0 : Hp) (ρ : Rho) (δ : Del) (e : Expr) (R : Rho → D → Prop) : Prop :=
  ∀ σ H, Fr X.K H0 H ρ → Sl X.K H0 H σ δ → ∀ Q : VK, (∀ v H' ρ' d, R ρ' d → Ex H H' → Fr X.K H0 H' ρ' → Grow H ρ ρ' → IsV X.K H0 H' v d → Q v H') → tE X e σ H Q
def WNs (X : Cx) (H0 : Hp) (ρ : Rho) (δ : Del) (es : List Expr) (R : Rho → List D → Prop) : Prop :=
  ∀ σ H, Fr X.K H0 H ρ → Sl X.K H0 H σ δ → ∀ Q : List V → Hp → Prop, (∀ vs H' ρ' ds, R ρ' ds → Ex H H' → Fr X.K H0 H' ρ' → Grow H ρ ρ' → IsVs X.K H0 H' vs ds → Q vs H') → tA X es σ H Q
theorem Ex.some {H H' : Hp} (e : Ex H H') {b : Addr} (h : H b ≠ none) : H' b ≠ none := fun z => h (e.free z)
section
variable {X : Cx} {H0 : Hp} {ρ : Rho} {δ : Del} {e b : Expr} {es : List Expr} {pos p : Pos}
theorem wn_v {R : Rho → D → Prop} (h : W X H0 ρ δ e (R ρ)) : WN X H0 ρ δ e R := fun σ H F S Q q => h σ H F S Q fun v H' d r e1 iv => q v H' ρ d r e1 (F.step e1) (fun _ _ => rfl) iv
theorem wn_l {R : Rho → D → Prop} (h : WL X H0 ρ δ e fun xs => ∀ a, ρ a = none → R (put ρ a (.L xs)) (.obj a)) : WN X H0 ρ δ e R :=
  fun σ H F S Q q => h σ H F S Q fun a H' xs r hn e1 oa => q (.ref a) H' _ _ (r a (F.free hn)) e1 ((F.step e1).new (F.ex.free hn) oa) (fun b hb => put_ne fun z => hb (by rw [z]; exact hn)) rfl
theorem wns_nil {R : Rho → List D → Prop} (r : R ρ []) : WNs X H0 ρ δ [] R := fun σ H F S Q q => A_of pa_nil (q [] H ρ [] r (.refl H) F (fun _ _ => rfl) rfl)
theorem wns_cons {R : Rho → List D → Prop} (h : WN X H0 ρ δ e fun ρ' d => WNs X H0 ρ' δ es fun ρ'' ds => R ρ'' (d :: ds)) (hs : starEach (e :: es) X.env = (false, eval e X.env) :: starEach es X.env := by rfl) : WNs X H0 ρ δ (e :: es) R :=
  fun σ H F S Q q => A_of (pa_cons pe_E pa_A hs) (h σ H F S _ fun x H1 ρ1 d wr e1 F1 g1 ix => wr σ H1 F1 (S.step e1) _ fun vs H2 ρ2 ds r e2 F2 g2 iv => q _ H2 ρ2 _ r (e1.trans e2) F2 (fun b hb => (g2 b (e1.some hb)).trans (g1 b hb)) ⟨x, vs, rfl, ix.mono (.refl _) e2.tk, iv⟩)
theorem wn_tup {x1 : Nat} {R : Rho → D → Prop} (h : WNs X H0 ρ δ es fun ρ' ds => ds.length ≤ sizeLine ∧ R ρ' (.tup ds)) : WN X H0 ρ δ (.Tuple es x1 pos) R :=
  fun σ H F S Q q => E_of (pe_tup pa_A) (h σ H F S _ fun vs H1 ρ1 ds ⟨hl, r⟩ e1 F1 g1 iv => ⟨by rw [iv.len]; exact hl, fun a ha => q _ _ ρ1 _ r (e1.trans (.new ha)) (F1.step (.new ha)) g1 ⟨a, vs, rfl, .of upd_same, iv.mono (.refl _) (Ex.new ha).tk⟩⟩)
/-- x = [..] with new lists within -/
theorem s_setN (i : Nat) {x : Str} {px : Pos} {P : Post} (h : WNs X H0 ρ δ es fun ρ' ds => ds.length ≤ sizeLine ∧ ∀ a, ρ' a = none → P.nx (put ρ' a (.L ds)) (δ.set i (some (.obj a)))) (hN : X.N.Nodup) (hi : X.N[i]? = some x := by rfl) (hx : Loc X.env.scope x := by first | exact Or.inl rfl | exact Or.inr rfl)
    (hs : swapsWith (.List es p) (some (.Name x px)) pos.line X.env = pure false := by rfl) (hf : X.fn x = true ∨ X.env.scope.names.lookup x = some .local := by first | exact .inl rfl | exact .inr rfl) : S1 X H0 ρ δ (.Assign [.Name x px] (.List es p) pos) P :=
  fun σ H F S Dn o => S_of (ps_set hN hi hx (pe_lst pa_A) hs hf) (h σ H F S _ fun vs H1 ρ1 ds ⟨hl, r⟩ e1 F1 g1 iv => ⟨by rw [iv.len]; exact hl, fun a ha => by
    have e2 := e1.trans (Ex.new (o := .lst vs) ha)
    exact o.nx _ _ _ _ (r a (F1.free ha)) ((F1.step (.new ha)).new (F1.ex.free ha) ⟨vs, upd_same, iv.mono (.refl _) (Ex.new ha).tk⟩) ((S.step e2).set rfl) e2.tk⟩)
/-- what nobody owns may change -/
theorem Fr.aside {K : PySem.W.Frag} {H : Hp} {a : Addr} {o : HO} (F : Fr K H0 H ρ) (h0 : H0 a = none) (hr : ρ a = none) (nt : NT H a) : Fr K H0 (L2.upd H a o) ρ := ⟨F.ex.mut h0, fun b u e => by
  obtain ⟨x1, x2⟩ := F.own b u e
  have ne : b ≠ a := fun z => by rw [z, hr] at e; cases e
  exact ⟨x1, x2.keep (fun w hw _ => by rw [upd_ne ne]; exact hw) (TK.mut (.refl _) nt)⟩⟩
/-- y = [elt for x in iter], the elements with new lists within -/
theorem s_setLcN {α : Type} (i j : Nat) (own : List (Str × Nat)) {x y : Str} {px py spos : Pos} {elt iter : Expr} {scope : Scope} {P : Post} (hN : X.N.Nodup)
    (h : WIt X H0 ρ δ (.Name x px) iter fun ρ' ds cl => ds.length ≤ sizeLine ∧ (∀ r, cl r) ∧ ∃ (as : List α) (gg : α → D) (J : List α → Rho → List D → Prop), ds = as.map gg ∧ J [] ρ' [] ∧
      (∀ pre a suf ρ1 acc, as = pre ++ a :: suf → J pre ρ1 acc → Blk X scope fun Y => WN Y H0 ρ1 ((wipeD δ (own.map (·.2))).set j (some (gg a))) elt fun ρ2 d => J (pre ++ [a]) ρ2 (acc ++ [d])) ∧
      (∀ ρ2 acc, J as ρ2 acc → ∀ a, ρ2 a = none → P.nx (put ρ2 a (.L acc)) (δ.set i (some (.obj a)))))
    (hc : X.calm = true := by rfl) (ok : blkB X.N X.env.scope scope own = true := by rfl) (hi : j ∈ own.map (·.2) := by decide)
    (hg : X.N.Nodup → Blk X scope fun Y => PG Y (.Name x px) (gName j) := by exact fun hN _ _ _ _ _ => pg_name hN rfl (by first | exact Or.inl rfl | exact Or.inr rfl) (by first | exact .inl rfl | exact .inr rfl))
    (hs : ∀ x, foldedSetIterable iter X.env x = pure x := by intro _; rfl) (hy : X.N[i]? = some y := by rfl) (hyl : X.env.scope.names.lookup y = some .local := by rfl)
    (hsw : swapsWith (.ListComp elt [⟨.Name x px, iter, [], 0⟩] scope pos) (some (.Name y py)) spos.line X.env = pure true := by rfl) : S1 X H0 ρ δ (.Assign [.Name y py] (.ListComp elt [⟨.Name x px, iter, [], 0⟩] scope pos) spos) P := by
  let te : TE := fun σ H Q => Blk X scope fun Y => tE Y elt σ H Q
  have he : Blk X scope fun Y => PE Y elt te := fun s H C cl fp => ⟨fun pins s' σ' H' Q' I h' => h' s H C cl fp pins s' I⟩
  refine fun σ H F S Dn od => S_of (ps_setLc hc hN hy hyl hsw pi_I (blk_of ok) (hg hN) (fun _ _ _ _ _ => pts_nil) he hs) ?_
  refine h σ H F S _ fun It1 H1 ρ1 ds cl G r F1 e1 w g1 c keep => ?_
  obtain ⟨hlen, hcl, as, gg, J, rfl, j0, step, fin⟩ := r
  rw [List.length_map] at hlen
  intro A hA
  refine ⟨fun n m H' => m = as.length - n ∧ n ≤ as.length ∧ TK H1 H' ∧ ∃ ρ2 acc ds2, Fr X.K H0 H' ρ2 ∧ H' A = some (.lst acc) ∧ acc.length ≤ n ∧ ρ2 A = none ∧ IsVs X.K H0 H' acc ds2 ∧ J (as.take n) ρ2 ds2,
    ⟨as.length, by simp, Nat.zero_le _, (Ex.new hA).tk, ρ1, [], [], F1.step (.new hA), upd_same, Nat.le_refl _, F1.free hA, rfl, j0⟩, ?_⟩
  rintro n m H2 ⟨rfl, hn, t2, ρ2, acc, ds2, F2, ha, hal, rA, iacc, j2⟩
  have g2 := keep H1 H2 ρ2 g1 t2 F2 (hcl ρ2)
  have h0A : H0 A = none := F1.ex.free hA
  by_cases hlt : n < as.length
  · refine .inr ⟨w.go n H2 g2 (by rw [List.length_map]; exact hlt), fun H' => TK H1 H' ∧ ∃ ρ2 acc ds2, Fr X.K H0 H' ρ2 ∧ H' A = some (.lst acc) ∧ acc.length ≤ n + 1 ∧ ρ2 A = none ∧ IsVs X.K H0 H' acc ds2 ∧ J (as.take (n + 1)) ρ2 ds2,
      fun H' hr => ⟨as.length - (n + 1), by omega, rfl, hlt, hr⟩, fun x H3 y => ?_⟩
    have hd : (as.map gg)[n]? = some (gg as[n]) := by rw [List.getElem?_map, List.getElem?_eq_getElem hlt]; rfl
    obtain ⟨e3, ix⟩ := w.yld n H2 x H3 g2 y _ hd
    have etake : as.take (n + 1) = as.take n ++ [as[n]] := by rw [List.take_append_getElem hlt]
    have esplit : as = as.take n ++ as[n] :: as.drop (n + 1) := by rw [← List.drop_eq_getElem_cons hlt, List.take_append_drop]
    have st := step _ _ _ ρ2 ds2 esplit j2
    have S3 := ((S.step e1).tk t2).step e3
    refine ⟨wipe_set hi, ?_⟩
    unfold tYes
    dsimp only
    rw [if_pos rfl]
    intro s Hb C cl' fp
    refine st s Hb C cl' fp _ H3 (F2.step e3) ((S3.wipe _).set ix) _ fun v H5 ρ5 d j5 e5 F5 gr iv => ?_
    have e25 := e3.trans e5
    have ha5 := e25.get ha (fun _ z => by cases z)
    have rA5 : ρ5 A = none := (gr A (by rw [e3.get ha (fun _ z => by cases z)]; simp)).trans rA
    have tk : TK H5 (upd H5 A (.lst (acc ++ [v]))) := TK.mut (.refl _) (ntup_lst ha5)
    refine ⟨acc, ha5, by omega, (t2.trans e25.tk).trans tk, ρ5, acc ++ [v], ds2 ++ [d], F5.aside h0A rA5 (ntup_lst ha5), upd_same, by rw [List.length_append]; simp; omega, rA5, IsVs.append ((iacc.mono (.refl _) e25.tk).mono (.refl _) tk) (.one (iv.mono (.refl _) tk)), by rw [etake]; exact j5⟩
  · have e : n = as.length := by omega
    subst e
    rw [List.take_length] at j2
    have hst := w.stop H2 g2
    rw [List.length_map] at hst
    exact .inl ⟨hst, od.nx _ _ _ _ (fin ρ2 ds2 j2 A rA) (F2.new h0A ⟨acc, ha, iacc⟩) (((S.step e1).tk t2).set rfl) (e1.tk.trans t2)⟩
/-- {..}[b], four texts -/
theorem w_disp4 {k1 k2 k3 k4 v1 v2 v3 v4 : Str} {j1 j2 j3 j4 j5 j6 j7 j8 : Nat} {p1 p2 p3 p4 p5 p6 p7 p8 : Pos} {R : D → Prop} (hu : X.A.units + 64 < cLine)
    (h : W X H0 ρ δ b fun d => ∃ k y : Str, d = .str k ∧ valV (mergeK [] [(.inr k1, .str v1), (.inr k2, .str v2), (.inr k3, .str v3), (.inr k4, .str v4)]) (.inr k) = some (.str y) ∧ R (.str y)) (hs : NoSl b := by intro _ _; rfl) :
    W X H0 ρ δ (.Subscript (.Dict [some (.Constant (.str k1) j1 p1), some (.Constant (.str k2) j2 p2), some (.Constant (.str k3) j3 p3), some (.Constant (.str k4) j4 p4)] [.Constant (.str v1) j5 p5, .Constant (.str v2) j6 p6, .Constant (.str v3) j7 p7, .Constant (.str v4) j8 p8] p) b pos) R :=
  w_of (pe_dget (by omega) (pe_disp (pps_cons pe_str pe_str (pps_cons pe_str pe_str (pps_cons pe_str pe_str (pps_cons pe_str pe_str pps_nil)))) (by rfl) (by rfl) (fun z => by cases z) (by simp)) pe_E hs) fun σ H F S Q q => fun a ha => by
    refine ⟨upd_same, [(.inr k1, .str v1), (.inr k2, .str v2), (.inr k3, .str v3), (.inr k4, .str v4)], rfl, by simp, ?_⟩
    have e1 : Ex H (upd (upd H a (.dK [])) a (.dK (mergeK [] [(.inr k1, .str v1), (.inr k2, .str v2), (.inr k3, .str v3), (.inr k4, .str v4)]))) := (Ex.new ha).mut ha
    refine h σ _ (F.step e1) (S.step e1) _ fun y H2 d ⟨k, z, ed, hv, r⟩ e2 iy => ?_
    subst ed
    cases iy
    have hd := e2.get (b := a) upd_same (fun _ z => by cases z)
    exact ⟨a, .str z, rfl, by rw [← hv]; exact DGet.k (k := .inr k) hd, q _ H2 _ r (e1.trans e2) rfl⟩
end
end LP
set_option maxRecDepth 100000
set_option maxHeartbeats 2000000
/-! Pf: proofs; what formulas mean; a proof that passes refutes. -/
namespace LP
open L2
/-! ### what formulas mean -/
mutual
def FH (v : Val) : Fm → Prop
  | .row r => Hold v r
  | .tt => True
  | .ff => False
  | .conj l => FAll v l
  | .disj l => FAny v l
  | .neg f => ¬ FH v f
def FAll (v : Val) : List Fm → Prop
  | [] => True
  | f :: fs => FH v f ∧ FAll v fs
def FAny (v : Val) : List Fm → Prop
  | [] => False
  | f :: fs => FH v f ∨ FAny v fs
end
theorem fAll_iff {v : Val} : ∀ {l : List Fm}, FAll v l ↔ ∀ f ∈ l, FH v f
  | [] => by simp [FAll]
  | f :: fs => by rw [FAll, fAll_iff]; simp
theorem fAny_iff {v : Val} : ∀ {l : List Fm}, FAny v l ↔ ∃ f ∈ l, FH v f
  | [] => by simp [FAny]
  | f :: fs => by rw [FAny, fAny_iff]; simp
theorem gath_nz (ps : Pts) : ∀ p ∈ gath ps, p.2 ≠ 0 := (gath_canon ps).nz
theorem ev_neg (v : Val) (ps : Pts) : ev v (ps.map fun p => (p.1, -1 * p.2)) = - ev v ps := by rw [ev_map]; grind
theorem hold_mk (v : Val) (sn : Sn) (ps : Pts) (b : Rat) (hz : ∀ p ∈ ps, p.2 ≠ 0) : Hold v (mkRow sn ps b) ↔ match sn with
    | .eq => ev v ps = b
    | .le => ev v ps ≤ b
    | .lt => ev v ps < b
    | .ge => b ≤ ev v ps
    | .gt => b < ev v ps := by
  have hz' : ∀ p ∈ ps.map (fun p => (p.1, -1 * p.2)), p.2 ≠ 0 := fun p hp => by
    obtain ⟨q, hq, rfl⟩ := List.mem_map.mp hp
    have := hz q hq
    show -1 * q.2 ≠ 0
    grind
  cases sn with
  | eq => exact hold_norm hz
  | le => exact hold_norm hz
  | lt => exact hold_norm hz
  | ge =>
    refine (hold_norm hz').trans ?_
    show ev v (ps.map fun p => (p.1, -1 * p.2)) ≤ -b ↔ b ≤ ev v ps
    rw [ev_neg]
    constructor <;> intro h <;> grind
  | gt =>
    refine (hold_norm hz').trans ?_
    show ev v (ps.map fun p => (p.1, -1 * p.2)) < -b ↔ b < ev v ps
    rw [ev_neg]
    constructor <;> intro h <;> grind
theorem opps_not {v : Val} {r : Row} : FAny v ((opps r).map Fm.row) ↔ ¬ Hold v r := by
  obtain ⟨ps, sg, b⟩ := r
  have hz := gath_nz ps
  cases sg with
  | le =>
    simp only [opps, List.map_cons, List.map_nil, FAny, FH, or_false]
    rw [hold_mk v .gt _ b hz, ev_gath]
    exact Rat.not_le.symm
  | lt =>
    simp only [opps, List.map_cons, List.map_nil, FAny, FH, or_false]
    rw [hold_mk v .ge _ b hz, ev_gath]
    exact Rat.not_lt.symm
  | eq =>
    simp only [opps, List.map_cons, List.map_nil, FAny, FH, or_false]
    rw [hold_mk v .gt _ b hz, hold_mk v .lt _ b hz, ev_gath]
    show (ev v ps < b ∨ b < ev v ps) ↔ ¬ ev v ps = b
    grind
theorem dn_row (r : Row) : dn (.row r) = match (opps r).map Fm.row with
    | [x] => x
    | xs => .disj xs := by first | (rw [dn]; rfl) | rw [dn]
theorem dn_row_h {v : Val} {r : Row} : FH v (dn (.row r)) ↔ FAny v ((opps r).map Fm.row) := by
  rw [dn_row]
  have : ∀ l : List Fm, FH v (.disj l) ↔ FAny v l := fun l => by rw [FH]
  generalize (opps r).map Fm.row = l
  split
  · rw [FAny, FAny]; simp
  · exact this _
mutual
theorem pl_h {v : Val} : ∀ f : Fm, FH v (pl f) ↔ FH v f
  | .row r => by rw [pl]
  | .tt => by rw [pl]
  | .ff => by rw [pl]
  | .neg f => by rw [pl, dn_h f, FH]
  | .conj l => by rw [pl, FH, FH]; exact pls_all l
  | .disj l => by rw [pl, FH, FH]; exact pls_any l
theorem dn_h {v : Val} : ∀ f : Fm, FH v (dn f) ↔ ¬ FH v f
  | .row r => by rw [dn_row_h, opps_not, FH]
  | .tt => by rw [dn, FH, FH]; simp
  | .ff => by rw [dn, FH, FH]; simp
  | .neg f => by rw [dn, pl_h f, FH]; exact Classical.not_not.symm
  | .conj l => by rw [dn, FH, FH]; exact dns_any l
  | .disj l => by rw [dn, FH, FH]; exact dns_all l
theorem pls_all {v : Val} : ∀ l : List Fm, FAll v (pls l) ↔ FAll v l
  | [] => by rw [pls]
  | f :: fs => by rw [pls, FAll, FAll, pl_h f, pls_all fs]
theorem pls_any {v : Val} : ∀ l : List Fm, FAny v (pls l) ↔ FAny v l
  | [] => by rw [pls]
  | f :: fs => by rw [pls, FAny, FAny, pl_h f, pls_any fs]
theorem dns_any {v : Val} : ∀ l : List Fm, FAny v (dns l) ↔ ¬ FAll v l
  | [] => by rw [dns, FAny, FAll]; simp
  | f :: fs => by
    rw [dns, FAny, FAll, dn_h f, dns_any fs]
    exact Classical.not_and_iff_not_or_not.symm
theorem dns_all {v : Val} : ∀ l : List Fm, FAll v (dns l) ↔ ¬ FAny v l
  | [] => by rw [dns, FAny, FAll]; simp
  | f :: fs => by rw [dns, FAny, FAll, dn_h f, dns_all fs, not_or]
end
/-! ### proofs -/
inductive Pf where
  | rows (p : Pap)
  | fls (n : Nat)
  | conj (n : Nat) (p : Pf)
  | disj (n : Nat) (ps : List Pf)
mutual
def dPf : Pf → D
  | .rows p => .tup [.str "rows", dPap p]
  | .fls n => .tup [.str "false", .int (n : Int)]
  | .conj n p => .tup [.str "and", .int (n : Int), dPf p]
  | .disj n ps => .tup [.str "or", .int (n : Int), .tup (dPfs ps)]
def dPfs : List Pf → List D
  | [] => []
  | p :: ps => dPf p :: dPfs ps
end
mutual
def pdep : Pf → Nat
  | .conj _ p => pdep p + 1
  | .disj _ ps => pdeps ps + 1
  | _ => 0
def pdeps : List Pf → Nat
  | [] => 0
  | p :: ps => max (pdep p) (pdeps ps)
end
def rowOr : Fm → Row
  | .row r => r
  | _ => ⟨[], .le, 0⟩
structure RefOk (fs : List Fm) (p : Pap) : Prop where
  each : ∀ q ∈ p, ∃ r, fs[q.1]? = some (.row r)
  ok : PapOk 8000 (fs.map rowOr) p
  len : p.length ≤ 8
  zero : ∀ u, coef (combP (fs.map rowOr) p) u = 0
  no : holds0 (totRow (fs.map rowOr) p) = false
mutual
def PfOk : List Fm → Pf → Prop
  | fs, .rows p => RefOk fs p
  | fs, .fls n => fs[n]? = some .ff
  | fs, .conj n p => ∃ l, fs[n]? = some (.conj l) ∧ PfOk (fs ++ l) p
  | fs, .disj n ps => ∃ l, fs[n]? = some (.disj l) ∧ PfsOk fs l ps
def PfsOk : List Fm → List Fm → List Pf → Prop
  | _, [], [] => True
  | fs, g :: gs, p :: ps => PfOk (fs ++ [g]) p ∧ PfsOk fs gs ps
  | _, _, _ => False
end
theorem fall_get {v : Val} {fs : List Fm} {n : Nat} {f : Fm} (h : FAll v fs) (e : fs[n]? = some f) : FH v f := fAll_iff.mp h f (List.mem_of_getElem? e)
mutual
theorem pf_unsat {v : Val} : ∀ (p : Pf) (fs : List Fm), PfOk fs p → ¬ FAll v fs
  | .rows p, fs, h => fun hv => by
    rw [PfOk] at h
    refine paper_unsat (sys := fs.map rowOr) (v := v) (fun q hq => ?_) h.zero h.no fun r hr => ?_
    · obtain ⟨r, e1, e2, _⟩ := h.ok.each q hq
      exact ⟨r, e1, e2⟩
    · obtain ⟨f, hf, rfl⟩ := List.mem_map.mp hr
      have := fAll_iff.mp hv f hf
      cases f with
      | row r => rw [FH] at this; exact this
      | _ => show ev v [] ≤ 0; rw [ev]; exact Rat.le_refl
  | .fls n, fs, h => fun hv => by
    rw [PfOk] at h
    have := fall_get hv h
    rw [FH] at this
    exact this
  | .conj n p, fs, h => fun hv => by
    rw [PfOk] at h
    obtain ⟨l, e, h⟩ := h
    have := fall_get hv e
    rw [FH] at this
    refine pf_unsat (v := v) p _ h (fAll_iff.mpr fun f hf => ?_)
    rcases List.mem_append.mp hf with z | z
    · exact fAll_iff.mp hv f z
    · exact fAll_iff.mp this f z
  | .disj n ps, fs, h => fun hv => by
    rw [PfOk] at h
    obtain ⟨l, e, h⟩ := h
    have := fall_get hv e
    rw [FH] at this
    exact pfs_unsat ps fs l h hv this
theorem pfs_unsat {v : Val} : ∀ (ps : List Pf) (fs l : List Fm), PfsOk fs l ps → FAll v fs → ¬ FAny v l
  | [], fs, [], _, _ => by rw [FAny]; exact id
  | p :: ps, fs, g :: gs, h, hv => by
    rw [PfsOk] at h
    rw [FAny]
    rintro (z | z)
    · refine pf_unsat (v := v) p _ h.1 (fAll_iff.mpr fun f hf => ?_)
      rcases List.mem_append.mp hf with y | y
      · exact fAll_iff.mp hv f y
      · rw [List.mem_singleton.mp y]; exact z
    · exact pfs_unsat ps fs gs h.2 hv z
  | [], fs, g :: gs, h, _ => by rw [PfsOk] at h; exact h.elim; all_goals simp
  | p :: ps, fs, [], h, _ => by rw [PfsOk] at h; exact h.elim; all_goals simp
end
end LP
set_option maxRecDepth 100000
set_option maxHeartbeats 4000000
/-! Pn23: numbers_of, step_fault. -/
namespace LP
open PySem PySem.Spec PyProof.Rows L2
def pnums : Pf → List Nat
  | .rows p => p.map (·.1)
  | .fls n => [n]
  | .conj n _ => [n]
  | .disj n _ => [n]
def wNums : List D → (List D → Prop) → Prop := fun ds R => ∃ p : Pf, ds = [dPf p] ∧ (∀ q, p = .rows q → q.length ≤ 8) ∧ R ((pnums p).map fun n : Nat => .int (n : Int))
def wStep : List D → (D → Prop) → Prop := fun ds R => ∃ (fs : List Fm) (p : Pf), ds = [.lst (fs.map dF), dPf p] ∧ PfOk fs p ∧ (∀ r, Fm.row r ∈ fs → LRow r) ∧ fs.length ≤ 1000000 ∧ R .non
def pword : Pf → Str
  | .rows _ => "rows"
  | .fls _ => "false"
  | .conj _ _ => "and"
  | .disj _ _ => "or"
def fword : Pf → Str
  | .rows _ => "row"
  | .fls _ => "false"
  | .conj _ _ => "and"
  | .disj _ _ => "or"
theorem dPfs_map : ∀ l : List Pf, dPfs l = l.map dPf
  | [] => rfl
  | f :: fs => by rw [dPfs, dPfs_map fs]; rfl
def pargs : Pf → List D
  | .rows p => [dPap p]
  | .fls n => [.int (n : Int)]
  | .conj n p => [.int (n : Int), dPf p]
  | .disj n ps => [.int (n : Int), .tup (ps.map dPf)]
theorem lrow_nothing : LRow ⟨[], .le, 0⟩ := ⟨⟨List.Pairwise.nil, fun p hp => (nomatch hp)⟩, fun p hp => (nomatch hp), Nat.zero_le _, ⟨by show Bt 6 0; unfold Bt; decide, by show Bt 6 1; unfold Bt; decide⟩⟩
theorem dPf_tup (p : Pf) : dPf p = .tup (.str (pword p) :: pargs p) := by
  cases p with
  | disj n ps => rw [dPf, dPfs_map]; rfl
  | _ => rfl
def fkind : Fm → Str
  | .row _ => "row"
  | .tt => "true"
  | .ff => "false"
  | .conj _ => "and"
  | .disj _ => "or"
  | .neg _ => "not"
def fargs : Fm → List D
  | .row r => [dRow r]
  | .tt => []
  | .ff => []
  | .conj l => [.tup (l.map dF)]
  | .disj l => [.tup (l.map dF)]
  | .neg f => [dF f]
theorem dF_tup (f : Fm) : dF f = .tup (.str (fkind f) :: fargs f) := by
  cases f with
  | conj l => rw [dF_conj]; rfl
  | disj l => rw [dF_disj]; rfl
  | _ => rfl
theorem pnums_ok {fs : List Fm} {p : Pf} (h : PfOk fs p) : ∀ n ∈ pnums p, ∃ f, fs[n]? = some f ∧ fkind f = fword p := by
  intro n hn
  cases p with
  | rows q =>
    rw [PfOk] at h
    obtain ⟨x, hx, rfl⟩ := List.mem_map.mp hn
    obtain ⟨r, e⟩ := h.each x hx
    exact ⟨_, e, rfl⟩
  | fls m =>
    rw [PfOk] at h
    obtain rfl := List.mem_singleton.mp hn
    exact ⟨_, h, rfl⟩
  | conj m q =>
    rw [PfOk] at h
    obtain ⟨l, e, _⟩ := h
    obtain rfl := List.mem_singleton.mp hn
    exact ⟨_, e, rfl⟩
  | disj m ps =>
    rw [PfOk] at h
    obtain ⟨l, e, _⟩ := h
    obtain rfl := List.mem_singleton.mp hn
    exact ⟨_, e, rfl⟩
theorem pfs_len : ∀ {fs l : List Fm} {ps : List Pf}, PfsOk fs l ps → ps.length = l.length
  | fs, [], [], _ => rfl
  | fs, g :: gs, p :: ps, h => by
    rw [PfsOk] at h
    rw [List.length_cons, List.length_cons, pfs_len h.2]
  | fs, [], p :: ps, h => by rw [PfsOk] at h; exact h.elim; all_goals simp
  | fs, g :: gs, [], h => by rw [PfsOk] at h; exact h.elim; all_goals simp
section
variable {P : Program} {w : World} {K : PySem.W.Frag} {mg : Str → Option Value} {base : Heap} {f : Addr} {fd : FuncData} {T : Addr}
theorem ok_numbers_of (F : Fun K "numbers_of" "numbers_of" s_numbers_of f fd) : FnOk P w K mg base CX0 1 f fd P_numbers_of (spL K wNums) := by
  refine okL F sc_numbers_of (fun ds R h => by obtain ⟨p, rfl, _⟩ := h; rfl) fun cdv A outer s H E hr ds R h => ?_
  obtain ⟨p, rfl, h8, r⟩ := h
  have rest : ∀ n : Nat, ∀ q : List D, pargs p = .int (n : Int) :: q → pnums p = [n] → pword p ≠ "rows" → BS (cxOf CX0 P w K mg base N_numbers_of "numbers_of" (defScope s_numbers_of) f cdv A outer s H E).nox H noR (startD N_numbers_of [dPf p]) (defBody s_numbers_of) (PL R) := fun n q e1 e2 e3 => by
    refine bs_If <| wt_cmp <| w_ixT (xs := .str (pword p) :: pargs p) (d := .str (pword p)) 0 0 (by rw [dPf_tup]; rfl) (r := w_str <| opw_eqS ⟨_, rfl, ?_⟩)
    rw [decide_eq_false e3]
    refine bs_nil <| bs_cons <| s_retL <| wl_lst <| wi_cons <| w_ixT (xs := .str (pword p) :: pargs p) (d := .int (n : Int)) 0 1 (by rw [dPf_tup]; rfl) (hx := by rw [e1]; rfl) (r := wi_nil ⟨one_line, ?_⟩)
    refine ⟨_, rfl, rfl, ?_⟩
    rw [e2] at r
    exact r
  cases p with
  | rows q =>
    refine bs_If <| wt_cmp <| w_ixT (xs := [.str "rows", dPap q]) (d := .str "rows") 0 0 rfl (r := w_str <| opw_eqS ⟨_, rfl, ?_⟩)
    refine bs_cons <| s_retL <| lc2 (α := Nat × Rat) [("number", 1), ("factor", 2)] 1 2 sc_numbers_of.nd (it_tup <| w_ixT (xs := [.str "rows", dPap q]) (d := dPap q) 0 1 rfl (r := ⟨_, rfl, ?_⟩))
    refine ⟨by rw [List.length_map]; exact le_line (by have := h8 q rfl; omega), q, fun x => .int x.1, fun x => dQ x.2, fun x => .int x.1, rfl, fun x hx s' H' C cl fp => w_var 1 rfl rfl, ?_⟩
    have e : (pnums (.rows q)).map (fun n : Nat => D.int (n : Int)) = q.map fun x => D.int (x.1 : Int) := by
      show (q.map (·.1)).map _ = _
      rw [List.map_map]; rfl
    rw [e] at r
    exact ⟨_, rfl, flat_map _ (fun _ _ => rfl) _, r⟩
  | fls n => exact rest n [] rfl rfl (show ("false" : Str) ≠ "rows" by decide)
  | conj n q => exact rest n _ rfl rfl (show ("and" : Str) ≠ "rows" by decide)
  | disj n q => exact rest n _ rfl rfl (show ("or" : Str) ≠ "rows" by decide)
theorem ok_step_fault (F : Fun K "step_fault" "step_fault" s_step_fault f fd) (Gn : Def P w K mg base 1 "numbers_of" P_numbers_of (spL K wNums)) (Gr : Def P w K mg base 6 "refutes" P_refutes (spT T (spD K wRef))) (hL : mg "len" = none) (hN : GD K mg "NOTHING" (dRow ⟨[], .le, 0⟩)) : FnOk P w K mg base CX0 7 f fd P_step_fault (spT T (spD K wStep)) := by
  refine okDT F sc_step_fault (fun ds R h => by obtain ⟨fs, p, rfl, _⟩ := h; rfl) fun cdv A outer s H E hT hr ds R h => ?_
  obtain ⟨fs, p, rfl, ok, hrows, hlen, r⟩ := h
  have hu := hr.units
  have h8 : ∀ q, p = .rows q → q.length ≤ 8 := fun q e => by
    subst e
    rw [PfOk] at ok
    exact ok.len
  have px : (pargs p).length + 1 ≤ 3 := by cases p <;> simp [pargs]
  have p0 : ∀ ρ, SeqD ρ (dPf p) (.str (pword p) :: pargs p) := fun ρ => by rw [dPf_tup]; rfl
  refine bs_cons (s_set 2 (w_disp4 hu <| w_ix <| w_var 1 rfl <| w_int ⟨0, _, (.str (pword p)), rfl, p0 _, rfl, pword p, fword p, rfl, ?_, ?_⟩) sc_step_fault.nd)
  · cases p <;> rfl
  have kd : ∀ n ∈ pnums p, ∃ f, fs[n]? = some f ∧ fkind f = fword p := pnums_ok ok
  have m1 := hr.mono (show 1 ≤ 6 by decide)
  let δ' : Option D → Del := fun o3 => [some (.lst (fs.map dF)), some (dPf p), some (.str (fword p)), o3, none, none]
  -- the numbers are there
  refine bs_mid (fun ρ δ => ∃ o3, δ = δ' o3) (s_for (it_new <| wl_call Gn m1 <| wa_v <| w_var 1 rfl <| wa_nil ⟨p, rfl, h8, fun a ha => ?_⟩) rfl PassesOwn.never) ?_
  · refine forD_ind (fun rest ρ δ => ∃ (suf : List Nat) (o3 : Option D), (∀ n ∈ suf, n ∈ pnums p) ∧ rest = suf.map (fun n : Nat => .int (n : Int)) ∧ ρ a = some (.L ((pnums p).map fun n : Nat => .int (n : Int))) ∧ δ = δ' o3) ?_ ?_ _ _ _ ⟨pnums p, none, fun _ h => h, rfl, put_same, rfl⟩
    · rintro ρ δ ⟨suf, o3, _, _, _, rfl⟩
      exact ⟨o3, rfl⟩
    · rintro x xs ρ δ ⟨suf, o3, h1, h2, h3, rfl⟩
      cases suf with
      | nil => cases h2
      | cons n suf =>
        cases h2
        obtain ⟨f, e1, e2⟩ := kd n (h1 n (List.mem_cons_self ..))
        have lt := (List.getElem?_eq_some_iff.mp e1).1
        refine tg_name 3 ?_ sc_step_fault.nd
        refine bs_If <| wt_ww <| ww_or <| wt_cmp <| w_var 3 rfl <| w_int <| opw_lt ⟨_, rfl, ?_⟩
        rw [decide_eq_false (by omega)]
        refine ww_or1 <| wt_cmp <| w_var 3 rfl <| w_len (w_var 0 rfl ⟨_, rfl, opw_ge ⟨_, rfl, ?_⟩⟩) hL
        rw [decide_eq_false (by rw [List.length_map]; omega)]
        exact bs_nil <| bs_nil ⟨h3, suf, _, fun n hn => h1 n (List.mem_cons_of_mem _ hn), rfl, h3, rfl⟩
  rintro ρ1 _ ⟨o3, rfl⟩
  -- each is of its kind
  refine bs_mid (fun ρ δ => ∃ o3, δ = δ' o3) (s_for (it_new <| wl_call Gn m1 <| wa_v <| w_var 1 rfl <| wa_nil ⟨p, rfl, h8, fun a ha => ?_⟩) rfl PassesOwn.never) ?_
  · refine forD_ind (fun rest ρ δ => ∃ (suf : List Nat) (o3 : Option D), (∀ n ∈ suf, n ∈ pnums p) ∧ rest = suf.map (fun n : Nat => .int (n : Int)) ∧ ρ a = some (.L ((pnums p).map fun n : Nat => .int (n : Int))) ∧ δ = δ' o3) ?_ ?_ _ _ _ ⟨pnums p, o3, fun _ h => h, rfl, put_same, rfl⟩
    · rintro ρ δ ⟨suf, o3, _, _, _, rfl⟩
      exact ⟨o3, rfl⟩
    · rintro x xs ρ δ ⟨suf, o3, h1, h2, h3, rfl⟩
      cases suf with
      | nil => cases h2
      | cons n suf =>
        cases h2
        obtain ⟨f, e1, e2⟩ := kd n (h1 n (List.mem_cons_self ..))
        refine tg_name 3 ?_ sc_step_fault.nd
        refine bs_If <| wt_cmp <| w_ix <| w_ix <| w_var 0 rfl <| w_var 3 rfl ⟨n, fs.map dF, dF f, rfl, rfl, by rw [List.getElem?_map, e1]; rfl, w_int ⟨0, _, .str (fkind f), rfl, by rw [dF_tup]; rfl, rfl, w_var 2 rfl <| opw_neS ⟨_, rfl, ?_⟩⟩⟩
        rw [decide_eq_true e2]
        exact bs_nil <| bs_nil ⟨h3, suf, _, fun n hn => h1 n (List.mem_cons_of_mem _ hn), rfl, h3, rfl⟩
  rintro ρ2 _ ⟨o4, rfl⟩
  -- as many proofs as choices
  refine bs_If <| wt_mono (R := (· = false)) ?_ fun b eb => ?_
  · refine wt_ww <| ww_and <| wt_cmp <| w_ix <| w_var 1 rfl <| w_int ⟨0, _, .str (pword p), rfl, p0 _, rfl, w_str <| opw_eqS ⟨_, rfl, ?_⟩⟩
    by_cases hw : pword p = "or"
    · rw [decide_eq_true hw]
      cases p with
      | disj n ps =>
        have ok' := ok
        rw [PfOk] at ok'
        obtain ⟨l, e, h⟩ := ok'
        refine ww_and1 <| wt_cmp <| w_len (w_ix <| w_var 1 rfl <| w_int ⟨2, _, .tup (ps.map dPf), rfl, p0 _, rfl, _, rfl, ?_⟩) hL
        refine w_len (w_ix <| w_ix <| w_var 0 rfl <| w_ix <| w_var 1 rfl <| w_int ⟨1, _, .int (n : Int), rfl, p0 _, rfl, n, fs.map dF, dF (.disj l), rfl, rfl, by rw [List.getElem?_map, e]; rfl, w_int ⟨1, _, .tup (l.map dF), rfl, by rw [dF_disj]; rfl, rfl, _, rfl, opw_neI ⟨_, rfl, ?_⟩⟩⟩) hL
        rw [List.length_map, List.length_map, pfs_len h, decide_eq_true rfl]; rfl
      | rows q => exact absurd hw (show ("rows" : Str) ≠ "or" by decide)
      | fls q => exact absurd hw (show ("false" : Str) ≠ "or" by decide)
      | conj n q => exact absurd hw (show ("and" : Str) ≠ "or" by decide)
    · rw [decide_eq_false hw]
      rfl
  subst eb
  refine bs_nil ?_
  -- a paper refutes
  refine bs_If <| wt_cmp <| w_ix <| w_var 1 rfl <| w_int ⟨0, _, .str (pword p), rfl, p0 _, rfl, w_str <| opw_eqS ⟨_, rfl, ?_⟩⟩
  have last : ∀ δ ρ, BS (cxOf CX0 P w K mg base N_step_fault "step_fault" (defScope s_step_fault) f cdv A outer s H E).nox H ρ δ ((defBody s_step_fault).drop 5) (PD R) := fun δ ρ => bs_cons <| s_ret <| w_non ⟨_, rfl, rfl, r⟩
  by_cases hw : pword p = "rows"
  · rw [decide_eq_true hw]
    cases p with
    | rows q =>
      have ok' := ok
      rw [PfOk] at ok'
      refine bs_cons (LC.set 4 sc_step_fault.nd (lc1' (α := Fm) [("formula", 5)] 5 sc_step_fault.nd (it_old <| w_var 0 rfl ⟨_, .inl rfl, ?_⟩)))
      refine ⟨by rw [List.length_map]; exact le_line hlen, fs, dF, fun f => dRow (rowOr f), rfl, fun f hf s' H' C cl fp => ?_, fun a ha => ?_⟩
      · refine w_ifE <| wt_cmp <| w_ix <| w_var 5 rfl <| w_int ⟨0, _, .str (fkind f), rfl, by rw [dF_tup]; rfl, rfl, w_str <| opw_eqS ⟨_, rfl, ?_⟩⟩
        by_cases hk : fkind f = "row"
        · rw [decide_eq_true hk]
          cases f with
          | row r0 => exact w_ix <| w_var 5 rfl <| w_int ⟨1, _, dRow r0, rfl, rfl, rfl, rfl⟩
          | tt => exact absurd hk (show ("true" : Str) ≠ "row" by decide)
          | ff => exact absurd hk (show ("false" : Str) ≠ "row" by decide)
          | conj l => exact absurd hk (show ("and" : Str) ≠ "row" by decide)
          | disj l => exact absurd hk (show ("or" : Str) ≠ "row" by decide)
          | neg l => exact absurd hk (show ("not" : Str) ≠ "row" by decide)
        · rw [decide_eq_false hk]
          refine w_gd hN ?_
          cases f with
          | row r0 => exact absurd rfl hk
          | _ => rfl
      · refine bs_If <| wt_not <| wt_val <| w_callT hT Gr hr <| wa_o <| w_var 4 rfl ⟨_, _, rfl, put_same, wa_v <| w_ix <| w_var 1 rfl <| w_int ⟨1, _, dPap q, rfl, p0 _, rfl, wa_nil ⟨fs.map rowOr, q, 8000, by rw [List.map_map]; rfl, ok'.ok, ?_, ok'.len, by decide, by decide, ok'.zero, ok'.no, _, rfl, ?_⟩⟩⟩
        · intro r0 h0
          obtain ⟨f, hf, rfl⟩ := List.mem_map.mp h0
          cases f with
          | row r1 => exact hrows r1 hf
          | _ => exact lrow_nothing
        · exact bs_nil (bs_nil (last _ _))
    | disj n ps => exact absurd hw (show ("or" : Str) ≠ "rows" by decide)
    | fls q => exact absurd hw (show ("false" : Str) ≠ "rows" by decide)
    | conj n q => exact absurd hw (show ("and" : Str) ≠ "rows" by decide)
  · rw [decide_eq_false hw]
    exact bs_nil (last _ _)
end
end LP
set_option maxRecDepth 100000
set_option maxHeartbeats 4000000
/-! Pn24: flaw_under, flaw_of_proof, first_of. -/
namespace LP
open PySem PySem.Spec PyProof.Rows L2
mutual
/-- rows as solve takes them, lists not long -/
def FmL : Fm → Prop
  | .row r => LRow r
  | .neg f => FmL f
  | .conj l => l.length ≤ 1000 ∧ FmsL l
  | .disj l => l.length ≤ 1000 ∧ FmsL l
  | _ => True
def FmsL : List Fm → Prop
  | [] => True
  | f :: fs => FmL f ∧ FmsL fs
end
theorem fmsL_iff : ∀ {l : List Fm}, FmsL l ↔ ∀ f ∈ l, FmL f
  | [] => by simp [FmsL]
  | f :: fs => by rw [FmsL, fmsL_iff]; simp
def wFlw (m : Nat) : List D → (D → Prop) → Prop := fun ds R => ∃ (fs : List Fm) (p : Pf), ds = [.lst (fs.map dF), dPf p] ∧ PfOk fs p ∧ (∀ f ∈ fs, FmL f) ∧ pdep p ≤ m ∧ fs.length + 1000 * m ≤ 900000 ∧ R .non
theorem pfs_get : ∀ {fs l : List Fm} {ps : List Pf} {k : Nat} {g : Fm} {p : Pf}, PfsOk fs l ps → l[k]? = some g → ps[k]? = some p → PfOk (fs ++ [g]) p
  | fs, g0 :: gs, p0 :: ps, 0, g, p, h, e1, e2 => by
    rw [PfsOk] at h
    simp at e1 e2
    subst e1; subst e2
    exact h.1
  | fs, g0 :: gs, p0 :: ps, k + 1, g, p, h, e1, e2 => by
    rw [PfsOk] at h
    exact pfs_get h.2 (by simpa using e1) (by simpa using e2)
  | fs, [], ps, k, g, p, h, e1, e2 => by simp at e1
  | fs, g0 :: gs, [], k, g, p, h, e1, e2 => by simp at e2
theorem pdeps_get : ∀ {ps : List Pf} {k : Nat} {p : Pf}, ps[k]? = some p → pdep p ≤ pdeps ps
  | q :: ps, 0, p, e => by
    simp at e; subst e
    rw [pdeps]; omega
  | q :: ps, k + 1, p, e => by
    have := pdeps_get (ps := ps) (k := k) (p := p) (by simpa using e)
    rw [pdeps]; omega
/-- the parts as they stand -/
structure Parts (m : Nat) (ρ : Rho) (ap : Addr) (ys : List (Addr × List Fm × Pf)) : Prop where
  at_ : ρ ap = some (.L (ys.map fun y => .tup [.obj y.1, dPf y.2.2]))
  each : ∀ y ∈ ys, ρ y.1 = some (.L (y.2.1.map dF)) ∧ PfOk y.2.1 y.2.2 ∧ (∀ f ∈ y.2.1, FmL f) ∧ pdep y.2.2 + 1 ≤ m ∧ y.2.1.length + 1000 * (m - 1) ≤ 900000
  len : ys.length ≤ 1000
section
variable {P : Program} {w : World} {K : PySem.W.Frag} {mg : Str → Option Value} {base : Heap} {f : Addr} {fd : FuncData} {T : Addr}
theorem step_flaw (m : Nat) (F : Fun K "flaw_under" "flaw_under" s_flaw_under f fd) (Gf : m ≠ 0 → Def P w K mg base (7 + m) "flaw_under" P_flaw_under (spT T (spD K (wFlw (m - 1))))) (Gs : Def P w K mg base 7 "step_fault" P_step_fault (spT T (spD K wStep)))
    (hL : mg "len" = none) (hR : mg "range" = none) (hl : mg "list" = none) : FnOk P w K mg base CX0 (8 + m) f fd P_flaw_under (spT T (spD K (wFlw m))) := by
  rw [show 8 + m = 7 + m + 1 by omega]
  refine okDT F sc_flaw_under (fun ds R h => by obtain ⟨fs, p, rfl, _⟩ := h; rfl) fun cdv A outer s H E hT hr ds R h => ?_
  obtain ⟨fs, p, rfl, ok, hfm, hd, hlen, r⟩ := h
  have hu := hr.units
  have p0 : ∀ ρ, SeqD ρ (dPf p) (.str (pword p) :: pargs p) := fun ρ => by rw [dPf_tup]; rfl
  refine bs_cons (s_set 2 (w_callT hT Gs (hr.mono (by omega)) <| wa_v <| w_var 0 rfl <| wa_v <| w_var 1 rfl <| wa_nil ⟨fs, p, rfl, ok, fun r0 h0 => by have := hfm _ h0; rwa [FmL] at this, by omega, ?_⟩) sc_flaw_under.nd)
  refine bs_If <| wt_cmp <| w_var 2 rfl <| w_non <| opw_notN ⟨_, rfl, bs_nil ?_⟩
  refine bs_cons (s_setL 3 (wl_lst <| wi_nil ⟨by decide, fun a0 ha0 => ?_⟩) sc_flaw_under.nd)
  -- the loop
  have loop : ∀ (ρ : Rho) (ap : Addr) (o4 o5 : Option D) (ys : List (Addr × List Fm × Pf)), Parts m ρ ap ys →
      BS (cxOf CX0 P w K mg base N_flaw_under "flaw_under" (defScope s_flaw_under) f cdv A outer s H E).nox H ρ [some (.lst (fs.map dF)), some (dPf p), some .non, some (.obj ap), o4, o5, none] ((defBody s_flaw_under).drop 4) (PD R) := fun ρ ap o4 o5 ys pa => by
    refine bs_mid (fun ρ δ => True) (s_for (it_range1 (w_len (w_var 3 rfl ⟨_, pa.at_, ys.length, by rw [List.length_map], by have := pa.len; omega, ?_⟩) hL) hR) rfl PassesOwn.never) ?_
    · rw [nums_range]
      refine forD_ind (fun rest ρ' δ => ∃ (pre suf : List Nat) (o5 o6 : Option D), rest = suf.map (fun k : Nat => D.int (k : Int)) ∧ List.range ys.length = pre ++ suf ∧ ρ' = ρ ∧
        δ = [some (.lst (fs.map dF)), some (dPf p), some .non, some (.obj ap), o4, o5, o6]) ?_ ?_ _ _ _ ⟨[], List.range ys.length, o5, none, rfl, rfl, rfl, rfl⟩
      · intros; trivial
      · rintro x xs ρ' δ ⟨pre, suf, o5, o6, e1, e2, rfl, rfl⟩
        cases suf with
        | nil => cases e1
        | cons k suf =>
          cases e1
          have hk : k < ys.length := List.mem_range.mp (by rw [e2]; simp)
          obtain ⟨h1, h2, h3, h4, h5⟩ := pa.each ys[k] (List.getElem_mem hk)
          have hm : m ≠ 0 := by omega
          have hy : (ys.map fun y => D.tup [.obj y.1, dPf y.2.2])[k]? = some (.tup [.obj ys[k].1, dPf ys[k].2.2]) := by rw [List.getElem?_map, List.getElem?_eq_getElem hk]; rfl
          refine tg_name 5 ?_ sc_flaw_under.nd
          refine bs_cons (s_set 6 (w_callT hT (Gf hm) hr <| wa_o <| w_ix <| w_ix <| w_var 3 rfl <| w_var 5 rfl ⟨k, _, _, rfl, pa.at_, hy, w_int ⟨0, _, .obj ys[k].1, rfl, rfl, rfl, _, _, rfl, h1, ?_⟩⟩) sc_flaw_under.nd)
          refine wa_v <| w_ix <| w_ix <| w_var 3 rfl <| w_var 5 rfl ⟨k, _, _, rfl, pa.at_, hy, w_int ⟨1, _, dPf ys[k].2.2, rfl, rfl, rfl, wa_nil ⟨ys[k].2.1, ys[k].2.2, rfl, h2, h3, by omega, h5, ?_⟩⟩⟩
          refine bs_If <| wt_cmp <| w_var 6 rfl <| w_non <| opw_notN ⟨_, rfl, bs_nil ?_⟩
          exact bs_nil ⟨trivial, pre ++ [k], suf, _, _, rfl, by rw [e2]; simp, rfl, rfl⟩
    · intro ρ' δ' _
      exact bs_cons <| s_ret <| w_non ⟨_, rfl, rfl, r⟩
  -- and
  refine bs_If <| wt_cmp <| w_ix <| w_var 1 rfl <| w_int ⟨0, _, .str (pword p), rfl, p0 _, rfl, w_str <| opw_eqS ⟨_, rfl, ?_⟩⟩
  have fin0 : Parts m (put noR a0 (.L [])) a0 [] := ⟨put_same, fun y hy => (nomatch hy), by decide⟩
  cases p with
  | rows q =>
    rw [show decide (pword (.rows q) = "and") = false from rfl]
    refine bs_If <| wt_cmp <| w_ix <| w_var 1 rfl <| w_int ⟨0, _, .str (pword (.rows q)), rfl, p0 _, rfl, w_str <| opw_eqS ⟨_, rfl, ?_⟩⟩
    exact bs_nil (bs_nil (loop _ _ _ _ _ fin0))
  | fls q =>
    rw [show decide (pword (.fls q) = "and") = false from rfl]
    refine bs_If <| wt_cmp <| w_ix <| w_var 1 rfl <| w_int ⟨0, _, .str (pword (.fls q)), rfl, p0 _, rfl, w_str <| opw_eqS ⟨_, rfl, ?_⟩⟩
    exact bs_nil (bs_nil (loop _ _ _ _ _ fin0))
  | conj n q =>
    rw [show decide (pword (.conj n q) = "and") = true from rfl]
    have ok' := ok
    rw [PfOk] at ok'
    obtain ⟨l, e, h⟩ := ok'
    have hdq : pdep q + 1 ≤ m := by rw [pdep] at hd; exact hd
    have hl' : l.length ≤ 1000 ∧ FmsL l := by
      have := hfm _ (List.mem_of_getElem? e)
      rwa [FmL] at this
    refine bs_cons (s_setN 3 (wns_cons <| wn_tup <| wns_cons <| wn_l <| wl_catL <| w_var 0 rfl ⟨fs.map dF, .inl rfl, ?_⟩) sc_flaw_under.nd)
    refine wl_list (w_ix <| w_ix <| w_var 0 rfl <| w_ix <| w_var 1 rfl <| w_int ⟨1, _, .int (n : Int), rfl, p0 _, rfl, n, fs.map dF, dF (.conj l), rfl, rfl, by rw [List.getElem?_map, e]; rfl, w_int ⟨1, _, .tup (l.map dF), rfl, by rw [dF_conj]; rfl, rfl, l.map dF, rfl, ?_⟩⟩) hl
    refine ⟨by rw [List.length_map, List.length_map]; exact le_line (by omega), fun a ha => wns_cons <| wn_v <| w_ix <| w_var 1 rfl <| w_int ⟨2, _, dPf q, rfl, p0 _, rfl, wns_nil ⟨one_line, wns_nil ⟨one_line, fun ap hap => ?_⟩⟩⟩⟩
    refine bs_nil (loop _ ap _ _ [(a, fs ++ l, q)] ⟨put_same, fun y hy => ?_, by simp⟩)
    obtain rfl := List.mem_singleton.mp hy
    have ne : a ≠ ap := fun z => by rw [← z, put_same] at hap; cases hap
    refine ⟨by rw [put_ne ne, put_same, List.map_append], h, fun g hg => ?_, hdq, ?_⟩
    · rcases List.mem_append.mp hg with z | z
      · exact hfm g z
      · exact fmsL_iff.mp hl'.2 g z
    · show (fs ++ l).length + 1000 * (m - 1) ≤ 900000
      rw [List.length_append]
      omega
  | disj n ps =>
    rw [show decide (pword (.disj n ps) = "and") = false from rfl]
    refine bs_If <| wt_cmp <| w_ix <| w_var 1 rfl <| w_int ⟨0, _, .str (pword (.disj n ps)), rfl, p0 _, rfl, w_str <| opw_eqS ⟨_, rfl, ?_⟩⟩
    rw [show decide (pword (.disj n ps) = "or") = true from rfl]
    have ok' := ok
    rw [PfOk] at ok'
    obtain ⟨l, e, h⟩ := ok'
    have hdq : pdeps ps + 1 ≤ m := by rw [pdep] at hd; exact hd
    have hl' : l.length ≤ 1000 ∧ FmsL l := by
      have := hfm _ (List.mem_of_getElem? e)
      rwa [FmL] at this
    refine bs_cons (s_set 4 (w_ix <| w_ix <| w_var 0 rfl <| w_ix <| w_var 1 rfl <| w_int ⟨1, _, .int (n : Int), rfl, p0 _, rfl, n, fs.map dF, dF (.disj l), rfl, rfl, by rw [List.getElem?_map, e]; rfl, w_int ⟨1, _, .tup (l.map dF), rfl, by rw [dF_disj]; rfl, rfl, ?_⟩⟩) sc_flaw_under.nd)
    refine bs_cons (s_setLcN (α := Nat) 3 5 [("k", 5)] sc_flaw_under.nd (it_range1 (w_len (w_var 4 rfl ⟨l.map dF, rfl, l.length, by rw [List.length_map], by omega, ?_⟩) hL) hR))
    rw [nums_range]
    refine ⟨by simp; exact le_line (by omega), fun _ => trivial, List.range l.length, fun k => .int (k : Int), fun pre ρ ds => ∃ ys : List (Addr × List Fm × Pf), ds = ys.map (fun y => .tup [.obj y.1, dPf y.2.2]) ∧ ys.length = pre.length ∧
      ∀ y ∈ ys, ρ y.1 = some (.L (y.2.1.map dF)) ∧ PfOk y.2.1 y.2.2 ∧ (∀ f ∈ y.2.1, FmL f) ∧ pdep y.2.2 + 1 ≤ m ∧ y.2.1.length + 1000 * (m - 1) ≤ 900000, rfl, ⟨[], rfl, rfl, fun y hy => (nomatch hy)⟩, fun pre k suf ρ1 acc ek ⟨ys, ea, el, each⟩ s' H' C cl' fp => ?_, fun ρ2 acc ⟨ys, ea, el, each⟩ ap hap => ?_⟩
    · have hk : k < l.length := List.mem_range.mp (by rw [ek]; simp)
      have hp : k < ps.length := by rw [pfs_len h]; exact hk
      have gl : (l.map dF)[k]? = some (dF l[k]) := by rw [List.getElem?_map, List.getElem?_eq_getElem hk]; rfl
      have gp : (ps.map dPf)[k]? = some (dPf ps[k]) := by rw [List.getElem?_map, List.getElem?_eq_getElem hp]; rfl
      refine wn_tup <| wns_cons <| wn_l <| wl_catL <| w_var 0 rfl ⟨fs.map dF, .inl rfl, wl_lst <| wi_cons <| w_ix <| w_var 4 rfl <| w_var 5 rfl ⟨k, l.map dF, dF l[k], rfl, rfl, gl, wi_nil ⟨one_line, by rw [List.length_map]; exact le_line (by show fs.length + 1 ≤ _; omega), fun a ha => ?_⟩⟩⟩
      refine wns_cons <| wn_v <| w_ix <| w_ix <| w_var 1 rfl <| w_int ⟨2, _, .tup (ps.map dPf), rfl, p0 _, rfl, w_var 5 rfl ⟨k, ps.map dPf, dPf ps[k], rfl, rfl, gp, wns_nil ⟨one_line, ys ++ [(a, fs ++ [l[k]], ps[k])], ?_, ?_, fun y hy => ?_⟩⟩⟩
      · rw [ea, List.map_append]; rfl
      · rw [List.length_append, List.length_append, el]; rfl
      · rcases List.mem_append.mp hy with z | z
        · obtain ⟨h1, h2⟩ := each y z
          have ne : y.1 ≠ a := fun z => by rw [← z, h1] at ha; cases ha
          exact ⟨by rw [put_ne ne]; exact h1, h2⟩
        · obtain rfl := List.mem_singleton.mp z
          refine ⟨by rw [put_same, List.map_append]; rfl, pfs_get h (List.getElem?_eq_getElem hk) (List.getElem?_eq_getElem hp), fun g hg => ?_, by have := pdeps_get (List.getElem?_eq_getElem hp); show pdep ps[k] + 1 ≤ m; omega, ?_⟩
          · rcases List.mem_append.mp hg with z | z
            · exact hfm g z
            · rw [List.mem_singleton.mp z]
              exact fmsL_iff.mp hl'.2 _ (List.getElem_mem hk)
          · show (fs ++ [l[k]]).length + 1000 * (m - 1) ≤ 900000
            rw [List.length_append]
            show fs.length + 1 + 1000 * (m - 1) ≤ 900000
            omega
    · subst ea
      refine bs_nil (bs_nil (loop _ ap _ _ ys ⟨put_same, fun y hy => ?_, by rw [el]; simp; omega⟩))
      obtain ⟨h1, h2⟩ := each y hy
      have ne : y.1 ≠ ap := fun z => by rw [← z, h1] at hap; cases hap
      exact ⟨by rw [put_ne ne]; exact h1, h2⟩
end
end LP
set_option maxRecDepth 100000
set_option maxHeartbeats 4000000
/-! Pn25: flaw_of_proof, first_of. -/
namespace LP
open PySem PySem.Spec PyProof.Rows L2
def wFop : List D → (D → Prop) → Prop := fun ds R => ∃ (gs : List Fm) (p : Pf), ds = [.lst (gs.map dF), dPf p] ∧ PfOk (gs.map pl) p ∧ (∀ g ∈ gs, dep g ≤ 2 ∧ FmIn g ∧ FmL (pl g)) ∧ pdep p ≤ 40 ∧ gs.length ≤ 1000 ∧ R .non
/-- the first of a kind that is not taken -/
def firstF (fs : List Fm) (k : Str) (tk : List Nat) : Option Nat := (List.range fs.length).find? fun n => decide (((fs[n]?).map fkind) = some k) && !decide (n ∈ tk)
def dOpt : Option Nat → D
  | none => .non
  | some n => .int (n : Int)
def wFof : List D → (D → Prop) → Prop := fun ds R => ∃ (fs : List Fm) (k : Str) (tk : List Nat), ds = [.lst (fs.map dF), .str k, .tup (tk.map fun n : Nat => .int (n : Int))] ∧ fs.length ≤ 1000000 ∧ R (dOpt (firstF fs k tk))
section
variable {P : Program} {w : World} {K : PySem.W.Frag} {mg : Str → Option Value} {base : Heap} {f : Addr} {fd : FuncData} {T : Addr}
theorem ok_flaw_under (F : Fun K "flaw_under" "flaw_under" s_flaw_under f fd) (N : Nm K mg "flaw_under" P_flaw_under f fd) (Gs : Def P w K mg base 7 "step_fault" P_step_fault (spT T (spD K wStep)))
    (hL : mg "len" = none) (hR : mg "range" = none) (hl : mg "list" = none) : ∀ m : Nat, FnOk P w K mg base CX0 (8 + m) f fd P_flaw_under (spT T (spD K (wFlw m))) := by
  intro m
  induction m with
  | zero => exact step_flaw 0 F (fun z => absurd rfl z) Gs hL hR hl
  | succ m ih => exact step_flaw (m + 1) F (fun _ => by rw [show 7 + (m + 1) = 8 + m by omega]; exact N.defn ih) Gs hL hR hl
theorem ok_flaw_of_proof (F : Fun K "flaw_of_proof" "flaw_of_proof" s_flaw_of_proof f fd) (Gp : Def P w K mg base 10 "plain" P_plain (spD K (wPln 2))) (Gf : Def P w K mg base 48 "flaw_under" P_flaw_under (spT T (spD K (wFlw 40)))) : FnOk P w K mg base CX0 49 f fd P_flaw_of_proof (spT T (spD K wFop)) := by
  refine okDT F sc_flaw_of_proof (fun ds R h => by obtain ⟨gs, p, rfl, _⟩ := h; rfl) fun cdv A outer s H E hT hr ds R h => ?_
  obtain ⟨gs, p, rfl, ok, hg, hd, hlen, r⟩ := h
  refine bs_cons <| s_ret <| w_callT hT Gf hr <| wa_l <| lc1 (α := Fm) [("formula", 2)] 2 sc_flaw_of_proof.nd (it_old <| w_var 0 rfl ⟨_, .inl rfl, ?_⟩)
  refine ⟨by rw [List.length_map]; exact le_line (by omega), gs, dF, fun g => dF (pl g), rfl, fun g h s' H' C cl fp => ?_, ?_⟩
  · obtain ⟨h1, h2, _⟩ := hg g h
    exact w_call Gp (hr.mono (by decide)) <| wa_v <| w_var 2 rfl <| wa_nil ⟨g, rfl, h1, h2, rfl⟩
  · refine wa_v <| w_var 1 rfl <| wa_nil ⟨gs.map pl, p, by rw [List.map_map]; rfl, ok, fun f hf => ?_, hd, by rw [List.length_map]; omega, _, rfl, rfl, r⟩
    obtain ⟨g, hg', rfl⟩ := List.mem_map.mp hf
    exact (hg g hg').2.2
theorem ok_first_of (F : Fun K "first_of" "first_of" s_first_of f fd) (hL : mg "len" = none) (hR : mg "range" = none) : FnOk P w K mg base CX0 1 f fd P_first_of (spD K wFof) := by
  refine okD F sc_first_of (fun ds R h => by obtain ⟨fs, k, tk, rfl, _⟩ := h; rfl) fun cdv A outer s H E hr ds R h => ?_
  obtain ⟨fs, k, tk, rfl, hlen, r⟩ := h
  have hu := hr.units
  refine bs_cons (s_for (it_range1 (w_len (w_var 0 rfl ⟨_, rfl, fs.length, by rw [List.length_map], by omega, ?_⟩) hL) hR) rfl PassesOwn.never)
  rw [nums_range]
  let c : Nat → Bool := fun n => decide (((fs[n]?).map fkind) = some k) && !decide (n ∈ tk)
  refine forD_ind (fun rest ρ δ => ∃ (pre suf : List Nat) (o3 : Option D), rest = suf.map (fun k : Nat => D.int (k : Int)) ∧ List.range fs.length = pre ++ suf ∧ (∀ n ∈ pre, c n = false) ∧ ρ = noR ∧
    δ = [some (.lst (fs.map dF)), some (.str k), some (.tup (tk.map fun n : Nat => .int (n : Int))), o3]) ?_ ?_ _ _ _ ⟨[], List.range fs.length, none, rfl, rfl, (fun k hk => by cases hk), rfl, rfl⟩
  · rintro ρ δ ⟨pre, suf, o3, e1, e2, hp, rfl, rfl⟩
    have : suf = [] := by cases suf with | nil => rfl | cons _ _ => cases e1
    subst this
    rw [List.append_nil] at e2
    have : firstF fs k tk = none := List.find?_eq_none.mpr fun n hn => by rw [e2] at hn; show ¬ c n = true; rw [hp n hn]; simp
    rw [this] at r
    exact bs_cons <| s_ret <| w_non ⟨_, rfl, rfl, r⟩
  · rintro x xs ρ δ ⟨pre, suf, o3, e1, e2, hp, rfl, rfl⟩
    cases suf with
    | nil => cases e1
    | cons n suf =>
      cases e1
      have hn : n < fs.length := List.mem_range.mp (by rw [e2]; simp)
      have ge : fs[n]? = some fs[n] := List.getElem?_eq_getElem hn
      have gd : (fs.map dF)[n]? = some (dF fs[n]) := by rw [List.getElem?_map, ge]; rfl
      refine tg_name 3 ?_ sc_first_of.nd
      refine bs_If <| wt_mono (R := (· = c n)) ?_ fun b eb => ?_
      · refine wt_ww <| ww_and <| wt_cmp <| w_ix <| w_ix <| w_var 0 rfl <| w_var 3 rfl ⟨n, _, dF fs[n], rfl, rfl, gd, w_int ⟨0, _, .str (fkind fs[n]), rfl, by rw [dF_tup]; rfl, rfl, w_var 1 rfl <| opw_eqS ⟨_, rfl, ?_⟩⟩⟩
        have ec : c n = (decide (fkind fs[n] = k) && !decide (n ∈ tk)) := by
          show (decide (((fs[n]?).map fkind) = some k) && _) = _
          rw [ge]
          show (decide (some (fkind fs[n]) = some k) && _) = _
          rw [decide_eq_decide.mpr (show some (fkind fs[n]) = some k ↔ fkind fs[n] = k from ⟨Option.some.inj, congrArg some⟩)]
        by_cases hk : fkind fs[n] = k
        · rw [decide_eq_true hk]
          refine ww_and1 <| wt_cmp <| w_var 3 rfl <| w_var 2 rfl <| opw_notInT hu rfl (k := decide (n ∈ tk)) ?_ ⟨_, rfl, ?_⟩ fun x hx => ?_
          · rw [decide_eq_true_eq, List.mem_map]
            exact ⟨fun h => ⟨n, h, rfl⟩, fun ⟨m, h1, h2⟩ => by
              have : m = n := by have := D.int.inj h2; omega
              rw [← this]; exact h1⟩
          · rw [ec, decide_eq_true hk, Bool.true_and]
          · obtain ⟨m, _, rfl⟩ := List.mem_map.mp hx
            rfl
        · rw [decide_eq_false hk]
          show false = c n
          rw [ec, decide_eq_false hk]; rfl
      · subst eb
        cases q : c n with
        | false =>
          exact bs_nil <| bs_nil ⟨trivial, pre ++ [n], suf, _, rfl, by rw [e2]; simp, fun m hm => by
            rcases List.mem_append.mp hm with z | z
            · exact hp m z
            · rw [List.mem_singleton.mp z]; exact q, rfl, rfl⟩
        | true =>
          have : firstF fs k tk = some n := by
            unfold firstF
            rw [e2, List.find?_append, List.find?_eq_none.mpr fun m hm => by show ¬ c m = true; rw [hp m hm]; simp]
            show List.find? c (n :: suf) = some n
            rw [List.find?_cons, q]
          rw [this] at r
          exact bs_cons <| s_ret <| w_var 3 rfl ⟨_, rfl, rfl, r⟩
end
end LP
set_option maxRecDepth 100000
set_option maxHeartbeats 4000000
/-! Fe1: FormulaError.__init__. -/
namespace LP
open PySem PySem.Spec PyProof.Rows L2 PySem.W
abbrev feQ : Str := "FormulaError.__init__"
/-- what the written part tells of FormulaError, at C, and of its __init__, at fI -/
structure FeTxt (P : Program) (K : PySem.W.Frag) (mg : Str → Option Value) (C fI : Addr) : Prop where
  gC : mg "FormulaError" = some (.ref C)
  T : OexC K C
  iC : PySem.W.findIn K (.ref C) "__init__" = some (some (.ref fI))
  tI : PySem.W.typeIn K (.ref fI) = some (.type "function")
  noP : PySem.W.findIn K (.ref C) "place" = some none
  noW : PySem.W.findIn K (.ref C) "what" = some none
  sup : ks_superIn K C C "__init__" = some (some (.builtin "ValueError.__init__"))
  sub : PySem.W.subIn K (.ref C) (.type "ValueError") = some true
  self : PySem.W.mroIn K C (.ref C) = some true
  stat : PySem.W.nsIn K cStatics "thirdparty.any" = some none
  nosup : mg "super" = none
  top : (P.main.scope.names.lookup ("super" : Str)).isSome = false
  fn : ∃ (oc : Value) (od : Option Addr) (doc pm : Value) (an : Option Addr) (cda cc : Addr) (ct : Value) (osl : Array (Option Value)) (ccl cl : Value) (cdd cld : Option Addr) (vs : Array Value) (ccs csl : Array (Option Value)) (file : Str) (tf : Tok),
    K.lookup fI = some ⟨oc, od, .func (ksFn "__init__" feQ (defArgs s_FormulaError_init) (defBody s_FormulaError_init) (defScope s_FormulaError_init) .none .none doc pm an (.ref cda) ct cc), osl⟩ ∧ PySem.W.codeIn K (.ref cda) feQ = true ∧
    K.lookup cda = some ⟨ccl, cdd, .fields vs, ccs⟩ ∧ vs[2]? = some (.str file tf) ∧ ((P.main.file : Str) == file) = true ∧ K.lookup cc = some ⟨cl, cld, .cell (some (.ref C)), csl⟩
theorem len1 (v : Value) : [v].length ≤ sizeLine := by rw [sizeLine_eq]; exact (by decide : 1 ≤ 16777216)
section
variable {prog : Program} {w : World} {A : Around} {E : Value → Shared → Prop} {R : Result → Shared → Prop} {s : Shared} {K : PySem.W.Frag} {mg : Str → Option Value} {C fI : Addr}
/-- super().__init__(v): the wrapper called -/
theorem call_wrap {u x t0 : Addr} {v : Value} {Q : Value → Shared → Prop} (T : OexC K C) (X : K.In s.heap) (hu : s.heap.get? u = some (kxs_mw "ValueError.__init__" x)) (hx : s.heap.get? x = some (HandSPX.excO C t0))
    (hq : ∀ h' t1, (∀ b o, b ≠ x → s.heap.get? b = some o → h'.get? b = some o) → h'.get? x = some (HandSPX.excO C t1) → Q .none { s with heap := h' }) :
    wpAny (model prog w) A (call (.ref u) [v]) Q E s := by
  obtain ⟨nm, q, N, bs, bm, sn, sub, ab, col, dd, k0, k1, k2, k3, k5, hC, hbm⟩ := T.cls
  have FB := F.excBase_ValueError
  have hC' := X _ _ hC
  obtain ⟨hh, g, d, tk, os⟩ := s
  refine wpAny_call (codeAny_of_tree ?_)
  show wpAny _ A.in1 (callAny (.ref u) ⟨[v], []⟩) _ _ _
  simp only [callAny]
  refine wpAny_bind (wpAny_load hu ?_)
  simp only [kxs_mw, show (Value.type "method-wrapper" == Value.type "method" || Value.type "method-wrapper" == Value.type "builtin_function_or_method" || Value.type "method-wrapper" == Value.type "method-wrapper") = true by decide, if_true]
  refine KFB.if_so (by decide) ?_
  refine wpAny_bind (check_bound_init FB.toExcCallFacts hC' hx rfl ?_)
  refine wpAny_bind (wpAny_pure (wpAny_pure ?_))
  refine ⟨plainId_quiet FB.init.plain _, codeAny_builtin FB.initEntry ?_⟩
  exact exc_init_tree (cls := .ref C) (t0 := t0) (dv := none) (c2 := .none) (c3 := .none) (b4 := .bool false) hx (len1 v) fun h' k hx' _ => hq h' _ k hx'
theorem fe_low {base : Heap} (T : FeTxt prog K mg C fI) (M : Mod K mg base) (bk : ∀ b o, base.get? b = some o → s.heap.get? b = some o) {x t0 : Addr} {p v : Value} (hx : s.heap.get? x = some (HandSPX.excO C t0)) (hxK : ∀ o, K.lookup x ≠ some o) (hroom : A.depth < recursionLimit) {fd : FuncData} (hfd : ∃ oc od osl, K.lookup fI = some ⟨oc, od, .func fd, osl⟩) {args : Args}
    (hbind : BindsTo s fd args [("self", .ref x), ("place", p), ("what", v)])
    (hq : ∀ h' tk dx t1, (∀ b o, b ≠ x → s.heap.get? b = some o → h'.get? b = some o) → h'.get? x = some { cls := .ref C, dict := some dx, data := .fields #[.ref t1, .none, .none, .none, .bool false, .none] } → s.heap.objs.size ≤ dx → dx ≠ x →
      h'.Ns1 dx (fun y => if y = "what" then some v else if y = "place" then some p else none) → R (.ok (.ret .none)) { s with heap := h', toks := tk }) :
    codeAny (model prog w) A (.call (.ref fI) args) R s := by
  obtain ⟨oc, od, doc, pm, an, cda, cc, ct, osl, ccl, cl, cdd, cld, vs, ccs, csl, file, tf, ho, hcd, hcode, hvs, hfile, hcell⟩ := T.fn
  obtain ⟨oc', od', osl', ho'⟩ := hfd
  rw [ho] at ho'
  obtain rfl : ksFn "__init__" feQ (defArgs s_FormulaError_init) (defBody s_FormulaError_init) (defScope s_FormulaError_init) .none .none doc pm an (.ref cda) ct cc = fd := by
    have := Option.some.inj ho'
    injection this with _ _ h _
    injection h
  have X : K.In s.heap := fun a o e => bk a o (M.kin a o e)
  refine ks_codeAny_call_defAt (body := defBody s_FormulaError_init) (binds := [("self", .ref x), ("place", p), ("what", v)]) hroom (X _ _ ho) rfl (M.nolimit.keeps bk) (codeRec_of X hcd) rfl hbind (show ∀ y ∈ (defScope s_FormulaError_init).names, y.2 ≠ .cell by decide +kernel) (fun y hy => ?_) (fun h₁ hns k => ?_) rfl rfl rfl
  · show (defScope s_FormulaError_init).names.lookup y.1 = _
    simp only [List.mem_cons, List.not_mem_nil, or_false] at hy
    rcases hy with rfl | rfl | rfl <;> rfl
  have X₁ : K.In h₁ := X.keeps k
  have hx₁ := k _ _ hx
  obtain ⟨nm, q, N, bs, bm, sn, sub, ab, col, dd, k0, k1, k2, k3, k5, hC, hbm⟩ := T.T.cls
  have hcl : clsIn K C = some { name := nm, bases := bs, mro := .ref C :: bm, ns := N, qualname := q, hasDict := true, slotNames := sn, subclasses := sub, abstract := ab, collection := col, hasDel := false } := by unfold clsIn; rw [hC] <;> rfl
  have hxC : x ≠ C := fun z => by
    rw [z, X₁ _ _ hC] at hx₁
    cases hx₁
  obtain ⟨mb, nb, eb⟩ := M.blt
  have bk1 : ∀ b o, base.get? b = some o → h₁.get? b = some o := fun b o e => k b o (bk b o e)
  refine ks_wpAt_execs_cons (ks_wpAt_Expr_any (ks_wpAt_MethodCall ?_))
  refine ks_wpAt_super_base (rfl) (rfl) (by decide) rfl (X₁ _ _ ho) rfl rfl rfl (X₁ _ _ hcode) rfl hvs hfile T.top ?_
  refine ks_loadName_global rfl rfl (Calls.loadGlobal_builtin (M.glob.keeps bk1) T.nosup (nb.keeps bk1) ((eb "super" (by decide)).trans (by first | rfl | kernel_rfl)) ⟨rfl, ?_⟩)
  refine wpAny_loadName_free rfl rfl rfl ⟨_, X₁ _ _ hcell, rfl⟩ ?_
  refine wpAny_loadName_local rfl rfl hns rfl ?_
  refine ks_wpAny_isType_cls (X₁ _ _ hC) rfl ⟨rfl, ?_⟩
  refine ks_wpAny_call_super (X₁ _ _ hC) rfl hx₁ rfl (fun c e => by cases e) (looks_mroIn X₁ T.self) (fun h2 e2 kk2 => ?_)
  have X₂ : K.In h2 := X₁.keeps kk2
  have hx₂ := kk2 _ _ hx₁
  have isVE : Looks (model prog w) h2 (isInstance (.ref x) (.type "ValueError")) true := by
    have J : W.InstAt h2 x (HandSPX.excO C t0) C none := ⟨hx₂, rfl, rfl, trivial⟩
    exact J.type.andThen (looks_subIn X₂ T.sub)
  have sup := T.sup
  unfold ks_superIn at sup
  rw [hcl] at sup
  refine kxs_getMethod kxs_ValueError e2 (looks_opaque X₂ T.stat) (l₀ := .ref C :: bm) ?_ rfl X₂ sup isVE hxC (by decide) ?_
  · exact fun A Q E s k q => wpAny_bind ((looks_clsIn X₂ hcl) A _ E s k (wpAny_pure q))
  have hu : (h2.push (kxs_mw "ValueError.__init__" x)).get? h2.objs.size = some (kxs_mw "ValueError.__init__" x) := Heap.get?_push_at rfl rfl
  have up3 : ∀ b o, h2.get? b = some o → (h2.push (kxs_mw "ValueError.__init__" x)).get? b = some o := fun b o e => Heap.get?_push_of_some _ e
  refine kxs_callWith (i := "ValueError.__init__") (x := x) (by rfl) ?_
  have n3 := (hns.keeps kk2).keeps up3
  refine Calls.evalArgs_plain (Calls.spliced_cons (wpAny_Name (wpAny_loadName_local (v := v) rfl rfl n3 rfl ?_) (by decide)))
  refine Calls.spliced_nil ⟨hu, ?_⟩
  refine call_wrap T.T (X₂.keeps up3) hu (up3 _ _ hx₂) fun h4 t1 k4 hx4 => ?_
  have lx : s.heap.objs.size ≠ x := Nat.ne_of_gt (Heap.lt_size hx)
  have n4 : h4.Ns s.heap.objs.size _ := n3.at fun o e => k4 _ _ lx e
  have X₃ : K.In (h2.push (kxs_mw "ValueError.__init__" x)) := X₂.keeps up3
  have X₄ : K.In h4 := fun a o e => k4 _ _ (fun z => hxK o (z ▸ e)) (X₃ a o e)
  -- self.place = place
  refine wpAt_of_wpAny (wpAny_execs_cons (plainObj_wpAny_Assign_Attribute ?_))
  refine wpAny_Name (wpAny_loadName_local (v := p) rfl rfl n4 rfl ?_) (by decide)
  refine wpAny_Name (wpAny_loadName_local (v := .ref x) rfl rfl n4 rfl ?_) (by decide)
  refine set_plain X₄ (ox := HandSPX.excO C t1) (od := none) ⟨hx4, rfl, rfl, trivial⟩ T.T.sa ?_
  refine HandSPX.exc_osa X₄ hx4 hcl (show HandSPX.refsVE (.ref C :: bm) = true from hbm) rfl T.noP (fun h5 tk5 dx k5 dn dne hx5 hn5 => ?_)
  have X₅ : K.In h5 := fun a o e => k5 _ _ (fun z => hxK o (z ▸ e)) (X₄ a o e)
  have n5 : h5.Ns s.heap.objs.size _ := n4.at fun o e => k5 _ _ lx e
  have w5 : Within (fun y => if y = ("place" : Str) then some p else none) ["place"] := fun y hy => by
    by_cases e : y = "place"
    · rw [e]; exact List.mem_cons_self ..
    · exact absurd (if_neg e) hy
  obtain ⟨oD, _, _, hoD, _, _⟩ := hn5.count w5
  -- self.what = what
  refine wpAny_execs_cons (plainObj_wpAny_Assign_Attribute ?_)
  refine wpAny_Name (wpAny_loadName_local (v := v) rfl rfl n5 rfl ?_) (by decide)
  refine wpAny_Name (wpAny_loadName_local (v := .ref x) rfl rfl n5 rfl ?_) (by decide)
  refine set_plain X₅ (ox := { cls := .ref C, dict := some dx, data := .fields #[.ref t1, .none, .none, .none, .bool false, .none] }) (od := some oD) ⟨hx5, rfl, rfl, hoD⟩ T.T.sa ?_
  refine OEX.osa_old X₅ hx5 hn5 w5 (by decide) hcl (show HandSPX.refsVE (.ref C :: bm) = true from hbm) rfl T.noW (fun h6 tk6 k6 hn6 => ?_)
  refine wpAny_execs_nil (hq h6 _ dx t1 (fun b o hb e => ?_) (k6 _ _ (Ne.symm dne) hx5) ?_ dne hn6)
  · have e4 := k4 _ _ hb (up3 _ _ (kk2 _ _ (k _ _ e)))
    exact k6 _ _ (Nat.ne_of_lt (Nat.lt_of_lt_of_le (Heap.lt_size e4) dn)) (k5 _ _ hb e4)
  · exact Nat.le_of_lt (Nat.lt_of_lt_of_le n4.lt dn)
end
end LP
set_option maxRecDepth 100000
set_option maxHeartbeats 4000000
/-! Fe2: FormulaError.__init__ as a promise. -/
namespace LP
open PySem PySem.Spec PyProof.Rows L2
abbrev P_Fe : List Str := ["self", "place", "what"]
abbrev feF (p v : V) : List (Str × V) := [("what", v), ("place", p)]
def spFe (C : Addr) : Sp := fun vs H Q _ => ∃ (x : Addr) (p v : V), vs = [.ref x, p, v] ∧ H x = some (exo x C none) ∧ ∀ dx, H dx = none → dx ≠ x → Q .non (upd (upd H dx (exd dx (feF p v))) x (exo x C (some dx)))
theorem ok_fe_init {P : Program} {w : World} {K : PySem.W.Frag} {mg : Str → Option Value} {base : Heap} {C fI : Addr} {fd : FuncData} (T : FeTxt P K mg C fI) (hfd : ∃ oc od osl, K.lookup fI = some ⟨oc, od, .func fd, osl⟩) : FnOk P w K mg base CX0 1 fI fd P_Fe (spFe C) where
  len := by
    rintro vs H Q E ⟨x, p, v, rfl, _⟩
    rfl
  run := by
    rintro A outer s H args us vs Q E hr he hb hv ⟨x, p, v, rfl, hx, q⟩
    cases hv with
    | @cons _ u0 _ us r0 hv =>
    cases hv with
    | @cons _ u1 _ us r1 hv =>
    cases hv with
    | @cons _ u2 _ us r2 hv =>
    cases hv
    obtain rfl : u0 = .ref x := r0
    obtain ⟨t0, ho⟩ := exo_at he.hok hx
    refine fe_low (t0 := t0) (p := u1) (v := u2) T he.mod (fun b o e => (he.bs b o e).1) ho (fun o e => ?_) (by have := hr.dp; omega) hfd hb fun h' tk dx t1 k hx' dn dne hn => ?_
    · have := (he.bs x o (he.mod.kin _ _ e)).2
      rw [hx] at this
      cases this
    have hnd : H dx = none := he.hok.fresh dn
    have nd : ∀ {b : Addr} {o : Obj}, s.heap.get? b = some o → b ≠ dx := fun z => Nat.ne_of_lt (Nat.lt_of_lt_of_le (Heap.lt_size z) dn)
    have na : ∀ {b : Addr}, H b = none → b ≠ x := fun n z => by rw [z, hx] at n; cases n
    refine ⟨.non, _, rfl, he.bare, ?_, ?_, rfl, q dx hnd dne⟩
    · exact {
        keep := fun b o z n _ _ => k b o (na n) z
        slot := fun b o z n _ _ => ⟨o.slots, k b o (na n) z⟩
        free := fun b o z n _ => by rw [upd_ne (na n), upd_ne (nd z)]; exact n
        there := fun b o z _ => by
          by_cases hb : b = x
          · exact ⟨_, by rw [hb]; exact hx'⟩
          · exact ⟨o, k b o hb z⟩
        tups := fun b xs z => by rw [upd_ne (at_ne hx z exo_tup), upd_ne (ne_of_none z hnd)]; exact z
        frzs := fun b o u z => by rw [upd_ne (at_ne hx z exo_frz), upd_ne (ne_of_none z hnd)]; exact z
        tbls := fun b ps z => ⟨#[], by rw [upd_ne (at_ne hx z exo_tbl), upd_ne (ne_of_none z hnd), z]; simp⟩ }
    · intro b o z
      by_cases hb : b = x
      · subst hb
        rw [upd_same] at z
        cases z
        exact exo_ok hx'
      · rw [upd_ne hb] at z
        by_cases hd : b = dx
        · subst hd
          rw [upd_same] at z
          cases z
          exact exd_ok hn (relO_put (fs := [("place", p)]) r2 (relO_put (fs := []) r1 fun g => True.intro))
        · rw [upd_ne hd] at z
          exact (he.hok b o z).stay (fun c u hc y => k c u (by
              rcases hc with hc | hc
              · rw [hc]; exact hb
              · exact at_ne hx hc exo_own) y)
            (fun c hc => by rw [upd_ne (at_ne hx hc exo_own), upd_ne (ne_of_none hc hnd)]; exact hc) (fun c xs hc => by rw [upd_ne (at_ne hx hc exo_tup), upd_ne (ne_of_none hc hnd)]; exact hc)
end LP
set_option maxRecDepth 100000
set_option maxHeartbeats 4000000
/-! Fw9: methods of an owned instance that may raise; raise. -/
namespace LP
open PySem PySem.Spec PyProof.Rows L2
def hid (H : Hp) (a dx : Addr) : Hp := fun b => if b = a ∨ b = dx then none else H b
theorem hid_some {H : Hp} {a dx b : Addr} {o : HO} (h : H b = some o) (n1 : b ≠ a) (n2 : b ≠ dx) : hid H a dx b = some o := by
  unfold hid
  rw [if_neg (fun z => z.elim n1 n2)]
  exact h
theorem hid_of {H : Hp} {a dx b : Addr} {o : HO} (h : hid H a dx b = some o) : H b = some o ∧ b ≠ a ∧ b ≠ dx := by
  unfold hid at h
  split at h
  · cases h
  · rename_i n
    exact ⟨h, fun z => n (.inl z), fun z => n (.inr z)⟩
theorem hid_ex (H : Hp) (a dx : Addr) : Ex (hid H a dx) H := .of fun b o h => (hid_of h).1
theorem Ex.hid {H0 H : Hp} {a dx : Addr} (e : Ex H0 H) (h1 : H0 a = none) (h2 : H0 dx = none) : Ex H0 (hid H a dx) := fun b o h => by
  have k := e b o h
  have n1 : b ≠ a := fun z => by rw [z, h1] at h; cases h
  have n2 : b ≠ dx := fun z => by rw [z, h2] at h; cases h
  have : LP.hid H a dx b = H b := by unfold LP.hid; rw [if_neg (fun z => z.elim n1 n2)]
  rw [this]
  exact k
section
variable {K : PySem.W.Frag} {H : Hp} {a dx C : Addr} {gs : List (Str × V)}
mutual
theorem isV_hid (ha : H a = some (.ins C dx gs)) (hd : H dx = some (.own a)) : ∀ {d : D} {v : V}, IsV K H H v d → IsV K (hid H a dx) H v d
  | .non, _, h => h
  | .bl _, _, h => h
  | .int _, _, h => h
  | .str _, _, h => h
  | .obj _, _, h => h
  | .e0, _, h => h
  | .tup ds, v, h => by
    obtain ⟨b, vs, rfl, hs, hv⟩ := h
    exact ⟨b, vs, rfl, hs, isVs_hid ha hd hv⟩
  | .lst ds, v, h => by
    obtain ⟨b, vs, rfl, hs, hv⟩ := h
    refine ⟨b, vs, rfl, hid_some hs (fun z => ?_) (fun z => ?_), isVs_hid ha hd hv⟩
    · rw [z, ha] at hs; cases hs
    · rw [z, hd] at hs; cases hs
  | .ro ds, v, h => by
    obtain ⟨b, vs, rfl, hs, hv⟩ := h
    refine ⟨b, vs, rfl, ?_, isVs_hid ha hd hv⟩
    rcases hs with (hs | ⟨o, hs⟩) | hs
    · refine .inl (.inl (hid_some hs (fun z => ?_) (fun z => ?_)))
      · rw [z, ha] at hs; cases hs
      · rw [z, hd] at hs; cases hs
    · refine .inl (.inr ⟨o, hid_some hs (fun z => ?_) (fun z => ?_)⟩)
      · rw [z, ha] at hs; cases hs
      · rw [z, hd] at hs; cases hs
    · exact .inr hs
theorem isVs_hid (ha : H a = some (.ins C dx gs)) (hd : H dx = some (.own a)) : ∀ {ds : List D} {vs : List V}, IsVs K H H vs ds → IsVs K (hid H a dx) H vs ds
  | [], _, h => h
  | d :: ds, vs, h => by
    obtain ⟨v, r, rfl, h1, h2⟩ := h
    exact ⟨v, r, rfl, isV_hid ha hd h1, isVs_hid ha hd h2⟩
end
end
/-- the steps made -/
abbrev stF (n : Int) : List (Str × D) := [("steps", .int n)]
abbrev stV (n : Int) : List (Str × V) := [("steps", .int n)]
def feW (w : Str) : Prop := w = "too many rows" ∨ w = "too many steps"
/-- an exception may leave: that one -/
def FeOut (H0 H' : Hp) (d : Addr) : Prop := Ex H0 H' ∧ H0 d = none ∧ ∃ w : Str, feW w ∧ H' d = some (.xd (feF (.int 0) (.str w)))
/-- a method of the search -/
def spI (K : PySem.W.Frag) (C Cf : Addr) (Wf : List D → (D → Prop) → Prop) : Sp := fun vs H Q E => ∃ (a dx : Addr) (n : Int) (rest : List V) (ds : List D) (R : D → Prop), vs = .ref a :: rest ∧ H a = some (.ins C dx (stV n)) ∧ H dx = some (.own a) ∧ Wf ds R ∧ IsVs K (hid H a dx) H rest ds ∧
  (∀ v H' n' d, R d → d.flat = true → Ex (hid H a dx) H' → OwnAt K (hid H a dx) H' a (.I C (stF n')) → IsV K H H' v d → Q v H') ∧ ∀ H' d, FeOut (hid H a dx) H' d → E (.ref Cf) (some d) H'
/-- what leaves is taken -/
def XOk (X : Cx) (H0 : Hp) (Cf : Addr) : Prop := ∃ W : WX, Takes X W ∧ ∀ σ H' d, FeOut H0 H' d → W (.ref Cf) (some d) σ H'
def WR (X : Cx) (H0 : Hp) (ρ : Rho) (δ : Del) (e : Expr) (R : Rho → D → Prop) : Prop :=
  ∀ σ H, Fr X.K H0 H ρ → Sl X.K H0 H σ δ → ∀ Q : VK, (∀ v H' ρ' d, R ρ' d → TK H H' → Fr X.K H0 H' ρ' → IsV X.K H0 H' v d → Q v H') → tE X e σ H Q
section
variable {X : Cx} {H0 : Hp} {ρ : Rho} {δ : Del} {e o : Expr} {es : List Expr} {pos p apos : Pos} {C Cf : Addr} {P : Post}
theorem s_retR (h : WR X H0 ρ δ e fun ρ' d => ∃ a u, ρ' a = some u ∧ P.rt (.i d a u)) : S1 X H0 ρ δ (.Return (some e) pos) P :=
  fun σ H F S Dn od => S_of (ps_ret pe_E) (h σ H F S _ fun v H1 ρ1 d ⟨a, u, ha, r⟩ t1 F1 iv => od.rt (.i d a u) v H1 ρ1 r F1 ⟨iv, (F1.own a u ha).1, (F1.own a u ha).2⟩)
theorem s_retI (h : W X H0 ρ δ e fun d => ∃ a u, ρ a = some u ∧ P.rt (.i d a u)) : S1 X H0 ρ δ (.Return (some e) pos) P :=
  fun σ H F S Dn od => S_of (ps_ret pe_E) (h σ H F S _ fun v H1 d ⟨a, u, ha, r⟩ e1 iv => by
    have F1 := F.step e1
    exact od.rt (.i d a u) v H1 ρ r F1 ⟨iv, (F1.own a u ha).1, (F1.own a u ha).2⟩)
theorem s_asgR {tg : Expr} (h : WR X H0 ρ δ e fun ρ' d => TGd X H0 tg d δ fun δ' => P.nx ρ' δ') (hs : swapsWithSole [tg] e pos.line X.env = pure false := by rfl) (hw : swappedStores [tg] e X.env = pure none := by rfl)
    (h1 : (assignEach [tg] X.env).map (·.2) = [assign tg X.env] := by rfl) : S1 X H0 ρ δ (.Assign [tg] e pos) P :=
  fun σ H F S Dn od => S_of (ps_asg pe_E pg_G hs hw h1) (h σ H F S _ fun v H1 ρ1 d r t1 F1 iv => r σ H1 v (S.tk t1) iv _ fun σ' δ' r' S' => od.nx _ _ _ _ r' F1 S' t1)
/-- the instance's dict is its own -/
theorem tE_own {Q : VK} {σ : L2.St} {H : Hp} {a dx : Addr} {gs : List (Str × V)} (ha : H a = some (.ins C dx gs)) (h : H dx = some (.own a) → tE X e σ H Q) : tE X e σ H Q := fun pins s I => h (I.hok a _ ha).1 pins s I
theorem tk_hid {H H' : Hp} {a dx : Addr} {gs : List (Str × V)} (ha : H a = some (.ins C dx gs)) (hd : H dx = some (.own a)) (e : Ex (hid H a dx) H') : TK H H' := ⟨fun b xs r => by
  rcases r with r | ⟨o, r⟩
  · exact .inl (e.get (hid_some r (fun z => by rw [z, ha] at r; cases r) (fun z => by rw [z, hd] at r; cases r)) fun _ z => by cases z)
  · exact .inr ⟨o, e.get (hid_some r (fun z => by rw [z, ha] at r; cases r) (fun z => by rw [z, hd] at r; cases r)) fun _ z => by cases z⟩, fun b o u r =>
  e.get (hid_some r (fun z => by rw [z, ha] at r; cases r) (fun z => by rw [z, hd] at r; cases r)) fun _ z => by cases z⟩
theorem fvs_st {K : PySem.W.Frag} {H0 H : Hp} {gs : List (Str × V)} {n : Int} (fv : FVs K H0 H gs (stF n)) : gs = stV n := by
  obtain ⟨⟩ | ⟨⟨h1, h2⟩, t⟩ := fv
  cases t
  rename_i p
  obtain ⟨p1, p2⟩ := p
  cases h1
  cases h2
  rfl
theorem own_ne {K : PySem.W.Frag} {H0 H : Hp} {p b : Addr} {o : O} (h : OwnAt K H0 H p o) : H p ≠ some (.own b) := fun z => by
  cases o with
  | L ds => obtain ⟨vs, h, _⟩ := h; rw [h] at z; cases z
  | M ds => obtain ⟨vs, h, _⟩ := h; rw [h] at z; cases z
  | I C fs => obtain ⟨dx, gs, h, _⟩ := h; rw [h] at z; cases z
/-- o.m(..) of the owned search -/
theorem wr_meth {pl : Sem Bool} {m : Str} {f : Addr} {fd : FuncData} {ps : List Str} {k : Nat} {n : Int} {a : Addr} {Wf : List D → (D → Prop) → Prop} {R : D → Prop} (c : Cls X.K C) (hm : Meth X.K C m f) {T : Addr} (hT : GxR.TabG H0 T) (F1 : FnOk X.prog X.w X.K X.mg X.base (L2.CX X.prog X.w) k f fd ps (spT T (spI X.K C Cf Wf))) (hr : Room k X.A) (hb : Binds X.K fd ps []) (xo : XOk X H0 Cf)
    (ho : W X H0 ρ δ o (· = .obj a)) (ha : ρ a = some (.I C (stF n))) (hl : ("steps" : Str) ≠ m) (h : WA X H0 ρ δ (e :: es) fun ds => Wf ds R)
    (hst : starEach (e :: es) X.env = (false, eval e X.env) :: starEach es X.env := by rfl) (hpl : (backTo pos (starEach es X.env)).any (·.1) = false := by rfl)
    (ht : eval (.Call (.Attribute o m apos) (e :: es) [] pos) X.env = (do
      let ov ← eval o X.env
      standAt apos.atName
      let (f, first) ← holding [ov] (getMethod ov m pl)
      callWith pos f first (backTo pos (starEach (e :: es) X.env)) (backToKw pos (keywordEach [] X.env))) := by rfl) :
    WR X H0 ρ δ (.Call (.Attribute o m apos) (e :: es) [] pos) fun ρ' d => ∃ n', ρ' = put ρ a (.I C (stF n')) ∧ R d := by
  intro σ H F S Q q
  obtain ⟨W, tk, hW⟩ := xo
  obtain ⟨h0a, dx, gs, hH, fv, h0⟩ := F.own a _ ha
  refine tE_own hH fun hd => ?_
  have hgs := fvs_st fv
  subst hgs
  refine E_of (pe_meth (E := fun cls d H => ∀ σ, W cls d σ H) pe_E c hm F1 hr hb .nil (passes_call tk fun cls d σ H h => h σ) pa_A hst hpl ht) (ho σ H F S _ fun v H1 d ed e1 iv => ?_)
  subst ed
  cases iv
  have no : ∀ ps, HO.ins C dx (stV n) ≠ .tbl ps := fun _ z => by cases z
  have nw : ∀ ps, HO.own a ≠ .tbl ps := fun _ z => by cases z
  refine ⟨a, dx, stV n, rfl, e1.get hH no, ?_, h σ H1 (F.step e1) (S.step e1) _ fun vs H2 ds wf e2 iv => ?_⟩
  · have : (m == ("steps" : Str)) = false := by simpa using fun z => hl z.symm
    simp [List.lookup, this]
  have e12 := e1.trans e2
  have hH2 := e12.get hH no
  have hd2 := e12.get hd nw
  have F2 := F.step e12
  have eh := F2.ex.hid h0a h0
  rw [List.append_nil]
  refine ⟨tabG_ex F2.ex hT, a, dx, n, vs, ds, R, rfl, hH2, hd2, wf, isVs_hid hH2 hd2 iv, fun v H' n' d r fl e3 own iv' => ?_, fun H' d ⟨e3, hn, w, hw, hx⟩ σ => hW σ H' d ⟨eh.trans e3, eh.free hn, w, hw, hx⟩⟩
  have t2 := tk_hid hH2 hd2 e3
  refine q v H' (put ρ a (.I C (stF n'))) d ⟨n', rfl, r⟩ (e12.tk.trans t2) ⟨eh.trans e3, fun p o hp => ?_⟩ (iv'.rebase _ fl)
  by_cases hpa : p = a
  · subst hpa
    rw [put_same] at hp
    cases hp
    obtain ⟨dx', gs', h1, fv', h2⟩ := own
    have := fvs_st fv'
    subst this
    exact ⟨h0a, dx', _, h1, .cons ⟨rfl, rfl⟩ .nil, eh.free h2⟩
  · rw [put_ne hpa] at hp
    obtain ⟨x1, x2⟩ := F2.own p o hp
    exact ⟨x1, x2.keep (fun u hu nt => e3.get (hid_some hu hpa (fun z => own_ne x2 (by rw [z]; exact hd2))) nt) t2⟩
/-- raise FormulaError(0, w) -/
theorem s_raiseFe {fI : Addr} {fd : FuncData} {w : Str} {j1 j2 : Nat} {p1 p2 p3 : Pos} (hc : X.calm = true) (T : FeTxt X.prog X.K X.mg Cf fI) (hfd : ∃ oc od osl, X.K.lookup fI = some ⟨oc, od, .func fd, osl⟩) (hbi : Binds X.K fd P_Fe []) (hr : Room 2 X.A) (xo : XOk X H0 Cf) (hw : feW w) (hg : Gl X "FormulaError" := by rfl)
    (he1 : starEach [.Constant (.int 0) j1 p1, .Constant (.str w) j2 p2] X.env = (false, eval (.Constant (.int 0) j1 p1) X.env) :: starEach [.Constant (.str w) j2 p2] X.env := by rfl)
    (he2 : starEach [.Constant (.str w) j2 p2] X.env = (false, eval (.Constant (.str w) j2 p2) X.env) :: starEach [] X.env := by rfl)
    (hpl : (backTo p3 (starEach [.Constant (.str w) j2 p2] X.env)).any (·.1) = false := by rfl) :
    S1 X H0 ρ δ (.Raise (some (.Call (.Name "FormulaError" p) [.Constant (.int 0) j1 p1, .Constant (.str w) j2 p2] [] p3)) none pos) P := by
  intro σ H F S Dn od
  obtain ⟨W, tk, hW⟩ := xo
  refine S_of (ps_raise hc tk (pmk_oex T.T T.iC T.tI (ok_fe_init T hfd) hr hbi .nil pass0 hg T.gC (pa_cons pe_int (pa_cons pe_str pa_nil he2) he1) (by decide) he1 hpl)) ?_
  refine ⟨by show 2 ≤ 1000; decide, fun a ha => ⟨a, .int 0, .str w, rfl, upd_same, fun dx hdx hne => ⟨rfl, dx, feF (.int 0) (.str w), upd_same, ?_, ?_, hW σ _ dx ⟨?_, ?_, w, hw, upd_same⟩⟩⟩⟩
  · rw [upd_ne hne, upd_same]
  · rw [upd_ne hne] at hdx; exact hdx
  · refine F.ex.trans (.of fun b o hb => ?_)
    have n1 : b ≠ a := ne_of_none hb ha
    have n2 : b ≠ dx := ne_of_none hb (by rw [upd_ne hne] at hdx; exact hdx)
    rw [upd_ne n2, del_ne n1, upd_ne n1, upd_ne n2, upd_ne n1]
    exact hb
  · exact F.ex.free (by rw [upd_ne hne] at hdx; exact hdx)
end
end LP
set_option maxRecDepth 100000
set_option maxHeartbeats 4000000
/-! Fw10: the body of a method of the search; its counter. -/
namespace LP
open PySem PySem.Spec PyProof.Rows L2
theorem sl_start2 {K : PySem.W.Frag} {H0 H : Hp} {N : List Str} {vs : List V} {ds : List D} (h : IsVs K H0 H vs ds) : Sl K H0 H (L2.start N vs) (startD N ds) := by
  have hl := h.len
  refine ⟨by unfold L2.start startD; simp [hl], fun i d e => ?_⟩
  unfold startD at e
  have hi : i < ds.length := by
    by_cases hi : i < ds.length
    · exact hi
    · rw [List.getElem?_append_right (by simpa using hi), List.getElem?_replicate] at e
      split at e <;> cases e
  rw [List.getElem?_append_left (by simpa using hi), List.getElem?_map] at e
  obtain ⟨d', hd, e'⟩ := Option.map_eq_some_iff.mp e
  cases e'
  obtain ⟨v, hv, iv⟩ := h.get hd
  refine ⟨v, ?_, iv⟩
  unfold L2.start
  rw [List.getElem?_append_left (by rw [List.length_map, hl]; exact hi), List.getElem?_map, hv]
  rfl
/-- a method's end: a flat datum, the counter anyhow -/
def PI (C a : Addr) (R : D → Prop) : Post := { nx := fun _ _ => False, rt := fun r => ∃ d n', r = .i d a (.I C (stF n')) ∧ d.flat = true ∧ R d }
section
variable {P : Program} {w : World} {K : PySem.W.Frag} {mg : Str → Option Value} {base : Heap} {x qual : Str} {st : Stmt} {f : Addr} {fd : FuncData} {N ps : List Str} {k : Nat} {T C Cf : Addr}
theorem okI {Wf : List D → (D → Prop) → Prop} (F : Fun K x qual st f fd) (S : FnScope N ps (defScope st)) (len : ∀ ds R, Wf ds R → ds.length + 1 = ps.length)
    (body : ∀ (cdv : Value) (A : Around) (outer : List Env) (s : Shared) (H : Hp) (E : XK), Room k (A.deeper (envOfC qual (defScope st) s.heap.objs.size f cdv)) → ∀ a H0, GxR.TabG H0 T → XOk (cxOf (L2.CX P w) P w K mg base N qual (defScope st) f cdv A outer s H E) H0 Cf → ∀ n ds R, Wf ds R →
      BS (cxOf (L2.CX P w) P w K mg base N qual (defScope st) f cdv A outer s H E) H0 (put noR a (.I C (stF n))) (startD N (.obj a :: ds)) (defBody st) (PI C a R)) : FnOk P w K mg base (L2.CX P w) (k + 1) f fd ps (spT T (spI K C Cf Wf)) := by
  refine F.okX S (fun vs H Q E h => ?_) fun cdv A outer s H vs Q E hr h => ?_
  · obtain ⟨_, a, dx, n, rest, ds, R, rfl, _, _, wf, iv, _⟩ := h
    rw [List.length_cons, iv.len]
    exact len ds R wf
  · obtain ⟨ht, a, dx, n, rest, ds, R, rfl, ha, hd, wf, iv, q, qe⟩ := h
    have h0a : hid H a dx a = none := by unfold hid; rw [if_pos (.inl rfl)]
    have h0d : hid H a dx dx = none := by unfold hid; rw [if_pos (.inr rfl)]
    have hT : GxR.TabG (hid H a dx) T := by
      obtain ⟨ps, h1, h2⟩ := ht
      exact ⟨ps, hid_some h1 (fun z => by rw [z, ha] at h1; cases h1) (fun z => by rw [z, hd] at h1; cases h1), h2⟩
    have xo : XOk (cxOf (L2.CX P w) P w K mg base N qual (defScope st) f cdv A outer s H E) (hid H a dx) Cf := ⟨_, takes_of rfl rfl rfl rfl, fun σ H' d fo => qe H' d fo⟩
    have F0 : Fr K (hid H a dx) H (put noR a (.I C (stF n))) := ⟨hid_ex H a dx, fun p o e => by
      by_cases hp : p = a
      · subst hp
        rw [put_same] at e
        cases e
        exact ⟨h0a, dx, _, ha, .cons ⟨rfl, rfl⟩ .nil, h0d⟩
      · rw [put_ne hp] at e
        cases e⟩
    have S0 : Sl K (hid H a dx) H (L2.start N (.ref a :: rest)) (startD N (.obj a :: ds)) := sl_start2 (vs := .ref a :: rest) ⟨.ref a, rest, rfl, rfl, iv⟩
    refine ⟨_, pss_B, body cdv A outer s H E hr a (hid H a dx) hT xo n ds R wf _ H F0 S0 _ ⟨?_, ?_, ?_, ?_⟩⟩
    · exact fun _ _ _ _ z => z.elim
    · rintro r v H' ρ ⟨d, n', rfl, fl, r⟩ F' ⟨iv', h0, own⟩
      exact q v H' n' d r fl F'.ex own (iv'.rebase _ fl)
    · exact fun _ _ _ _ z => z.elim
    · exact fun _ _ _ _ z => z.elim
end
section
variable {X : Cx} {H0 : Hp} {ρ : Rho} {δ : Del} {e o : Expr} {pos p tpos : Pos} {C : Addr} {P : Post}
/-- o.steps -/
theorem w_steps {a : Addr} {n : Int} {R : D → Prop} (c : Cls X.K C) (hn : NoAttr X.K C "steps") (ho : W X H0 ρ δ o (· = .obj a)) (ha : ρ a = some (.I C (stF n))) (r : R (.int n)) (hb : attributeBase o "steps" X.env (eval o X.env) = eval o X.env := by rfl) : W X H0 ρ δ (.Attribute o "steps" pos) R :=
  w_of (pe_fld pe_E hb) fun σ H F S Q q => ho σ H F S _ fun v H1 d ed e1 iv => by
    subst ed
    cases iv
    obtain ⟨_, dx, gs, hH, fv, h0⟩ := (F.step e1).own a _ ha
    obtain rfl := fvs_st fv
    exact ⟨a, C, dx, stV n, .int n, rfl, hH, c, hn, rfl, q _ H1 _ r e1 rfl⟩
/-- o.steps += 1 -/
theorem s_count {a : Addr} {n : Int} {j : Nat} {p1 : Pos} (c : Cls X.K C) (hn : NoAttr X.K C "steps") (ho : W X H0 ρ δ o (· = .obj a)) (ha : ρ a = some (.I C (stF n))) (r : P.nx (put ρ a (.I C (stF (n + 1)))) δ) : S1 X H0 ρ δ (.AugAssign (.Attribute o "steps" tpos) .Add (.Constant (.int 1) j p1) pos) P :=
  fun σ H F S Dn od => S_of (ps_fldaug pe_E pe_int in_add) (ho σ H F S _ fun v H1 d ed e1 iv => by
    subst ed
    cases iv
    have F1 := F.step e1
    obtain ⟨h0a, dx, gs, hH, fv, h0⟩ := F1.own a _ ha
    obtain rfl := fvs_st fv
    refine ⟨a, C, dx, stV n, .int n, rfl, hH, c, hn, rfl, n, 1, rfl, rfl, dx, stV n, hH, by show 1 < 1000; decide, ?_⟩
    have F2 := F1.upd (o' := .I C (stF (n + 1))) (u := .ins C dx (stV (n + 1))) ha (ntup_ins hH) ⟨dx, stV (n + 1), upd_same, .cons ⟨rfl, rfl⟩ .nil, h0⟩
    exact od.nx _ _ _ _ r F2.1 ((S.step e1).tk F2.2) (e1.tk.trans F2.2))
end
end LP
set_option maxRecDepth 100000
set_option maxHeartbeats 2000000
/-! Sr: the search, in plain Lean: weights, what is taken, truth at the end. -/
namespace LP
open L2
mutual
/-- and/or nodes within -/
def wt : Fm → Nat
  | .conj l => wts l + 1
  | .disj l => wts l + 1
  | .neg f => wt f + 1
  | _ => 0
def wts : List Fm → Nat
  | [] => 0
  | f :: fs => wt f + wts fs
end
theorem wts_app : ∀ a b : List Fm, wts (a ++ b) = wts a + wts b
  | [], b => by rw [List.nil_append, wts]; omega
  | f :: a, b => by rw [List.cons_append, wts, wts, wts_app a b]; omega
theorem wts_mem : ∀ {l : List Fm} {f : Fm}, f ∈ l → wt f ≤ wts l
  | g :: l, f, h => by
    rw [wts]
    rcases List.mem_cons.mp h with rfl | h
    · omega
    · have := wts_mem h; omega
/-- the weight of what is not taken; i: the place of the first -/
def wleft (tk : List Nat) : Nat → List Fm → Nat
  | _, [] => 0
  | i, f :: fs => (if i ∈ tk then 0 else wt f) + wleft tk (i + 1) fs
theorem wleft_app (tk : List Nat) : ∀ (i : Nat) (a b : List Fm), wleft tk i (a ++ b) = wleft tk i a + wleft tk (i + a.length) b
  | i, [], b => by rw [List.nil_append, wleft]; simp
  | i, f :: a, b => by
    rw [List.cons_append, wleft, wleft, wleft_app tk (i + 1) a b, List.length_cons, show i + 1 + a.length = i + (a.length + 1) by omega]
    omega
theorem wleft_le (tk : List Nat) : ∀ (i : Nat) (a : List Fm), wleft tk i a ≤ wts a
  | i, [] => by rw [wleft]; omega
  | i, f :: a => by
    have := wleft_le tk (i + 1) a
    rw [wleft, wts]
    split <;> omega
theorem wleft_take (tk : List Nat) (n : Nat) : ∀ (i : Nat) (a : List Fm) (f : Fm), n ∉ tk → i ≤ n → a[n - i]? = some f → wleft (tk ++ [n]) i a + wt f = wleft tk i a
  | i, [], f, _, _, e => by simp at e
  | i, g :: a, f, hn, hi, e => by
    rw [wleft, wleft]
    by_cases h : i = n
    · subst h
      rw [Nat.sub_self] at e
      simp at e
      subst e
      rw [if_pos (by simp), if_neg hn]
      have : ∀ (j : Nat) (a : List Fm), i < j → wleft (tk ++ [i]) j a = wleft tk j a := by
        intro j a
        induction a generalizing j with
        | nil => intro _; rfl
        | cons g a ih =>
          intro hj
          rw [wleft, wleft, ih (j + 1) (by omega)]
          have : (j ∈ tk ++ [i]) ↔ j ∈ tk := by simp; omega
          simp only [this]
      rw [this (i + 1) a (by omega)]
      omega
    · have e' : a[n - (i + 1)]? = some f := by
        rw [show n - i = n - (i + 1) + 1 by omega] at e
        simpa using e
      have := wleft_take tk n (i + 1) a f hn (by omega) e'
      have hh : (i ∈ tk ++ [n]) ↔ i ∈ tk := by simp [h]
      simp only [hh]
      omega
mutual
/-- plain: no denial -/
def Pl : Fm → Prop
  | .neg _ => False
  | .conj l => Pls l
  | .disj l => Pls l
  | _ => True
def Pls : List Fm → Prop
  | [] => True
  | f :: fs => Pl f ∧ Pls fs
end
theorem pls_iff : ∀ {l : List Fm}, Pls l ↔ ∀ f ∈ l, Pl f
  | [] => by simp [Pls]
  | f :: fs => by rw [Pls, pls_iff]; simp
/-- what is taken is served -/
structure Tkn (fs : List Fm) (tk : List Nat) : Prop where
  at_ : ∀ n ∈ tk, (∃ l, fs[n]? = some (.conj l) ∧ ∀ g ∈ l, g ∈ fs) ∨ ∃ l, fs[n]? = some (.disj l) ∧ ∃ g ∈ l, g ∈ fs
theorem row_pl (r : Row) : Pl (.row r) := by simp [Pl]
theorem dn_row_pl (r : Row) : Pl (dn (.row r)) := by
  rw [dn_row]
  unfold opps
  split
  · rename_i x h
    split at h
    all_goals first
      | (simp at h; subst h; exact row_pl _)
      | (simp at h)
  · rename_i xs h
    rw [Pl, pls_iff]
    intro f hf
    split at hf
    all_goals
      simp at hf
      first
        | (rcases hf with rfl | rfl <;> exact row_pl _)
        | (subst hf; exact row_pl _)
mutual
theorem pl_pl : ∀ f : Fm, Pl (pl f)
  | .row r => by simp [pl, Pl]
  | .tt => by simp [pl, Pl]
  | .ff => by simp [pl, Pl]
  | .neg f => by rw [pl]; exact dn_pl f
  | .conj l => by rw [pl, Pl]; exact pls_pl l
  | .disj l => by rw [pl, Pl]; exact pls_pl l
theorem dn_pl : ∀ f : Fm, Pl (dn f)
  | .row r => dn_row_pl r
  | .tt => by simp [dn, Pl]
  | .ff => by simp [dn, Pl]
  | .neg f => by rw [dn]; exact pl_pl f
  | .conj l => by rw [dn, Pl]; exact dns_pl l
  | .disj l => by rw [dn, Pl]; exact dns_pl l
theorem pls_pl : ∀ l : List Fm, Pls (pls l)
  | [] => by simp [pls, Pls]
  | f :: fs => by rw [pls, Pls]; exact ⟨pl_pl f, pls_pl fs⟩
theorem dns_pl : ∀ l : List Fm, Pls (dns l)
  | [] => by simp [dns, Pls]
  | f :: fs => by rw [dns, Pls]; exact ⟨dn_pl f, dns_pl fs⟩
end
/-- at the end of a path all is true where the rows are -/
theorem all_true {v : Val} {fs : List Fm} {tk : List Nat} (t : Tkn fs tk) (hp : ∀ f ∈ fs, Pl f) (hr : ∀ r, Fm.row r ∈ fs → Hold v r) (hf : Fm.ff ∉ fs) (hc : ∀ n f, fs[n]? = some f → (fkind f = "and" ∨ fkind f = "or") → n ∈ tk) : ∀ (m : Nat) (f : Fm), wt f ≤ m → f ∈ fs → FH v f := by
  intro m
  induction m with
  | zero =>
    intro f h0 hm
    cases f with
    | row r => rw [FH]; exact hr r hm
    | tt => rw [FH]; trivial
    | ff => exact absurd hm hf
    | conj l => rw [wt] at h0; omega
    | disj l => rw [wt] at h0; omega
    | neg f => have := hp _ hm; rw [Pl] at this; exact this.elim
  | succ m ih =>
    intro f h0 hm
    cases f with
    | row r => rw [FH]; exact hr r hm
    | tt => rw [FH]; trivial
    | ff => exact absurd hm hf
    | neg f => have := hp _ hm; rw [Pl] at this; exact this.elim
    | conj l =>
      obtain ⟨n, hn⟩ := List.getElem?_of_mem hm
      rw [wt] at h0
      rcases t.at_ n (hc n _ hn (.inl rfl)) with ⟨l', e, h⟩ | ⟨l', e, h⟩
      · rw [hn] at e
        cases e
        rw [FH, fAll_iff]
        exact fun g hg => ih g (by have := wts_mem hg; omega) (h g hg)
      · rw [hn] at e
        cases e
    | disj l =>
      obtain ⟨n, hn⟩ := List.getElem?_of_mem hm
      rw [wt] at h0
      rcases t.at_ n (hc n _ hn (.inr rfl)) with ⟨l', e, h⟩ | ⟨l', e, g, hg, h⟩
      · rw [hn] at e
        cases e
      · rw [hn] at e
        cases e
        rw [FH, fAny_iff]
        exact ⟨g, hg, ih g (by have := wts_mem hg; omega) h⟩
end LP
set_option maxRecDepth 100000
set_option maxHeartbeats 2000000
/-! Sr2: what the search is called with. -/
namespace LP
open PySem L2
def L3 : List Str := ["x", "y", "z2"]
mutual
/-- the unknowns are x, y, z2 -/
def FmN : Fm → Prop
  | .row r => ∀ p ∈ r.ps, p.1 ∈ L3
  | .neg f => FmN f
  | .conj l => FmsN l
  | .disj l => FmsN l
  | _ => True
def FmsN : List Fm → Prop
  | [] => True
  | f :: fs => FmN f ∧ FmsN fs
end
theorem fmsN_iff : ∀ {l : List Fm}, FmsN l ↔ ∀ f ∈ l, FmN f
  | [] => by simp [FmsN]
  | f :: fs => by rw [FmsN, fmsN_iff]; simp
structure LkIn (m : Nat) (fs : List Fm) (tk : List Nat) : Prop where
  p : ∀ f ∈ fs, Pl f
  l : ∀ f ∈ fs, FmL f
  n : ∀ f ∈ fs, FmN f
  t : Tkn fs tk
  w : wleft tk 0 fs ≤ m
  len : fs.length + 1000 * m ≤ 100000
  tl : tk.length + m ≤ 1000
theorem names_three {sys : List Row} (h : ∀ r ∈ sys, ∀ p ∈ r.ps, p.1 ∈ L3) : (nms (allN sys)).length ≤ 3 := by
  have := (nms_nd (allN sys)).length_le_of_subset (l₂ := L3) fun u hu => by
    have hu := nms_mem.mp hu
    unfold allN at hu
    rw [List.mem_flatten] at hu
    obtain ⟨l, hl, hu⟩ := hu
    obtain ⟨r, hr, rfl⟩ := List.mem_map.mp hl
    obtain ⟨p, hp, rfl⟩ := List.mem_map.mp hu
    exact h r hr p hp
  exact this
/-- taking a conjunction -/
theorem LkIn.conj {m : Nat} {fs : List Fm} {tk : List Nat} (h : LkIn m fs tk) {n : Nat} {l : List Fm} (e : fs[n]? = some (.conj l)) (hn : n ∉ tk) : m ≠ 0 ∧ LkIn (m - 1) (fs ++ l) (tk ++ [n]) := by
  have mem := List.mem_of_getElem? e
  have hl := h.l _ mem
  have hp := h.p _ mem
  have hN := h.n _ mem
  rw [FmL] at hl
  rw [Pl] at hp
  rw [FmN] at hN
  have w1 := wleft_take tk n 0 fs (.conj l) hn (Nat.zero_le _) (by simpa using e)
  rw [wt] at w1
  have w0 := h.w
  have w2 := wleft_app (tk ++ [n]) 0 fs l
  have w3 := wleft_le (tk ++ [n]) (0 + fs.length) l
  have len := h.len
  have tl := h.tl
  refine ⟨by omega, ⟨fun f hf => ?_, fun f hf => ?_, fun f hf => ?_, ⟨fun k hk => ?_⟩, by omega, ?_, ?_⟩⟩
  · rcases List.mem_append.mp hf with z | z
    · exact h.p f z
    · exact pls_iff.mp hp f z
  · rcases List.mem_append.mp hf with z | z
    · exact h.l f z
    · exact fmsL_iff.mp hl.2 f z
  · rcases List.mem_append.mp hf with z | z
    · exact h.n f z
    · exact fmsN_iff.mp hN f z
  · rcases List.mem_append.mp hk with z | z
    · have lt : ∀ {f}, fs[k]? = some f → (fs ++ l)[k]? = some f := fun e => by
        rw [List.getElem?_append_left (List.getElem?_eq_some_iff.mp e).1]; exact e
      rcases h.t.at_ k z with ⟨l', e', q⟩ | ⟨l', e', g, q1, q2⟩
      · exact .inl ⟨l', lt e', fun g hg => List.mem_append_left _ (q g hg)⟩
      · exact .inr ⟨l', lt e', g, q1, List.mem_append_left _ q2⟩
    · obtain rfl := List.mem_singleton.mp z
      exact .inl ⟨l, by rw [List.getElem?_append_left (List.getElem?_eq_some_iff.mp e).1]; exact e, fun g hg => List.mem_append_right _ hg⟩
  · rw [List.length_append]; omega
  · rw [List.length_append]; show tk.length + 1 + (m - 1) ≤ 1000; omega
/-- taking one part of a disjunction -/
theorem LkIn.disj {m : Nat} {fs : List Fm} {tk : List Nat} (h : LkIn m fs tk) {n : Nat} {l : List Fm} (e : fs[n]? = some (.disj l)) (hn : n ∉ tk) {g : Fm} (hg : g ∈ l) : m ≠ 0 ∧ LkIn (m - 1) (fs ++ [g]) (tk ++ [n]) := by
  have mem := List.mem_of_getElem? e
  have hl := h.l _ mem
  have hp := h.p _ mem
  have hN := h.n _ mem
  rw [FmL] at hl
  rw [Pl] at hp
  rw [FmN] at hN
  have w1 := wleft_take tk n 0 fs (.disj l) hn (Nat.zero_le _) (by simpa using e)
  rw [wt] at w1
  have w0 := h.w
  have w2 := wleft_app (tk ++ [n]) 0 fs [g]
  have w3 := wleft_le (tk ++ [n]) (0 + fs.length) [g]
  have w4 := wts_mem hg
  have w5 : wts [g] = wt g := by rw [wts, wts]; omega
  have len := h.len
  have tl := h.tl
  refine ⟨by omega, ⟨fun f hf => ?_, fun f hf => ?_, fun f hf => ?_, ⟨fun k hk => ?_⟩, by omega, ?_, ?_⟩⟩
  · rcases List.mem_append.mp hf with z | z
    · exact h.p f z
    · rw [List.mem_singleton.mp z]; exact pls_iff.mp hp g hg
  · rcases List.mem_append.mp hf with z | z
    · exact h.l f z
    · rw [List.mem_singleton.mp z]; exact fmsL_iff.mp hl.2 g hg
  · rcases List.mem_append.mp hf with z | z
    · exact h.n f z
    · rw [List.mem_singleton.mp z]; exact fmsN_iff.mp hN g hg
  · rcases List.mem_append.mp hk with z | z
    · have lt : ∀ {f}, fs[k]? = some f → (fs ++ [g])[k]? = some f := fun e => by
        rw [List.getElem?_append_left (List.getElem?_eq_some_iff.mp e).1]; exact e
      rcases h.t.at_ k z with ⟨l', e', q⟩ | ⟨l', e', g', q1, q2⟩
      · exact .inl ⟨l', lt e', fun g hg => List.mem_append_left _ (q g hg)⟩
      · exact .inr ⟨l', lt e', g', q1, List.mem_append_left _ q2⟩
    · obtain rfl := List.mem_singleton.mp z
      exact .inr ⟨l, by rw [List.getElem?_append_left (List.getElem?_eq_some_iff.mp e).1]; exact e, g, hg, List.mem_append_right _ (List.mem_singleton.mpr rfl)⟩
  · rw [List.length_append]; show fs.length + 1 + 1000 * (m - 1) ≤ 100000; omega
  · rw [List.length_append]; show tk.length + 1 + (m - 1) ≤ 1000; omega
end LP
set_option maxRecDepth 100000
set_option maxHeartbeats 4000000
/-! Pn26: take_and, take_or, look. -/
namespace LP
open PySem PySem.Spec PyProof.Rows L2
theorem wr_mono {X : Cx} {H0 : Hp} {ρ : Rho} {δ : Del} {e : Expr} {R R' : Rho → D → Prop} (h : WR X H0 ρ δ e R) (k : ∀ ρ' d, R ρ' d → R' ρ' d) : WR X H0 ρ δ e R' := fun σ H F S Q q => h σ H F S Q fun v H' ρ' d r => q v H' ρ' d (k _ _ r)
theorem flat_points (ps : Pts) : (dPts ps).flat = true := flat_map dPt (fun _ _ => rfl) ps
mutual
theorem dPf_flat : ∀ p : Pf, (dPf p).flat = true
  | .rows p => by
    show (true && ((dPap p).flat && true)) = true
    rw [flat_pap]; rfl
  | .fls n => rfl
  | .conj n p => by
    rw [dPf]
    show (true && (true && ((dPf p).flat && true))) = true
    rw [dPf_flat p]; rfl
  | .disj n ps => by
    rw [dPf]
    show (true && (true && (D.flats (dPfs ps) && true))) = true
    rw [dPfs_flat ps]; rfl
theorem dPfs_flat : ∀ ps : List Pf, D.flats (dPfs ps) = true
  | [] => rfl
  | p :: ps => by
    rw [dPfs]
    show ((dPf p).flat && D.flats (dPfs ps)) = true
    rw [dPf_flat p, dPfs_flat ps]; rfl
end
/-- what the search answers -/
inductive Ans (m : Nat) (fs : List Fm) : D → Prop
  | pt (pt : Pts) (nd : (pt.map (·.1)).Nodup) (l : pt.length ≤ 3) (s : SzL 3148 3148 pt) (t : ∀ f ∈ fs, FH (coef pt) f) : Ans m fs (.tup [.str "point", dPts pt])
  | pf (p : Pf) (ok : PfOk fs p) (d : pdep p ≤ m) : Ans m fs (.tup [.str "proof", dPf p])
theorem pfs_snoc : ∀ {fs l : List Fm} {ps : List Pf} {g : Fm} {p : Pf}, PfsOk fs l ps → PfOk (fs ++ [g]) p → PfsOk fs (l ++ [g]) (ps ++ [p])
  | fs, [], [], g, p, _, h => by
    show PfsOk fs [g] [p]
    rw [PfsOk, PfsOk]; exact ⟨h, trivial⟩
  | fs, g0 :: l, p0 :: ps, g, p, h, h2 => by
    rw [PfsOk] at h
    show PfsOk fs (g0 :: (l ++ [g])) (p0 :: (ps ++ [p]))
    rw [PfsOk]
    exact ⟨h.1, pfs_snoc h.2 h2⟩
  | fs, [], p0 :: ps, g, p, h, _ => by rw [PfsOk] at h; exact h.elim; all_goals simp
  | fs, g0 :: l, [], g, p, h, _ => by rw [PfsOk] at h; exact h.elim; all_goals simp
theorem pdeps_snoc : ∀ (ps : List Pf) (p : Pf), pdeps (ps ++ [p]) = max (pdeps ps) (pdep p)
  | [], p => by
    show pdeps [p] = _
    simp only [pdeps]; omega
  | q :: ps, p => by
    show pdeps (q :: (ps ++ [p])) = _
    rw [pdeps, pdeps_snoc ps p, pdeps]; omega
def dTk (tk : List Nat) : D := .tup (tk.map fun n : Nat => .int (n : Int))
def wLk (m : Nat) : List D → (D → Prop) → Prop := fun ds R => ∃ (fs : List Fm) (tk : List Nat), ds = [.lst (fs.map dF), dTk tk] ∧ LkIn m fs tk ∧ ∀ d, Ans m fs d → R d
def wTa (m : Nat) : List D → (D → Prop) → Prop := fun ds R => ∃ (fs : List Fm) (tk : List Nat) (n : Nat) (l : List Fm), ds = [.lst (fs.map dF), dTk tk, .int (n : Int)] ∧ LkIn m fs tk ∧ fs[n]? = some (.conj l) ∧ n ∉ tk ∧ ∀ d, Ans m fs d → R d
def wTo (m : Nat) : List D → (D → Prop) → Prop := fun ds R => ∃ (fs : List Fm) (tk : List Nat) (n : Nat) (l : List Fm), ds = [.lst (fs.map dF), dTk tk, .int (n : Int)] ∧ LkIn m fs tk ∧ fs[n]? = some (.disj l) ∧ n ∉ tk ∧ ∀ d, Ans m fs d → R d
section
variable {P : Program} {w : World} {K : PySem.W.Frag} {mg : Str → Option Value} {base : Heap} {f fL : Addr} {fd fdL : FuncData} {T C Cf : Addr}
theorem step_take_and (m k : Nat) (F : Fun K "take_and" "Search.take_and" s_Search_take_and f fd) (c : Cls K C) (hm : Meth K C "look" fL) (FL : m ≠ 0 → FnOk P w K mg base (L2.CX P w) k fL fdL P_Search_look (spT T (spI K C Cf (wLk (m - 1))))) (hb : Binds K fdL P_Search_look []) (hl : mg "list" = none) :
    FnOk P w K mg base (L2.CX P w) (k + 1) f fd P_Search_take_and (spT T (spI K C Cf (wTa m))) := by
  refine okI F sc_Search_take_and (fun ds R h => by obtain ⟨fs, tk, n, l, rfl, _⟩ := h; rfl) fun cdv A outer s H E hr a H0 hT xo n0 ds R h => ?_
  obtain ⟨fs, tk, n, l, rfl, hi, e, hn, r⟩ := h
  obtain ⟨h0, hj⟩ := hi.conj e hn
  have hll : l.length ≤ 1000 := by
    have := hi.l _ (List.mem_of_getElem? e)
    rw [FmL] at this
    exact this.1
  have hlen := hi.len
  have htl := hi.tl
  refine bs_cons (s_asgR (wr_mono (wr_meth (R := Ans (m - 1) (fs ++ l)) c hm hT (FL h0) hr hb xo (w_var 0 rfl rfl) put_same (by decide)
    (wa_l <| wl_catL <| w_var 1 rfl ⟨fs.map dF, .inl rfl, wl_list (w_ix <| w_ix <| w_var 1 rfl <| w_var 3 rfl ⟨n, fs.map dF, dF (.conj l), rfl, rfl, by rw [List.getElem?_map, e]; rfl, w_int ⟨1, _, .tup (l.map dF), rfl, by rw [dF_conj]; rfl, rfl, l.map dF, rfl, ?_⟩⟩) hl⟩)) ?_))
  · refine ⟨by rw [List.length_map, List.length_map]; exact le_line (by omega), wa_v <| w_bin <| w_var 2 rfl <| w_tup <| wi_cons <| w_var 3 rfl <| wi_nil ⟨one_line, opw_catT (by rw [List.length_map]; exact le_line (by show tk.length + 1 ≤ _; omega)) <| wa_nil ⟨fs ++ l, tk ++ [n], ?_, hj, fun d h => h⟩⟩⟩
    rw [List.map_append]
    unfold dTk
    rw [List.map_append]
    rfl
  · rintro ρ' d ⟨n', rfl, ans⟩
    cases ans with
    | pt pt nd l3 sz t =>
      refine tg_tup (tgs_cons <| tg_name 4 (tgs_cons <| tg_name 5 (tgs_nil ?_) sc_Search_take_and.nd) sc_Search_take_and.nd) rfl rfl
      refine bs_If <| wt_cmp <| w_var 4 rfl <| w_str <| opw_eqS ⟨_, rfl, ?_⟩
      rw [decide_eq_true rfl]
      refine bs_cons <| s_retI <| w_tup <| wi_cons <| w_var 4 rfl <| wi_cons <| w_var 5 rfl <| wi_nil ⟨one_line, a, _, put_same, _, n', rfl, ?_, r _ (.pt pt nd l3 sz fun f hf => t f (List.mem_append_left _ hf))⟩
      show (true && ((dPts pt).flat && true)) = true
      rw [flat_points]; rfl
    | pf p ok d =>
      refine tg_tup (tgs_cons <| tg_name 4 (tgs_cons <| tg_name 5 (tgs_nil ?_) sc_Search_take_and.nd) sc_Search_take_and.nd) rfl rfl
      refine bs_If <| wt_cmp <| w_var 4 rfl <| w_str <| opw_eqS ⟨_, rfl, ?_⟩
      rw [decide_eq_false (show ("proof" : Str) ≠ "point" by decide)]
      refine bs_nil <| bs_cons <| s_retI <| w_tup <| wi_cons <| w_str <| wi_cons <| w_tup <| wi_cons <| w_str <| wi_cons <| w_var 3 rfl <| wi_cons <| w_var 5 rfl <| wi_nil ⟨one_line, wi_nil ⟨one_line, a, _, put_same, _, n', rfl, ?_, r _ (.pf (.conj n p) ?_ ?_)⟩⟩
      · show (true && ((dPf (.conj n p)).flat && true)) = true
        rw [dPf_flat]; rfl
      · rw [PfOk]; exact ⟨l, e, ok⟩
      · rw [pdep]; omega
theorem step_take_or (m k : Nat) (F : Fun K "take_or" "Search.take_or" s_Search_take_or f fd) (c : Cls K C) (hm : Meth K C "look" fL) (FL : m ≠ 0 → FnOk P w K mg base (L2.CX P w) k fL fdL P_Search_look (spT T (spI K C Cf (wLk (m - 1))))) (hb : Binds K fdL P_Search_look []) (hT' : mg "tuple" = none) :
    FnOk P w K mg base (L2.CX P w) (k + 1) f fd P_Search_take_or (spT T (spI K C Cf (wTo m))) := by
  refine okI F sc_Search_take_or (fun ds R h => by obtain ⟨fs, tk, n, l, rfl, _⟩ := h; rfl) fun cdv A outer s H E hr a H0 hT xo n0 ds R h => ?_
  obtain ⟨fs, tk, n, l, rfl, hi, e, hn, r⟩ := h
  have hll : l.length ≤ 1000 := by
    have := hi.l _ (List.mem_of_getElem? e)
    rw [FmL] at this
    exact this.1
  have hlen := hi.len
  have htl := hi.tl
  refine bs_cons (s_setL 4 (wl_lst <| wi_nil ⟨by decide, fun q hq => ?_⟩) sc_Search_take_or.nd)
  have nq : q ≠ a := fun z => by rw [z, put_same] at hq; cases hq
  refine bs_mid (fun ρ δ => ∃ ps n' o5 o6 o7, PfsOk fs l ps ∧ pdeps ps + 1 ≤ m ∧ ρ a = some (.I C (stF n')) ∧ ρ q = some (.L (ps.map dPf)) ∧ δ = [some (.obj a), some (.lst (fs.map dF)), some (dTk tk), some (.int (n : Int)), some (.obj q), o5, o6, o7])
    (s_for (it_tup <| w_ix <| w_ix <| w_var 1 rfl <| w_var 3 rfl ⟨n, fs.map dF, dF (.disj l), rfl, rfl, by rw [List.getElem?_map, e]; rfl, w_int ⟨1, _, .tup (l.map dF), rfl, by rw [dF_disj]; rfl, rfl, _, rfl, ?_⟩⟩) rfl (passes_of rfl)) ?_
  · have m1 : 1 ≤ m := by
      have := wleft_take tk n 0 fs (.disj l) hn (Nat.zero_le _) (by simpa using e)
      rw [wt] at this
      have := hi.w
      omega
    refine forD_ind (fun rest ρ δ => ∃ pre suf ps n' o5 o6 o7, l = pre ++ suf ∧ rest = suf.map dF ∧ PfsOk fs pre ps ∧ pdeps ps + 1 ≤ m ∧ ps.length ≤ 1000 ∧ ρ a = some (.I C (stF n')) ∧ ρ q = some (.L (ps.map dPf)) ∧ δ = [some (.obj a), some (.lst (fs.map dF)), some (dTk tk), some (.int (n : Int)), some (.obj q), o5, o6, o7]) ?_ ?_ _ _ _
      ⟨[], l, [], n0, none, none, none, rfl, rfl, by rw [PfsOk]; trivial, by rw [pdeps]; omega, by decide, by rw [put_ne nq.symm, put_same], put_same, rfl⟩
    · rintro ρ δ ⟨pre, suf, ps, n', o5, o6, o7, e1, e2, h1, h2, _, h3, h4, rfl⟩
      have : suf = [] := by cases suf with | nil => rfl | cons _ _ => cases e2
      subst this
      rw [List.append_nil] at e1
      subst e1
      exact ⟨ps, n', o5, o6, o7, h1, h2, h3, h4, rfl⟩
    · rintro x xs ρ δ ⟨pre, suf, ps, n', o5, o6, o7, e1, e2, h1, h2, h2', h3, h4, rfl⟩
      cases suf with
      | nil => cases e2
      | cons g suf =>
        cases e2
        obtain ⟨h0, hj⟩ := hi.disj e hn (g := g) (by rw [e1]; simp)
        have hpl : ps.length < l.length := by rw [pfs_len h1, e1]; simp
        refine tg_name 5 ?_ sc_Search_take_or.nd
        refine bs_cons (s_asgR (wr_mono (wr_meth (R := Ans (m - 1) (fs ++ [g])) c hm hT (FL h0) hr hb xo (w_var 0 rfl rfl) h3 (by decide)
          (wa_l <| wl_catL <| w_var 1 rfl ⟨fs.map dF, .inl rfl, wl_lst <| wi_cons <| w_var 5 rfl <| wi_nil ⟨one_line, ?_⟩⟩)) ?_))
        · refine ⟨by rw [List.length_map]; exact le_line (by show fs.length + 1 ≤ _; omega), wa_v <| w_bin <| w_var 2 rfl <| w_tup <| wi_cons <| w_var 3 rfl <| wi_nil ⟨one_line, opw_catT (by rw [List.length_map]; exact le_line (by show tk.length + 1 ≤ _; omega)) <| wa_nil ⟨fs ++ [g], tk ++ [n], ?_, hj, fun d h => h⟩⟩⟩
          rw [List.map_append]
          unfold dTk
          rw [List.map_append]
          rfl
        · rintro ρ' d ⟨n2, rfl, ans⟩
          cases ans with
          | pt pt nd l3 sz t =>
            refine tg_tup (tgs_cons <| tg_name 6 (tgs_cons <| tg_name 7 (tgs_nil ?_) sc_Search_take_or.nd) sc_Search_take_or.nd) rfl rfl
            refine bs_If <| wt_cmp <| w_var 6 rfl <| w_str <| opw_eqS ⟨_, rfl, ?_⟩
            rw [decide_eq_true rfl]
            refine bs_cons <| s_retI <| w_tup <| wi_cons <| w_var 6 rfl <| wi_cons <| w_var 7 rfl <| wi_nil ⟨one_line, a, _, put_same, _, n2, rfl, ?_, r _ (.pt pt nd l3 sz fun f hf => t f (List.mem_append_left _ hf))⟩
            show (true && ((dPts pt).flat && true)) = true
            rw [flat_points]; rfl
          | pf p ok d =>
            refine tg_tup (tgs_cons <| tg_name 6 (tgs_cons <| tg_name 7 (tgs_nil ?_) sc_Search_take_or.nd) sc_Search_take_or.nd) rfl rfl
            refine bs_If <| wt_cmp <| w_var 6 rfl <| w_str <| opw_eqS ⟨_, rfl, ?_⟩
            rw [decide_eq_false (show ("proof" : Str) ≠ "point" by decide)]
            have h4' : (put ρ a (.I C (stF n2))) q = some (.L (ps.map dPf)) := by rw [put_ne nq]; exact h4
            refine bs_nil <| bs_cons (s_append (w_var 4 rfl rfl) h4' (w_var 7 rfl ⟨by rw [List.length_map]; exact Nat.lt_of_lt_of_le hpl (le_line (by omega)), ?_⟩))
            exact bs_nil ⟨trivial, pre ++ [g], suf, ps ++ [p], n2, _, _, _, by rw [e1]; simp, rfl, pfs_snoc h1 ok, by rw [pdeps_snoc]; omega, by rw [List.length_append]; show ps.length + 1 ≤ 1000; omega, by rw [put_ne nq.symm, put_same], by rw [put_same, List.map_append]; rfl, rfl⟩
  · rintro ρ _ ⟨ps, n', o5, o6, o7, h1, h2, h3, h4, rfl⟩
    refine bs_cons <| s_retI <| w_tup <| wi_cons <| w_str <| wi_cons <| w_tup <| wi_cons <| w_str <| wi_cons <| w_var 3 rfl <| wi_cons <| w_tupO (w_var 4 rfl ⟨_, h4, wi_nil ⟨one_line, wi_nil ⟨one_line, a, _, h3, _, n', rfl, ?_, ?_⟩⟩⟩) hT'
    · have := dPf_flat (.disj n ps)
      rw [dPf, dPfs_map] at this
      show (true && ((D.tup [.str "or", .int (n : Int), .tup (ps.map dPf)]).flat && true)) = true
      rw [this]; rfl
    · have := r _ (.pf (.disj n ps) (by rw [PfOk]; exact ⟨l, e, h1⟩) (by rw [pdep]; exact h2))
      rw [dPf, dPfs_map] at this
      exact this
end
end LP
set_option maxRecDepth 100000
set_option maxHeartbeats 2000000
/-! Sr3: where the rows stand; a paper over them; the first of a kind. -/
namespace LP
open PySem L2
/-- where the rows stand -/
def isRow (fs : List Fm) (n : Nat) : Bool := decide (((fs[n]?).map fkind) = some "row")
def rowsAt (fs : List Fm) : List Nat := (List.range fs.length).filter (isRow fs)
theorem kind_row {f : Fm} (h : fkind f = "row") : ∃ r, f = .row r := by
  cases f with
  | row r => exact ⟨r, rfl⟩
  | tt => exact absurd h (show ("true" : Str) ≠ "row" by decide)
  | ff => exact absurd h (show ("false" : Str) ≠ "row" by decide)
  | conj l => exact absurd h (show ("and" : Str) ≠ "row" by decide)
  | disj l => exact absurd h (show ("or" : Str) ≠ "row" by decide)
  | neg l => exact absurd h (show ("not" : Str) ≠ "row" by decide)
theorem kind_false {f : Fm} (h : fkind f = "false") : f = .ff := by
  cases f with
  | row r => exact absurd h (show ("row" : Str) ≠ "false" by decide)
  | tt => exact absurd h (show ("true" : Str) ≠ "false" by decide)
  | ff => rfl
  | conj l => exact absurd h (show ("and" : Str) ≠ "false" by decide)
  | disj l => exact absurd h (show ("or" : Str) ≠ "false" by decide)
  | neg l => exact absurd h (show ("not" : Str) ≠ "false" by decide)
theorem kind_and {f : Fm} (h : fkind f = "and") : ∃ l, f = .conj l := by
  cases f with
  | row r => exact absurd h (show ("row" : Str) ≠ "and" by decide)
  | tt => exact absurd h (show ("true" : Str) ≠ "and" by decide)
  | ff => exact absurd h (show ("false" : Str) ≠ "and" by decide)
  | conj l => exact ⟨l, rfl⟩
  | disj l => exact absurd h (show ("or" : Str) ≠ "and" by decide)
  | neg l => exact absurd h (show ("not" : Str) ≠ "and" by decide)
theorem kind_or {f : Fm} (h : fkind f = "or") : ∃ l, f = .disj l := by
  cases f with
  | row r => exact absurd h (show ("row" : Str) ≠ "or" by decide)
  | tt => exact absurd h (show ("true" : Str) ≠ "or" by decide)
  | ff => exact absurd h (show ("false" : Str) ≠ "or" by decide)
  | conj l => exact absurd h (show ("and" : Str) ≠ "or" by decide)
  | disj l => exact ⟨l, rfl⟩
  | neg l => exact absurd h (show ("not" : Str) ≠ "or" by decide)
theorem rowsAt_get {fs : List Fm} {n : Nat} (h : n ∈ rowsAt fs) : ∃ r, fs[n]? = some (.row r) := by
  obtain ⟨h1, h2⟩ := List.mem_filter.mp h
  have hlt := List.mem_range.mp h1
  unfold isRow at h2
  rw [List.getElem?_eq_getElem hlt, decide_eq_true_eq] at h2
  obtain ⟨r, e⟩ := kind_row (Option.some.inj h2)
  exact ⟨r, by rw [List.getElem?_eq_getElem hlt, e]⟩
theorem rowsAt_mem {fs : List Fm} {n : Nat} {r : Row} (h : fs[n]? = some (.row r)) : n ∈ rowsAt fs := by
  refine List.mem_filter.mpr ⟨List.mem_range.mpr (List.getElem?_eq_some_iff.mp h).1, ?_⟩
  unfold isRow
  rw [h]
  exact decide_eq_true rfl
theorem rowsAt_len (fs : List Fm) : (rowsAt fs).length ≤ fs.length := by
  have := List.length_filter_le (isRow fs) (List.range fs.length)
  rw [List.length_range] at this
  exact this
theorem rowsAt_asc (fs : List Fm) : (rowsAt fs).Pairwise (· < ·) := List.Pairwise.filter _ List.pairwise_lt_range
def rowD (fs : List Fm) (n : Nat) : Row := rowOr (fs.getD n .tt)
def sysOf (fs : List Fm) : List Row := (rowsAt fs).map (rowD fs)
theorem rowD_some {fs : List Fm} {n : Nat} {r : Row} (h : fs[n]? = some (.row r)) : rowD fs n = r := by
  unfold rowD
  rw [List.getD_eq_getElem?_getD, h]; rfl
theorem sysOf_mem {fs : List Fm} {r : Row} : r ∈ sysOf fs ↔ Fm.row r ∈ fs := by
  unfold sysOf
  rw [List.mem_map]
  refine ⟨fun ⟨n, hn, e⟩ => ?_, fun h => ?_⟩
  · obtain ⟨r', e'⟩ := rowsAt_get hn
    rw [rowD_some e'] at e
    subst e
    exact List.mem_of_getElem? e'
  · obtain ⟨n, hn⟩ := List.getElem?_of_mem h
    exact ⟨n, rowsAt_mem hn, rowD_some hn⟩
/-- a paper over the rows, by the places of the formulas -/
def upPap (fs : List Fm) (pap : Pap) : Pap := pap.map fun p => ((rowsAt fs).getD p.1 0, p.2)
theorem upPap_at {fs : List Fm} {pap : Pap} (ok : PapOk 8000 (sysOf fs) pap) {p : Nat × Rat} (hp : p ∈ pap) : ∃ n r, (rowsAt fs)[p.1]? = some n ∧ fs[n]? = some (.row r) ∧ (sysOf fs)[p.1]? = some r ∧ isM p.2 r.sg = true ∧ Sz 8000 1 p.2 := by
  obtain ⟨r, e, h1, h2⟩ := ok.each p hp
  unfold sysOf at e
  rw [List.getElem?_map] at e
  obtain ⟨n, en, er⟩ := Option.map_eq_some_iff.mp e
  obtain ⟨r', e'⟩ := rowsAt_get (List.mem_of_getElem? en)
  rw [rowD_some e'] at er
  subst er
  refine ⟨n, r', en, e', ?_, h1, h2⟩
  unfold sysOf
  rw [List.getElem?_map, en]
  show some (rowD fs n) = _
  rw [rowD_some e']
theorem asc_get {l : List Nat} (h : l.Pairwise (· < ·)) {i j a b : Nat} (hij : i < j) (ha : l[i]? = some a) (hb : l[j]? = some b) : a < b := by
  obtain ⟨h1, rfl⟩ := List.getElem?_eq_some_iff.mp ha
  obtain ⟨h2, rfl⟩ := List.getElem?_eq_some_iff.mp hb
  exact List.pairwise_iff_getElem.mp h i j h1 h2 hij
theorem upPap_rowAt {fs : List Fm} {pap : Pap} (ok : PapOk 8000 (sysOf fs) pap) {p : Nat × Rat} (hp : p ∈ pap) : rowAt (fs.map rowOr) ((rowsAt fs).getD p.1 0) = rowAt (sysOf fs) p.1 := by
  obtain ⟨n, r, e1, e2, e3, _⟩ := upPap_at ok hp
  rw [rowAt_some e3, List.getD_eq_getElem?_getD, e1]
  show rowAt _ n = r
  exact rowAt_some (by rw [List.getElem?_map, e2]; rfl)
theorem combP_up (fs : List Fm) : ∀ (pap : Pap), (∀ p ∈ pap, rowAt (fs.map rowOr) ((rowsAt fs).getD p.1 0) = rowAt (sysOf fs) p.1) → combP (fs.map rowOr) (upPap fs pap) = combP (sysOf fs) pap ∧ combB (fs.map rowOr) (upPap fs pap) = combB (sysOf fs) pap
  | [], _ => ⟨rfl, rfl⟩
  | p :: pap, h => by
    obtain ⟨h1, h2⟩ := combP_up fs pap fun q hq => h q (List.mem_cons_of_mem _ hq)
    have h0 := h p (List.mem_cons_self ..)
    unfold upPap at h1 h2 ⊢
    rw [List.map_cons, combP, combP, combB, combB, h1, h2]
    simp only [h0]
    exact ⟨trivial, trivial⟩
theorem up_ref {fs : List Fm} {pap : Pap} (ok : PapOk 8000 (sysOf fs) pap) (hl : pap.length ≤ 8) (zero : ∀ u, coef (combP (sysOf fs) pap) u = 0) (no : holds0 (totRow (sysOf fs) pap) = false) : RefOk fs (upPap fs pap) := by
  have each := fun p (hp : p ∈ pap) => upPap_rowAt ok hp
  obtain ⟨c1, c2⟩ := combP_up fs pap each
  refine ⟨fun q hq => ?_, ⟨?_, fun q hq => ?_⟩, by unfold upPap; rw [List.length_map]; exact hl, by rw [c1]; exact zero, ?_⟩
  · obtain ⟨p, hp, rfl⟩ := List.mem_map.mp hq
    obtain ⟨n, r, e1, e2, e3, _⟩ := upPap_at ok hp
    exact ⟨r, by show fs[(rowsAt fs).getD p.1 0]? = _; rw [List.getD_eq_getElem?_getD, e1]; exact e2⟩
  · unfold upPap
    rw [List.map_map, List.pairwise_map]
    have a := ok.asc
    rw [List.pairwise_map] at a
    refine List.Pairwise.imp_of_mem (fun {p q} hp hq hpq => ?_) a
    obtain ⟨n, r, e1, _⟩ := upPap_at ok hp
    obtain ⟨m, r', e2, _⟩ := upPap_at ok hq
    show (rowsAt fs).getD p.1 0 < (rowsAt fs).getD q.1 0
    rw [List.getD_eq_getElem?_getD, List.getD_eq_getElem?_getD, e1, e2]
    exact asc_get (rowsAt_asc fs) hpq e1 e2
  · obtain ⟨p, hp, rfl⟩ := List.mem_map.mp hq
    obtain ⟨n, r, e1, e2, e3, h1, h2⟩ := upPap_at ok hp
    exact ⟨r, by show (fs.map rowOr)[(rowsAt fs).getD p.1 0]? = _; rw [List.getD_eq_getElem?_getD, e1, List.getElem?_map]; show (fs[n]?).map rowOr = _; rw [e2]; rfl, h1, h2⟩
  · have : totRow (fs.map rowOr) (upPap fs pap) = totRow (sysOf fs) pap := by
      unfold totRow
      rw [c1, c2]
      congr 2
      unfold upPap
      rw [List.map_map]
      exact List.map_congr_left fun p hp => by show (rowAt (fs.map rowOr) ((rowsAt fs).getD p.1 0)).sg = _; rw [each p hp]
    rw [this]
    exact no
theorem first_some {fs : List Fm} {k : Str} {tk : List Nat} {n : Nat} (h : firstF fs k tk = some n) : ∃ f, fs[n]? = some f ∧ fkind f = k ∧ n ∉ tk := by
  have h1 := List.find?_some h
  simp only [Bool.and_eq_true, decide_eq_true_eq, Bool.not_eq_true', decide_eq_false_iff_not] at h1
  obtain ⟨h1, h2⟩ := h1
  obtain ⟨f, e, ek⟩ := Option.map_eq_some_iff.mp h1
  exact ⟨f, e, ek, h2⟩
theorem first_none {fs : List Fm} {k : Str} {tk : List Nat} (h : firstF fs k tk = none) {n : Nat} {f : Fm} (e : fs[n]? = some f) (hk : fkind f = k) : n ∈ tk := by
  have h1 := List.find?_eq_none.mp h n (List.mem_range.mpr (List.getElem?_eq_some_iff.mp e).1)
  simp only [Bool.and_eq_true, decide_eq_true_eq, Bool.not_eq_true', decide_eq_false_iff_not, not_and, Decidable.not_not] at h1
  exact h1 (by rw [e]; show some (fkind f) = _; rw [hk])
end LP
set_option maxRecDepth 100000
set_option maxHeartbeats 4000000
/-! Pn27: look. -/
namespace LP
open PySem PySem.Spec PyProof.Rows L2
theorem w_lenL {X : Cx} {H0 : Hp} {ρ : Rho} {δ : Del} {e : Expr} {p pos : Pos} {R : D → Prop} (h : WL X H0 ρ δ e fun xs => R (.int (xs.length : Int))) (hm : X.mg "len" = none) (hg : Gl X "len" := by rfl)
    (he : starEach [e] X.env = (false, eval e X.env) :: starEach [] X.env := by rfl) : W X H0 ρ δ (.Call (.Name "len" p) [e] [] pos) R :=
  w_of (pe_callB call_len_seq hg hm boot_len (pa_cons pe_E pa_nil he) (by decide) (by decide) he rfl) fun σ H F S Q q => h σ H F S _ fun a H1 xs r hn e1 ⟨vs, hl, iv⟩ =>
    ⟨a, vs, rfl, .inl (.of hl), q _ H1 _ r e1 (by show V.int _ = V.int _; rw [iv.len])⟩
theorem ans_flat {m : Nat} {fs : List Fm} {d : D} (h : Ans m fs d) : d.flat = true := by
  cases h with
  | pt pt nd l s t =>
    show (true && ((dPts pt).flat && true)) = true
    rw [flat_points]; rfl
  | pf p ok hd =>
    show (true && ((dPf p).flat && true)) = true
    rw [dPf_flat]; rfl
section
variable {P : Program} {w : World} {K : PySem.W.Frag} {mg : Str → Option Value} {base : Heap} {f fA fO fI : Addr} {fd fdA fdO fdI : FuncData} {T C Cf : Addr}
theorem step_look (m k : Nat) (hk : 9 ≤ k) (F : Fun K "look" "Search.look" s_Search_look f fd) (c : Cls K C) (hn : NoAttr K C "steps") (hA : Meth K C "take_and" fA) (hO : Meth K C "take_or" fO)
    (FA : FnOk P w K mg base (L2.CX P w) k fA fdA P_Search_take_and (spT T (spI K C Cf (wTa m)))) (FO : FnOk P w K mg base (L2.CX P w) k fO fdO P_Search_take_or (spT T (spI K C Cf (wTo m)))) (bA : Binds K fdA P_Search_take_and []) (bO : Binds K fdO P_Search_take_or [])
    (Tx : FeTxt P K mg Cf fI) (hfd : ∃ oc od osl, K.lookup fI = some ⟨oc, od, .func fdI, osl⟩) (bI : Binds K fdI P_Fe [])
    (Gu : Def P w K mg base 2 "unknowns" P_unknowns (spL K wUnk)) (Gf : Def P w K mg base 1 "first_of" P_first_of (spD K wFof)) (Gs : Def P w K mg base 9 "solve" P_solve (spT T (spD K wSolve))) (gS : GD K mg "STEPS" (.int 300)) (gR : GD K mg "ROWS" (.int 8)) (gU : GD K mg "UNKNOWNS" (.int 4)) (hL : mg "len" = none) (hR : mg "range" = none) (hT' : mg "tuple" = none) :
    FnOk P w K mg base (L2.CX P w) (k + 1) f fd P_Search_look (spT T (spI K C Cf (wLk m))) := by
  refine okI F sc_Search_look (fun ds R h => by obtain ⟨fs, tk, rfl, _⟩ := h; rfl) fun cdv A outer s H E hr a H0 hT xo n0 ds R h => ?_
  obtain ⟨fs, tk, rfl, hi, r⟩ := h
  refine bs_cons (s_count c hn (w_var 0 rfl rfl) put_same ?_)
  refine bs_If <| wt_cmp <| w_steps c hn (w_var 0 rfl rfl) put_same <| w_gd gS <| opw_gt ⟨_, rfl, ?_⟩
  by_cases h300 : (300 : Int) < n0 + 1
  · rw [decide_eq_true h300]
    exact bs_cons (s_raiseFe rfl Tx hfd bI (hr.mono (by omega)) xo (.inr rfl))
  rw [decide_eq_false h300]
  refine bs_nil ?_
  have hlen := hi.len
  refine bs_cons (s_setL 4 (lcIf (α := Nat) [("number", 3)] 3 sc_Search_look.nd (it_range1 (w_len (w_var 1 rfl ⟨_, rfl, fs.length, by rw [List.length_map], by omega, ?_⟩) hL) hR)) sc_Search_look.nd)
  rw [nums_range]
  refine ⟨by simp; exact le_line (by omega), List.range fs.length, fun k => .int (k : Int), fun k => .int (k : Int), isRow fs, rfl, fun n hn' => ⟨fun s' H' C' cl fp => ?_, fun hb s' H' C' cl fp => w_var 3 rfl rfl⟩, fun an han => ?_⟩
  · have hlt := List.mem_range.mp hn'
    refine wt_cmp <| w_ix <| w_ix <| w_var 1 rfl <| w_var 3 rfl ⟨n, fs.map dF, dF fs[n], rfl, rfl, by rw [List.getElem?_map, List.getElem?_eq_getElem hlt]; rfl, w_int ⟨0, _, .str (fkind fs[n]), rfl, by rw [dF_tup]; rfl, rfl, w_str <| opw_eqS ⟨_, rfl, ?_⟩⟩⟩
    unfold isRow
    rw [List.getElem?_eq_getElem hlt]
    exact (decide_eq_decide.mpr ⟨Option.some.inj, congrArg some⟩).symm
  -- the rows
  have rows_at : ∀ n ∈ rowsAt fs, ∃ r0, fs[n]? = some (.row r0) := fun n h => rowsAt_get h
  have rl := rowsAt_len fs
  let sys : List Row := sysOf fs
  refine bs_cons (LC.set 5 sc_Search_look.nd (lc1' (α := Nat) [("number", 3)] 3 sc_Search_look.nd (it_own <| w_var 4 rfl ⟨an, _, rfl, put_same, ?_⟩)))
  refine ⟨by rw [List.length_map]; exact le_line (by show (rowsAt fs).length ≤ _; omega), rowsAt fs, fun n => .int (n : Int), fun n => dRow (rowD fs n), rfl, fun n hnn s' H' C' cl fp => ?_, fun ay hay => ?_⟩
  · obtain ⟨r0, e0⟩ := rows_at n hnn
    have eg : rowD fs n = r0 := rowD_some e0
    exact w_ix <| w_ix <| w_var 1 rfl <| w_var 3 rfl ⟨n, fs.map dF, dF (.row r0), rfl, rfl, by rw [List.getElem?_map, e0]; rfl, w_int ⟨1, _, dRow r0, rfl, rfl, rfl, by show dRow r0 = dRow (rowD fs n); rw [eg]⟩⟩
  have hay' : (put (put (put (put noR a (.I C (stF n0))) a (.I C (stF (n0 + 1)))) an (.L ((rowsAt fs).map fun n : Nat => .int (n : Int)))) ay (.L (sys.map dRow))) ay = some (.L (sys.map dRow)) := put_same
  have esys : (rowsAt fs).map (fun n => dRow (rowD fs n)) = sys.map dRow := by show _ = ((rowsAt fs).map (rowD fs)).map dRow; rw [List.map_map]; rfl
  have sl : sys.length = (rowsAt fs).length := List.length_map ..
  have hu := hr.units
  rw [esys]
  refine bs_If <| wt_ww <| ww_or <| wt_cmp <| w_len (w_var 5 rfl ⟨_, put_same, w_gd gR <| opw_gt ⟨_, rfl, ?_⟩⟩) hL
  by_cases h8 : (8 : Int) < ((sys.map dRow).length : Int)
  · rw [decide_eq_true h8]
    exact bs_cons (s_raiseFe rfl Tx hfd bI (hr.mono (by omega)) xo (.inl rfl))
  rw [decide_eq_false h8]
  rw [List.length_map] at h8
  have h8' : sys.length ≤ 8 := by omega
  have inFs : ∀ r0 ∈ sys, Fm.row r0 ∈ fs := fun r0 h0 => sysOf_mem.mp h0
  have lrow : ∀ r0 ∈ sys, LRow r0 := fun r0 h0 => by
    have := hi.l _ (inFs r0 h0)
    rwa [FmL] at this
  have n3 : (nms (allN sys)).length ≤ 3 := names_three fun r0 h0 => by
    have := hi.n _ (inFs r0 h0)
    rwa [FmN] at this
  have a24 : (allN sys).length ≤ 3 * sys.length := allN_len fun r0 h0 => (lrow r0 h0).l
  refine ww_or1 <| wt_cmp <| w_lenL (wl_call Gu (hr.mono (by omega)) <| wa_o <| w_var 5 rfl ⟨ay, _, rfl, put_same, wa_nil ⟨sys, rfl, by omega, by omega, w_gd gU <| opw_gt ⟨_, rfl, ?_⟩⟩⟩) hL
  rw [List.length_map, decide_eq_false (by omega)]
  refine bs_nil ?_
  -- false
  refine bs_cons (s_set 6 (w_call Gf (hr.mono (by omega)) <| wa_v <| w_var 1 rfl <| wa_v <| w_str <| wa_v <| w_tup <| wi_nil ⟨by decide, wa_nil ⟨fs, "false", [], rfl, by omega, ?_⟩⟩) sc_Search_look.nd)
  have hn_a : an ≠ a := fun z => by rw [z, put_same] at han; cases han
  have hy_a : ay ≠ a := fun z => by rw [z, put_ne hn_a.symm, put_same] at hay; cases hay
  have hy_n : ay ≠ an := fun z => by rw [z, put_same] at hay; cases hay
  have ha : (put (put (put (put noR a (.I C (stF n0))) a (.I C (stF (n0 + 1)))) an (.L ((rowsAt fs).map fun n : Nat => .int (n : Int)))) ay (.L (sys.map dRow))) a = some (.I C (stF (n0 + 1))) := by
    rw [put_ne hy_a.symm, put_ne hn_a.symm, put_same]
  have hnum : (put (put (put (put noR a (.I C (stF n0))) a (.I C (stF (n0 + 1)))) an (.L ((rowsAt fs).map fun n : Nat => .int (n : Int)))) ay (.L (sys.map dRow))) an = some (.L ((rowsAt fs).map fun n : Nat => .int (n : Int))) := by
    rw [put_ne hy_n.symm, put_same]
  cases hff : firstF fs "false" [] with
  | some n =>
    refine bs_If <| wt_cmp <| w_var 6 rfl <| w_non <| opw_notN ⟨_, rfl, ?_⟩
    obtain ⟨f0, e0, ek, _⟩ := first_some hff
    refine bs_cons <| s_retI <| w_tup <| wi_cons <| w_str <| wi_cons <| w_tup <| wi_cons <| w_str <| wi_cons <| w_var 6 rfl <| wi_nil ⟨one_line, wi_nil ⟨one_line, a, _, ha, _, _, rfl, rfl, r _ (.pf (.fls n) ?_ ?_)⟩⟩
    · rw [PfOk, e0, kind_false ek]
    · simp only [pdep]; exact Nat.zero_le _
  | none =>
    refine bs_If <| wt_cmp <| w_var 6 rfl <| w_non <| opw_notN ⟨_, rfl, bs_nil ?_⟩
    refine bs_cons (s_asg (w_callT hT Gs (hr.mono (by omega)) <| wa_o <| w_var 5 rfl ⟨ay, _, rfl, put_same, wa_nil ⟨sys, rfl, h8', lrow, n3, fun pt nd l3 sz hold => ?_, fun pap ok l8 zero no => ?_⟩⟩))
    · -- a point of the rows
      refine tg_tup (tgs_cons <| tg_name 7 (tgs_cons <| tg_name 8 (tgs_nil ?_) sc_Search_look.nd) sc_Search_look.nd) rfl rfl
      refine bs_If <| wt_cmp <| w_var 7 rfl <| w_str <| opw_eqS ⟨_, rfl, ?_⟩
      rw [decide_eq_false (show ("point" : Str) ≠ "paper" by decide)]
      refine bs_nil <| bs_cons (s_set 3 (w_call Gf (hr.mono (by omega)) <| wa_v <| w_var 1 rfl <| wa_v <| w_str <| wa_v <| w_var 2 rfl <| wa_nil ⟨fs, "and", tk, rfl, by omega, ?_⟩) sc_Search_look.nd)
      cases hfa : firstF fs "and" tk with
      | some n =>
        obtain ⟨f0, e0, ek, hnt⟩ := first_some hfa
        obtain ⟨l, rfl⟩ := kind_and ek
        refine bs_If <| wt_cmp <| w_var 3 rfl <| w_non <| opw_notN ⟨_, rfl, ?_⟩
        exact bs_cons <| s_retR <| wr_mono (wr_meth (R := Ans m fs) c hA hT FA hr bA xo (w_var 0 rfl rfl) ha (by decide) (wa_v <| w_var 1 rfl <| wa_v <| w_var 2 rfl <| wa_v <| w_var 3 rfl <| wa_nil ⟨fs, tk, n, l, rfl, hi, e0, hnt, fun d h => h⟩)) fun ρ' d ⟨n', e', ans⟩ => ⟨a, _, by rw [e', put_same], d, n', rfl, ans_flat ans, r d ans⟩
      | none =>
        refine bs_If <| wt_cmp <| w_var 3 rfl <| w_non <| opw_notN ⟨_, rfl, bs_nil ?_⟩
        refine bs_cons (s_set 3 (w_call Gf (hr.mono (by omega)) <| wa_v <| w_var 1 rfl <| wa_v <| w_str <| wa_v <| w_var 2 rfl <| wa_nil ⟨fs, "or", tk, rfl, by omega, ?_⟩) sc_Search_look.nd)
        cases hfo : firstF fs "or" tk with
        | some n =>
          obtain ⟨f0, e0, ek, hnt⟩ := first_some hfo
          obtain ⟨l, rfl⟩ := kind_or ek
          refine bs_If <| wt_cmp <| w_var 3 rfl <| w_non <| opw_notN ⟨_, rfl, ?_⟩
          exact bs_cons <| s_retR <| wr_mono (wr_meth (R := Ans m fs) c hO hT FO hr bO xo (w_var 0 rfl rfl) ha (by decide) (wa_v <| w_var 1 rfl <| wa_v <| w_var 2 rfl <| wa_v <| w_var 3 rfl <| wa_nil ⟨fs, tk, n, l, rfl, hi, e0, hnt, fun d h => h⟩)) fun ρ' d ⟨n', e', ans⟩ => ⟨a, _, by rw [e', put_same], d, n', rfl, ans_flat ans, r d ans⟩
        | none =>
          refine bs_If <| wt_cmp <| w_var 3 rfl <| w_non <| opw_notN ⟨_, rfl, bs_nil ?_⟩
          have ans : Ans m fs (.tup [.str "point", dPts pt]) := .pt pt nd l3 sz fun f hf => all_true hi.t hi.p (fun r0 h0 => hold r0 (sysOf_mem.mpr h0)) (fun h0 => by
            obtain ⟨n, e0⟩ := List.getElem?_of_mem h0
            have := first_none hff e0 rfl
            cases this) (fun n f0 e0 hk => hk.elim (fun hk => first_none hfa e0 hk) fun hk => first_none hfo e0 hk) (wt f) f (Nat.le_refl _) hf
          exact bs_cons <| s_retI <| w_tup <| wi_cons <| w_str <| wi_cons <| w_var 8 rfl <| wi_nil ⟨one_line, a, _, ha, _, _, rfl, ans_flat ans, r _ ans⟩
    · -- a paper
      refine tg_tup (tgs_cons <| tg_name 7 (tgs_cons <| tg_name 8 (tgs_nil ?_) sc_Search_look.nd) sc_Search_look.nd) rfl rfl
      refine bs_If <| wt_cmp <| w_var 7 rfl <| w_str <| opw_eqS ⟨_, rfl, ?_⟩
      rw [decide_eq_true rfl]
      have ans : Ans m fs (.tup [.str "proof", dPf (.rows (upPap fs pap))]) := .pf _ (by rw [PfOk]; exact up_ref ok l8 zero no) (by simp only [pdep]; exact Nat.zero_le _)
      refine bs_cons <| s_retI <| w_tup <| wi_cons <| w_str <| wi_cons <| w_tup <| wi_cons <| w_str <| wi_cons <| w_tupL (lc2 (α := Nat × Rat) [("index", 9), ("factor", 10)] 9 10 sc_Search_look.nd (it_tup <| w_var 8 rfl ⟨_, rfl, ?_⟩)) hT'
      refine ⟨by rw [List.length_map]; exact le_line (by omega), pap, fun p => .int (p.1 : Int), fun p => dQ p.2, fun p => dIx ((rowsAt fs).getD p.1 0, p.2), rfl, fun p hp s' H' C' cl fp => ?_, ?_⟩
      · obtain ⟨n, r0, e1, _⟩ := upPap_at ok hp
        refine w_tup <| wi_cons <| w_ix <| w_var 4 rfl <| w_var 9 rfl ⟨p.1, (rowsAt fs).map fun n : Nat => .int (n : Int), .int (n : Int), rfl, hnum, by rw [List.getElem?_map, e1]; rfl, wi_cons <| w_var 10 rfl <| wi_nil ⟨one_line, ?_⟩⟩
        show _ = D.tup [.int (((rowsAt fs).getD p.1 0 : Nat) : Int), dQ p.2]
        rw [List.getD_eq_getElem?_getD, e1]; rfl
      · refine wi_nil ⟨one_line, wi_nil ⟨one_line, a, _, ha, _, _, rfl, ?_, ?_⟩⟩
        · have := ans_flat ans
          unfold upPap dPf dPap at this
          rw [List.map_map] at this
          exact this
        · have := r _ ans
          unfold upPap dPf dPap at this
          rw [List.map_map] at this
          exact this
end
end LP
set_option maxRecDepth 100000
set_option maxHeartbeats 4000000
/-! Pn28: the search's recursion; Search(); decide; _law_decided. -/
namespace LP
open PySem PySem.Spec PyProof.Rows L2
/-- what the written part tells of Search -/
structure SrTxt (K : PySem.W.Frag) (mg : Str → Option Value) (C fN fL fA fO : Addr) (fdN fdL fdA fdO : FuncData) : Prop where
  g : mg "Search" = some (.ref C)
  c : Cls K C
  mkS : Mk K C fN
  n : NoAttr K C "steps"
  mL : Meth K C "look" fL
  mA : Meth K C "take_and" fA
  mO : Meth K C "take_or" fO
  FN : Fun K "__init__" "Search.__init__" s_Search_init fN fdN
  FL : Fun K "look" "Search.look" s_Search_look fL fdL
  FA : Fun K "take_and" "Search.take_and" s_Search_take_and fA fdA
  FO : Fun K "take_or" "Search.take_or" s_Search_take_or fO fdO
  bN : Binds K fdN P_Search_init []
  bL : Binds K fdL P_Search_look []
  bA : Binds K fdA P_Search_take_and []
  bO : Binds K fdO P_Search_take_or []
section
variable {P : Program} {w : World} {K : PySem.W.Frag} {mg : Str → Option Value} {base : Heap} {f fN fA fO fL fI : Addr} {fd fdN fdA fdO fdL fdI : FuncData} {T C Cf : Addr}
theorem ok_search (S : SrTxt K mg C fN fL fA fO fdN fdL fdA fdO) (Tx : FeTxt P K mg Cf fI) (hfd : ∃ oc od osl, K.lookup fI = some ⟨oc, od, .func fdI, osl⟩) (bI : Binds K fdI P_Fe [])
    (Gu : Def P w K mg base 2 "unknowns" P_unknowns (spL K wUnk)) (Gf : Def P w K mg base 1 "first_of" P_first_of (spD K wFof)) (Gs : Def P w K mg base 9 "solve" P_solve (spT T (spD K wSolve))) (gS : GD K mg "STEPS" (.int 300)) (gR : GD K mg "ROWS" (.int 8)) (gU : GD K mg "UNKNOWNS" (.int 4)) (hL : mg "len" = none) (hR : mg "range" = none) (hT' : mg "tuple" = none) (hl : mg "list" = none) :
    ∀ m : Nat, FnOk P w K mg base (L2.CX P w) (11 + 2 * m) fL fdL P_Search_look (spT T (spI K C Cf (wLk m))) := by
  intro m
  induction m with
  | zero =>
    exact step_look 0 10 (by decide) S.FL S.c S.n S.mA S.mO (step_take_and 0 9 S.FA S.c S.mL (fun z => absurd rfl z) S.bL hl) (step_take_or 0 9 S.FO S.c S.mL (fun z => absurd rfl z) S.bL hT') S.bA S.bO Tx hfd bI Gu Gf Gs gS gR gU hL hR hT'
  | succ m ih =>
    have e : 11 + 2 * (m + 1) = (11 + 2 * m + 1) + 1 := by omega
    rw [e]
    exact step_look (m + 1) (11 + 2 * m + 1) (by omega) S.FL S.c S.n S.mA S.mO (step_take_and (m + 1) (11 + 2 * m) S.FA S.c S.mL (fun _ => ih) S.bL hl) (step_take_or (m + 1) (11 + 2 * m) S.FO S.c S.mL (fun _ => ih) S.bL hT') S.bA S.bO Tx hfd bI Gu Gf Gs gS gR gU hL hR hT'
/-- Search.__init__ -/
def spIni (C : Addr) : Sp := fun vs H Q _ => ∃ x dx, vs = [.ref x] ∧ H x = some (.ins C dx []) ∧ Q .non (upd H x (.ins C dx (stV 0)))
theorem ok_search_init (F : Fun K "__init__" "Search.__init__" s_Search_init f fd) (c : Cls K C) (hn : NoAttr K C "steps") : FnOk P w K mg base CX0 1 f fd P_Search_init (spIni C) := by
  refine F.ok sc_Search_init (fun vs H Q E h => ?_) fun cdv A outer s H vs Q E hr h => ⟨_, pss_one (ps_fld (pv 0) pe_int rfl), ?_⟩
  · obtain ⟨x, dx, rfl, _⟩ := h
    rfl
  · obtain ⟨x, dx, rfl, hx, q⟩ := h
    exact ⟨.ref x, rfl, x, C, dx, [], rfl, hx, c, hn, by decide, q⟩
end
section
variable {X : Cx} {H0 : Hp} {ρ : Rho} {δ : Del} {e o : Expr} {es : List Expr} {pos p p2 apos : Pos} {C Cf T : Addr} {P : Post}
/-- Search().m(..) -/
theorem w_newMeth {pl : Sem Bool} {sx m : Str} {fN f : Addr} {fdN fd : FuncData} {ps : List Str} {k : Nat} {Wf : List D → (D → Prop) → Prop} {R : D → Prop} (M : Mk X.K C fN) (FN : FnOk X.prog X.w X.K X.mg X.base CX0 1 fN fdN P_Search_init (spIni C)) (bN : Binds X.K fdN P_Search_init []) (hmg : X.mg sx = some (.ref C)) (c : Cls X.K C) (hm : Meth X.K C m f) (hT : GxR.TabG H0 T) (F1 : FnOk X.prog X.w X.K X.mg X.base (L2.CX X.prog X.w) k f fd ps (spT T (spI X.K C Cf Wf))) (hr : Room k X.A) (hr2 : Room 2 X.A) (hb : Binds X.K fd ps []) (xo : XOk X H0 Cf)
    (hl : ("steps" : Str) ≠ m) (h : WA X H0 ρ δ (e :: es) fun ds => Wf ds R) (hg : Gl X sx := by rfl) (hdb : (sx == ("__debug__" : Str)) = false := by decide)
    (hst : starEach (e :: es) X.env = (false, eval e X.env) :: starEach es X.env := by rfl) (hpl : (backTo pos (starEach es X.env)).any (·.1) = false := by rfl)
    (ht : eval (.Call (.Attribute (.Call (.Name sx p) [] [] p2) m apos) (e :: es) [] pos) X.env = (do
      let ov ← eval (.Call (.Name sx p) [] [] p2) X.env
      standAt apos.atName
      let (f, first) ← holding [ov] (getMethod ov m pl)
      callWith pos f first (backTo pos (starEach (e :: es) X.env)) (backToKw pos (keywordEach [] X.env))) := by rfl) :
    W X H0 ρ δ (.Call (.Attribute (.Call (.Name sx p) [] [] p2) m apos) (e :: es) [] pos) R := by
  intro σ H F S Q q
  obtain ⟨W, tk, hW⟩ := xo
  refine E_of (pe_meth (E := fun cls d H => ∀ σ, W cls d σ H) (pe_make0 M FN hr2 hg hmg bN .nil pass0 hdb) c hm F1 hr hb .nil (passes_call tk fun cls d σ H h => h σ) pa_A hst hpl ht) ?_
  intro x dx hx hdx hne
  refine ⟨x, dx, rfl, upd_same, rfl, ?_⟩
  obtain ⟨H2, hH2⟩ : ∃ H2, H2 = upd (upd (upd H dx (.own x)) x (.ins C dx [])) x (.ins C dx (stV 0)) := ⟨_, rfl⟩
  rw [← hH2]
  have h2x : H2 x = some (.ins C dx (stV 0)) := by rw [hH2]; exact upd_same
  have h2d : H2 dx = some (.own x) := by rw [hH2, upd_ne hne, upd_ne hne]; exact upd_same
  have e2 : Ex H H2 := .of fun b o hb => by rw [hH2, upd_ne (ne_of_none hb hx), upd_ne (ne_of_none hb hx), upd_ne (ne_of_none hb hdx)]; exact hb
  have no : ∀ ps, HO.ins C dx (stV 0) ≠ .tbl ps := fun _ z => by cases z
  have nw : ∀ ps, HO.own x ≠ .tbl ps := fun _ z => by cases z
  refine ⟨x, dx, stV 0, rfl, h2x, ?_, h σ H2 (F.step e2) (S.step e2) _ fun vs H3 ds wf e3 iv => ?_⟩
  · have : (m == ("steps" : Str)) = false := by simpa using fun z => hl z.symm
    simp [List.lookup, this]
  have hH3 := e3.get h2x no
  have hd3 := e3.get h2d nw
  have e23 := e2.trans e3
  have eh := e23.hid hx hdx
  rw [List.append_nil]
  refine ⟨tabG_ex (F.step e23).ex hT, x, dx, 0, vs, ds, R, rfl, hH3, hd3, wf, isVs_hid hH3 hd3 iv, fun v H' n' d r fl e4 own iv' => q v H' d r (eh.trans e4) (iv'.rebase _ fl), fun H' d ⟨e4, hn, w, hw, hx'⟩ σ => hW σ H' d ⟨(F.ex.trans eh).trans e4, (F.ex.trans eh).free hn, w, hw, hx'⟩⟩
end
/-- a def that may raise -/
def spE (K : PySem.W.Frag) (Cf : Addr) (Wf : List D → (D → Prop) → Prop) : Sp := fun vs H Q E => ∃ ds R, Wf ds R ∧ IsVs K H H vs ds ∧ (∀ v H' d, R d → d.flat = true → Ex H H' → IsV K H H' v d → Q v H') ∧ ∀ H' d, FeOut H H' d → E (.ref Cf) (some d) H'
section
variable {P : Program} {w : World} {K : PySem.W.Frag} {mg : Str → Option Value} {base : Heap} {x qual : Str} {st : Stmt} {f : Addr} {fd : FuncData} {N ps : List Str} {k : Nat} {T C Cf : Addr}
theorem okE {Wf : List D → (D → Prop) → Prop} (F : Fun K x qual st f fd) (S : FnScope N ps (defScope st)) (len : ∀ ds R, Wf ds R → ds.length = ps.length)
    (body : ∀ (cdv : Value) (A : Around) (outer : List Env) (s : Shared) (H : Hp) (E : XK), Room k (A.deeper (envOfC qual (defScope st) s.heap.objs.size f cdv)) → GxR.TabG H T → XOk (cxOf (L2.CX P w) P w K mg base N qual (defScope st) f cdv A outer s H E) H Cf → ∀ ds R, Wf ds R →
      BS (cxOf (L2.CX P w) P w K mg base N qual (defScope st) f cdv A outer s H E) H noR (startD N ds) (defBody st) (PD R)) : FnOk P w K mg base (L2.CX P w) (k + 1) f fd ps (spT T (spE K Cf Wf)) := by
  refine F.okX S (fun vs H Q E h => ?_) fun cdv A outer s H vs Q E hr h => ?_
  · obtain ⟨_, ds, R, wf, iv, _⟩ := h
    rw [iv.len]
    exact len ds R wf
  · obtain ⟨ht, ds, R, wf, iv, q, qe⟩ := h
    have xo : XOk (cxOf (L2.CX P w) P w K mg base N qual (defScope st) f cdv A outer s H E) H Cf := ⟨_, takes_of rfl rfl rfl rfl, fun σ H' d fo => qe H' d fo⟩
    refine ⟨_, pss_B, body cdv A outer s H E hr ht xo ds R wf _ H ⟨.refl H, fun _ _ e => by cases e⟩ (sl_start iv) _ ⟨?_, ?_, ?_, ?_⟩⟩
    · exact fun ρ δ σ H' r F' S' t => q .non H' .non r rfl F'.ex rfl
    · rintro r v H' ρ ⟨d, rfl, fl, r⟩ F' iv'
      exact q v H' d r fl F'.ex (iv'.rebase _ fl)
    · exact fun _ _ _ _ z => z.elim
    · exact fun _ _ _ _ z => z.elim
end
/-- what decide is called with -/
structure DecIn (m : Nat) (gs : List Fm) : Prop where
  lk : LkIn m (gs.map pl) []
  g : ∀ g ∈ gs, dep g ≤ 2 ∧ FmIn g
  len : gs.length ≤ 1000
def wDec (m : Nat) : List D → (D → Prop) → Prop := fun ds R => ∃ gs : List Fm, ds = [.lst (gs.map dF)] ∧ DecIn m gs ∧ ∀ d, Ans m (gs.map pl) d → R d
def dRef (w : Str) : D := .tup [.str "refused", .tup [.int 0, .str w]]
def wDcd (m : Nat) : List D → (D → Prop) → Prop := fun ds R => ∃ gs : List Fm, ds = [.lst (gs.map dF)] ∧ DecIn m gs ∧ (∀ d, Ans m (gs.map pl) d → R d) ∧ ∀ w, feW w → R (dRef w)
section
variable {P : Program} {w : World} {K : PySem.W.Frag} {mg : Str → Option Value} {base : Heap} {f fN fA fO fL fI fD : Addr} {fd fdN fdA fdO fdL fdI fdD : FuncData} {T C Cf : Addr}
theorem ok_decide (m k : Nat) (hk : 10 ≤ k) (F : Fun K "decide" "decide" s_decide f fd) (S : SrTxt K mg C fN fL fA fO fdN fdL fdA fdO) (FL : FnOk P w K mg base (L2.CX P w) k fL fdL P_Search_look (spT T (spI K C Cf (wLk m))))
    (Gp : Def P w K mg base 10 "plain" P_plain (spD K (wPln 2))) : FnOk P w K mg base (L2.CX P w) (k + 1) f fd P_decide (spT T (spE K Cf (wDec m))) := by
  refine okE F sc_decide (fun ds R h => by obtain ⟨gs, rfl, _⟩ := h; rfl) fun cdv A outer s H E hr hT xo ds R h => ?_
  obtain ⟨gs, rfl, hi, r⟩ := h
  have hlen := hi.len
  refine bs_cons <| s_ret <| w_mono (w_newMeth (R := Ans m (gs.map pl)) S.mkS (ok_search_init S.FN S.c S.n) S.bN S.g S.c S.mL hT FL hr (hr.mono (by omega)) S.bL xo (by decide)
    (wa_l <| lc1 (α := Fm) [("formula", 1)] 1 sc_decide.nd (it_old <| w_var 0 rfl ⟨_, .inl rfl, ?_⟩))) fun d ans => ⟨d, rfl, ans_flat ans, r d ans⟩
  refine ⟨by rw [List.length_map]; exact le_line (by omega), gs, dF, fun g => dF (pl g), rfl, fun g h s' H' C cl fp => ?_, ?_⟩
  · obtain ⟨h1, h2⟩ := hi.g g h
    exact w_call Gp (hr.mono hk) <| wa_v <| w_var 1 rfl <| wa_nil ⟨g, rfl, h1, h2, rfl⟩
  · exact wa_v <| w_tup <| wi_nil ⟨by decide, wa_nil ⟨gs.map pl, [], by rw [List.map_map]; rfl, hi.lk, fun d h => h⟩⟩
/-- the suite of the except -/
def t_refused (C : Addr) : Addr → Value → Option Addr → TS := fun a cls d => tRet (tTup (tCons (tC (.str "refused")) (tCons (tTup (tCons (tXf a cls d C "place" (tVar 1)) (tCons (tXf a cls d C "what" (tVar 1)) tNil))) tNil)))
theorem feOut_tup {K : PySem.W.Frag} {H H' : Hp} {a : Addr} {vs : List V} (ha : H' a = none) (e : Ex H H') : Ex H (upd H' a (.tup vs)) := e.trans (.new ha)
theorem ok_law_decided (m k : Nat) (hk : 2 ≤ k) (F : Fun K "_law_decided" "_law_decided" s__law_decided f fd) (FD : FnOk P w K mg base (L2.CX P w) k fD fdD P_decide (spT T (spE K Cf (wDec m)))) (gD : mg "decide" = some (.ref fD)) (kD : PySem.W.keepIn K (.ref fD) = true) (bD : Binds K fdD P_decide [])
    (Tx : FeTxt P K mg Cf fI) (Xf : XfC K Cf) (te : PySem.W.exmOne K (.ref Cf) (.ref Cf) = some true) : FnOk P w K mg base CX0 (k + 1) f fd P__law_decided (spT T (spD K (wDcd m))) := by
  refine F.ok sc__law_decided (fun vs H Q E h => ?_) fun cdv A outer s H vs Q E hr h => ⟨_, pss_one (ps_try_as (i := 1) (tb := fun W => tRet (tCallS (spT T (spE K Cf (wDec m))) (WE W) (tCons (tVar 0) tNil))) (ts := t_refused Cf) (Wout := fun _ _ _ _ => False) rfl rfl sc__law_decided.nd rfl rfl ⟨rfl, by decide, .inl Tx.gC⟩ takes0
    (fun W pn xe tk _ => pss_one (ps_ret (pe_callS FD hr rfl gD kD bD (fun σ => passAt tk σ) (pa_cons (pv 0) pa_nil))))
    (fun a oe cls d pn hz hf => pss_one (ps_ret (pe_tup (pa_cons pe_str (pa_cons (pe_tup (pa_cons (pe_xf Xf Tx.noP hz hf (pv 1)) (pa_cons (pe_xf Xf Tx.noW hz hf (pv 1)) pa_nil))) pa_nil)))))), ?_⟩
  · obtain ⟨_, ds, R, ⟨gs, rfl, _⟩, iv, _⟩ := h
    rw [iv.len]
    rfl
  · obtain ⟨hT, ds, R, ⟨gs, rfl, hi, r, rr⟩, iv, q⟩ := h
    obtain ⟨v, vr, rfl, i1, rfl⟩ := iv
    refine ⟨v, rfl, hT, [.lst (gs.map dF)], R, ⟨gs, rfl, hi, r⟩, ⟨v, [], rfl, i1, rfl⟩, fun u H' d rd fl e iu => q u H' d rd fl e iu, fun H' d ⟨e, hn, w, hw, hx⟩ => ⟨true, te, fun _ a ha => ?_, fun z => Bool.noConfusion z⟩⟩
    refine ⟨.ref a, rfl, rfl, rfl, d, _, .int 0, rfl, hx, rfl, .ref a, rfl, rfl, rfl, d, _, .str w, rfl, hx, rfl, one_line (n := 2), fun b hb => ⟨one_line (n := 2), fun c hc => ?_⟩⟩
    have e1 : Ex H (upd H' b (.tup [.int 0, .str w])) := e.trans (.new hb)
    refine q (.ref c) _ (dRef w) (rr w hw) rfl (e1.trans (.new hc)) ⟨c, _, rfl, .of upd_same, .str "refused", _, rfl, rfl, .ref b, [], rfl, ⟨b, _, rfl, .of (by rw [upd_ne (ne_of_none upd_same hc)]; exact upd_same), .int 0, _, rfl, rfl, .str w, [], rfl, rfl, rfl⟩, rfl⟩
end
end LP
set_option maxRecDepth 100000
set_option maxHeartbeats 2000000
/-! Lw1: the law's formulas: sizes. -/
namespace LP
open PySem L2
theorem den_one {q : Rat} {n : Nat} (h : Sz n 1 q) : q.den = 1 := by
  have h1 := h.d
  unfold Bt at h1
  have := q.den_nz
  omega
theorem norm_int {r : Row} {n : Nat} (s : SzL n 1 r.ps) (z : ∀ p ∈ r.ps, p.2 ≠ 0) : SzL n 1 (norm r).ps := by
  intro q hq
  obtain ⟨p, hp, rfl⟩ := List.mem_map.mp hq
  obtain ⟨w, hw, hb⟩ := whole_val hp (z p hp)
  have l1 : lcms r.ps 1 = 1 := lcms_one r.ps fun p hp => den_one (s p hp)
  have tp : Bt n (p.2.num.natAbs * (lcms r.ps 1 / p.2.den)) := by
    rw [l1, den_one (s p hp)]
    simpa using (s p hp).n
  have key : ∃ w' : Int, fac r * p.2 = (w' : Rat) ∧ w'.natAbs = w.natAbs := by
    unfold fac
    split
    · rename_i e
      rw [e] at hp; cases hp
    · rename_i p0 ps0 e
      have hs : size (p0 :: ps0) * p.2 = (w : Rat) := by
        unfold size
        rw [← e]; exact hw
      unfold turn
      split
      · refine ⟨-w, ?_, by rw [Int.natAbs_neg]⟩
        rw [Rat.intCast_neg, ← hs]; grind
      · exact ⟨w, hs, rfl⟩
  obtain ⟨w', e1, e2⟩ := key
  show Sz _ _ (fac r * p.2)
  rw [e1]
  refine ⟨?_, by rw [Rat.den_intCast]; show Bt 1 1; simp [Bt]⟩
  rw [Rat.num_intCast, e2]
  exact tp.le hb
theorem size_sz {p : Str × Rat} {ps : Pts} (s : SzL 2 1 (p :: ps)) (z : ∀ q ∈ p :: ps, q.2 ≠ 0) : Sz 1 2 (size (p :: ps)) := by
  have l1 : lcms (p :: ps) 1 = 1 := lcms_one _ fun p hp => den_one (s p hp)
  have hp : p ∈ p :: ps := List.mem_cons_self ..
  unfold size
  rw [l1, div_divInt]
  have ht : Bt 2 (tops 1 (p :: ps) 0) := by
    have h1 := tops_dvd 1 (t := 0) hp
    rw [den_one (s p hp)] at h1
    have h2 : p.2.num.natAbs * (1 / 1) ≠ 0 := by
      have := z p hp
      simp only [Nat.div_self (show 0 < 1 by decide), Nat.mul_one]
      intro e
      exact this (Rat.num_eq_zero.mp (Int.natAbs_eq_zero.mp e))
    exact Bt.dvd (by simpa using (s p hp).n) h2 h1
  have hne : tops 1 (p :: ps) 0 ≠ 0 := by
    have := tops_ne hp (z p hp) 0
    rwa [l1] at this
  refine sz_divInt ?_ ?_ ?_
  · show Bt 1 (((1 : Nat) : Rat).num * ((tops 1 (p :: ps) 0 : Nat) : Rat).den).natAbs
    rw [Rat.num_natCast, Rat.den_natCast]
    show Bt 1 1
    exact Bt.one
  · rw [Rat.num_natCast, Rat.den_natCast]
    show Bt 2 (1 * ((tops 1 (p :: ps) 0 : Nat) : Int)).natAbs
    rw [Int.one_mul, Int.natAbs_natCast]
    exact ht
  · rw [Rat.num_natCast, Rat.den_natCast]
    show (1 * ((tops 1 (p :: ps) 0 : Nat) : Int)) ≠ 0
    omega
theorem norm_b {r : Row} {k j : Nat} (s : SzL 2 1 r.ps) (z : ∀ p ∈ r.ps, p.2 ≠ 0) (h : Sz k j r.b) : Sz (1 + k) (2 + j) (norm r).b := by
  obtain ⟨ps, sg, b⟩ := r
  show Sz _ _ (fac ⟨ps, sg, b⟩ * b)
  cases ps with
  | nil =>
    show Sz _ _ ((if b = 0 then 1 else turn sg b (1 / ab b)) * b)
    by_cases h0 : b = 0
    · rw [if_pos h0, h0]
      rw [show (1 : Rat) * 0 = 0 by grind]
      exact Sz.zero.mono (by omega) (by omega)
    · rw [if_neg h0]
      have key : turn sg b (1 / ab b) * b = 1 ∨ turn sg b (1 / ab b) * b = -1 := by
        have hd : ∀ x : Rat, x ≠ 0 → 1 / x * x = 1 := fun x hx => by rw [Rat.div_def]; grind [Rat.inv_mul_cancel]
        unfold turn ab
        by_cases hn : b < 0
        · have h1 := hd (-b) (by grind)
          simp only [hn, and_true, if_true]
          split
          · left; grind
          · right; grind
        · have h1 := hd b h0
          simp only [hn, and_false, if_false]
          left; exact h1
      rcases key with e | e
      · rw [e]; exact Sz.one.mono (by omega) (by omega)
      · rw [e]; exact Sz.one.neg.mono (by omega) (by omega)
  | cons p ps => exact (turn_sz (size_sz s z)).mul h
/-- rows of the law's formulas -/
structure GR (k j : Nat) (r : Row) : Prop where
  c : Canon r.ps
  s : SzL 2 1 r.ps
  l : r.ps.length ≤ 3
  b : Sz k j r.b
  n : ∀ p ∈ r.ps, p.1 ∈ L3
theorem GR.norm {k j : Nat} {r : Row} (h : GR k j r) : GR (1 + k) (2 + j) (norm r) :=
  ⟨norm_canon h.c, norm_int h.s h.c.nz, by show (r.ps.map _).length ≤ 3; rw [List.length_map]; exact h.l, norm_b h.s h.c.nz h.b, fun q hq => by
    obtain ⟨p, hp, rfl⟩ := List.mem_map.mp hq
    exact h.n p hp⟩
theorem mk_gr {k j : Nat} {sn : Sn} {ps : Pts} {b : Rat} (s : SzL 2 1 ps) (hc : ∀ u, cnt ps u ≤ 1) (hl : ps.length ≤ 3) (hn : ∀ p ∈ ps, p.1 ∈ L3) (hb : Sz k j b) : GR (1 + k) (2 + j) (mkRow sn (gath ps) b) := by
  have c := gath_canon ps
  have hco := gath_coef ps
  have hnames : ∀ p ∈ gath ps, p.1 ∈ L3 := fun p hp => by
    obtain ⟨q, hq, e⟩ := List.mem_map.mp (c.names hco hp)
    rw [← e]; exact hn q hq
  generalize gath ps = qs at *
  have s2 : SzL 2 1 qs := (c.sz hco (by decide) (by decide) (by decide) s hc).mono (by decide) (by decide)
  have l2 : qs.length ≤ 3 := Nat.le_trans (canon_len c hco) hl
  have neg : ∀ sg : Sg, GR k j ⟨qs.map fun p => (p.1, -1 * p.2), sg, -b⟩ := fun sg => ⟨c.map (by decide), fun p hp => by
    obtain ⟨q, hq, rfl⟩ := List.mem_map.mp hp
    show Sz 2 1 (-1 * q.2)
    rw [show (-1 : Rat) * q.2 = -q.2 by grind]
    exact (s2 q hq).neg, by rw [List.length_map]; exact l2, hb.neg, fun p hp => by
    obtain ⟨q, hq, rfl⟩ := List.mem_map.mp hp
    exact hnames q hq⟩
  cases sn with
  | eq => exact GR.norm ⟨c, s2, l2, hb, hnames⟩
  | le => exact GR.norm ⟨c, s2, l2, hb, hnames⟩
  | lt => exact GR.norm ⟨c, s2, l2, hb, hnames⟩
  | ge => exact GR.norm (neg _)
  | gt => exact GR.norm (neg _)
theorem GR.opps {k j : Nat} {r o : Row} (h : GR k j r) (ho : o ∈ opps r) : GR (1 + k) (2 + j) o := by
  have key : ∀ sn, GR (1 + k) (2 + j) (mkRow sn (gath r.ps) r.b) := fun sn => mk_gr h.s (cnt_canon h.c) h.l h.n h.b
  unfold LP.opps at ho
  split at ho
  · rw [List.mem_singleton.mp ho]; exact key _
  · rw [List.mem_singleton.mp ho]; exact key _
  · rcases List.mem_cons.mp ho with rfl | ho
    · exact key _
    · rw [List.mem_singleton.mp ho]; exact key _
theorem GR.lrow {r : Row} {k j : Nat} (h : GR k j r) (hk : k ≤ 6) (hj : j ≤ 6) : LRow r := ⟨h.c, h.s, h.l, h.b.mono hk hj⟩
theorem GR.rowIn {r : Row} {k j : Nat} (h : GR k j r) (hk : k ≤ 20) (hj : j ≤ 20) : RowIn r := ⟨h.c, h.s, by have := h.l; omega, h.b.mono hk hj⟩
/-- the law's formulas -/
inductive GF : Nat → Fm → Prop
  | row {n r} (h : GR 5 4 r) : GF n (.row r)
  | tt {n} : GF n .tt
  | ff {n} : GF n .ff
  | neg {n f} (h : GF n f) : GF (n + 1) (.neg f)
  | conj {n l} (hl : l.length ≤ 3) (h : ∀ f ∈ l, GF n f) : GF (n + 1) (.conj l)
  | disj {n l} (hl : l.length ≤ 3) (h : ∀ f ∈ l, GF n f) : GF (n + 1) (.disj l)
def wB : Nat → Nat
  | 0 => 1
  | n + 1 => 3 * wB n + 1
structure GOk (n : Nat) (g : Fm) : Prop where
  d : dep g ≤ n
  i : FmIn g
  l1 : FmL (pl g)
  l2 : FmL (dn g)
  n1 : FmN (pl g)
  n2 : FmN (dn g)
  w1 : wt (pl g) ≤ wB n
  w2 : wt (dn g) ≤ wB n
theorem deps_le {n : Nat} : ∀ {l : List Fm}, (∀ f ∈ l, dep f ≤ n) → deps l ≤ n
  | [], _ => by rw [deps]; omega
  | f :: l, h => by
    rw [deps]
    have h1 := h f (List.mem_cons_self ..)
    have h2 := deps_le (l := l) fun g hg => h g (List.mem_cons_of_mem _ hg)
    omega
theorem fmsIn_of : ∀ {l : List Fm}, (∀ f ∈ l, FmIn f) → FmsIn l
  | [], _ => by rw [FmsIn]; trivial
  | f :: l, h => by rw [FmsIn]; exact ⟨h f (List.mem_cons_self ..), fmsIn_of fun g hg => h g (List.mem_cons_of_mem _ hg)⟩
theorem wts_le {n : Nat} : ∀ {l : List Fm}, (∀ f ∈ l, wt f ≤ n) → wts l ≤ l.length * n
  | [], _ => by rw [wts]; omega
  | f :: l, h => by
    rw [wts, List.length_cons, Nat.add_mul]
    have h1 := h f (List.mem_cons_self ..)
    have h2 := wts_le (l := l) fun g hg => h g (List.mem_cons_of_mem _ hg)
    omega
theorem dn_row_cases (r : Row) : (∃ o, o ∈ opps r ∧ dn (.row r) = .row o) ∨ ∃ o1 o2, o1 ∈ opps r ∧ o2 ∈ opps r ∧ dn (.row r) = .disj [.row o1, .row o2] := by
  rw [dn_row]
  unfold opps
  cases r.sg with
  | le => exact .inl ⟨_, List.mem_singleton.mpr rfl, rfl⟩
  | lt => exact .inl ⟨_, List.mem_singleton.mpr rfl, rfl⟩
  | eq => exact .inr ⟨_, _, List.mem_cons_self .., List.mem_cons_of_mem _ (List.mem_singleton.mpr rfl), rfl⟩
theorem gf_ok {n : Nat} {g : Fm} (h : GF n g) : GOk n g := by
  induction h with
  | @row n r h =>
    have wn : ∀ n, 1 ≤ wB n := fun n => by induction n with
      | zero => exact Nat.le_refl _
      | succ n ih => rw [wB]; omega
    have lo : ∀ o ∈ opps r, GR 6 6 o := fun o ho => h.opps ho
    have hN : FmN (.row r) := by rw [FmN]; exact h.n
    have hL : FmL (.row r) := by rw [FmL]; exact h.lrow (by decide) (by decide)
    refine ⟨by simp only [dep]; exact Nat.zero_le _, by rw [FmIn]; exact h.rowIn (by decide) (by decide), by rw [pl]; exact hL, ?_, by rw [pl]; exact hN, ?_, by rw [pl]; simp only [wt]; exact Nat.zero_le _, ?_⟩
    all_goals
      rcases dn_row_cases r with ⟨o, ho, e⟩ | ⟨o1, o2, ho1, ho2, e⟩
      all_goals rw [e]
    · rw [FmL]; exact (lo o ho).lrow (by decide) (by decide)
    · rw [FmL, fmsL_iff]
      refine ⟨by show 2 ≤ 1000; decide, fun f hf => ?_⟩
      rcases List.mem_cons.mp hf with rfl | hf
      · rw [FmL]; exact (lo _ ho1).lrow (by decide) (by decide)
      · rw [List.mem_singleton.mp hf, FmL]; exact (lo _ ho2).lrow (by decide) (by decide)
    · rw [FmN]; exact (lo o ho).n
    · rw [FmN, fmsN_iff]
      intro f hf
      rcases List.mem_cons.mp hf with rfl | hf
      · rw [FmN]; exact (lo _ ho1).n
      · rw [List.mem_singleton.mp hf, FmN]; exact (lo _ ho2).n
    · simp only [wt]; exact Nat.zero_le _
    · simp only [wt, wts]; exact wn _
  | tt =>
    refine ⟨?_, ?_, ?_, ?_, ?_, ?_, ?_, ?_⟩ <;> simp [dep, FmIn, pl, dn, FmL, FmN, wt]
  | ff =>
    refine ⟨?_, ?_, ?_, ?_, ?_, ?_, ?_, ?_⟩ <;> simp [dep, FmIn, pl, dn, FmL, FmN, wt]
  | @neg n f h ih =>
    exact ⟨by rw [dep]; have := ih.d; omega, by rw [FmIn]; exact ih.i, by rw [pl]; exact ih.l2, by rw [dn]; exact ih.l1, by rw [pl]; exact ih.n2, by rw [dn]; exact ih.n1, by rw [pl, wB]; have := ih.w2; omega, by rw [dn, wB]; have := ih.w1; omega⟩
  | @conj n l hl h ih =>
    have a1 : ∀ f ∈ l.map pl, FmL f := fun f hf => by obtain ⟨g, hg, rfl⟩ := List.mem_map.mp hf; exact (ih g hg).l1
    have a2 : ∀ f ∈ l.map dn, FmL f := fun f hf => by obtain ⟨g, hg, rfl⟩ := List.mem_map.mp hf; exact (ih g hg).l2
    have a3 : ∀ f ∈ l.map pl, FmN f := fun f hf => by obtain ⟨g, hg, rfl⟩ := List.mem_map.mp hf; exact (ih g hg).n1
    have a4 : ∀ f ∈ l.map dn, FmN f := fun f hf => by obtain ⟨g, hg, rfl⟩ := List.mem_map.mp hf; exact (ih g hg).n2
    have a5 : wts (l.map pl) ≤ 3 * wB n := Nat.le_trans (wts_le fun f hf => by obtain ⟨g, hg, rfl⟩ := List.mem_map.mp hf; exact (ih g hg).w1) (by rw [List.length_map]; exact Nat.mul_le_mul_right _ hl)
    have a6 : wts (l.map dn) ≤ 3 * wB n := Nat.le_trans (wts_le fun f hf => by obtain ⟨g, hg, rfl⟩ := List.mem_map.mp hf; exact (ih g hg).w2) (by rw [List.length_map]; exact Nat.mul_le_mul_right _ hl)
    exact ⟨by rw [dep]; have := deps_le fun f hf => (ih f hf).d; omega, by rw [FmIn]; exact ⟨by omega, fmsIn_of fun f hf => (ih f hf).i⟩,
      by rw [pl, FmL, fmsL_iff, pls_map]; exact ⟨by rw [List.length_map]; omega, a1⟩, by rw [dn, FmL, fmsL_iff, dns_map]; exact ⟨by rw [List.length_map]; omega, a2⟩,
      by rw [pl, FmN, fmsN_iff, pls_map]; exact a3, by rw [dn, FmN, fmsN_iff, dns_map]; exact a4, by rw [pl, wt, wB, pls_map]; omega, by rw [dn, wt, wB, dns_map]; omega⟩
  | @disj n l hl h ih =>
    have a1 : ∀ f ∈ l.map pl, FmL f := fun f hf => by obtain ⟨g, hg, rfl⟩ := List.mem_map.mp hf; exact (ih g hg).l1
    have a2 : ∀ f ∈ l.map dn, FmL f := fun f hf => by obtain ⟨g, hg, rfl⟩ := List.mem_map.mp hf; exact (ih g hg).l2
    have a3 : ∀ f ∈ l.map pl, FmN f := fun f hf => by obtain ⟨g, hg, rfl⟩ := List.mem_map.mp hf; exact (ih g hg).n1
    have a4 : ∀ f ∈ l.map dn, FmN f := fun f hf => by obtain ⟨g, hg, rfl⟩ := List.mem_map.mp hf; exact (ih g hg).n2
    have a5 : wts (l.map pl) ≤ 3 * wB n := Nat.le_trans (wts_le fun f hf => by obtain ⟨g, hg, rfl⟩ := List.mem_map.mp hf; exact (ih g hg).w1) (by rw [List.length_map]; exact Nat.mul_le_mul_right _ hl)
    have a6 : wts (l.map dn) ≤ 3 * wB n := Nat.le_trans (wts_le fun f hf => by obtain ⟨g, hg, rfl⟩ := List.mem_map.mp hf; exact (ih g hg).w2) (by rw [List.length_map]; exact Nat.mul_le_mul_right _ hl)
    exact ⟨by rw [dep]; have := deps_le fun f hf => (ih f hf).d; omega, by rw [FmIn]; exact ⟨by omega, fmsIn_of fun f hf => (ih f hf).i⟩,
      by rw [pl, FmL, fmsL_iff, pls_map]; exact ⟨by rw [List.length_map]; omega, a1⟩, by rw [dn, FmL, fmsL_iff, dns_map]; exact ⟨by rw [List.length_map]; omega, a2⟩,
      by rw [pl, FmN, fmsN_iff, pls_map]; exact a3, by rw [dn, FmN, fmsN_iff, dns_map]; exact a4, by rw [pl, wt, wB, pls_map]; omega, by rw [dn, wt, wB, dns_map]; omega⟩
theorem dec_in {gs : List Fm} (hl : gs.length ≤ 3) (h : ∀ g ∈ gs, GF 2 g) : DecIn 39 gs := by
  refine ⟨⟨fun f hf => ?_, fun f hf => ?_, fun f hf => ?_, ⟨fun n hn => by cases hn⟩, ?_, by rw [List.length_map]; omega, by decide⟩, fun g hg => ⟨(gf_ok (h g hg)).d, (gf_ok (h g hg)).i⟩, by omega⟩
  · obtain ⟨g, hg, rfl⟩ := List.mem_map.mp hf; exact pl_pl g
  · obtain ⟨g, hg, rfl⟩ := List.mem_map.mp hf; exact (gf_ok (h g hg)).l1
  · obtain ⟨g, hg, rfl⟩ := List.mem_map.mp hf; exact (gf_ok (h g hg)).n1
  · refine Nat.le_trans (wleft_le [] 0 _) (Nat.le_trans (wts_le (n := 13) fun f hf => ?_) (by rw [List.length_map]; omega))
    obtain ⟨g, hg, rfl⟩ := List.mem_map.mp hf
    exact (gf_ok (h g hg)).w1
end LP
set_option maxRecDepth 100000
set_option maxHeartbeats 4000000
/-! Pn29: _law_cell, _law_draw. -/
namespace LP
open PySem PySem.Spec PyProof.Rows L2
def dInts (xs : List Int) : List D := xs.map .int
theorem flats_ints : ∀ xs : List Int, D.flats (dInts xs) = true
  | [] => rfl
  | x :: xs => by show (true && D.flats (dInts xs)) = true; rw [flats_ints xs]; rfl
theorem dInts_get {xs : List Int} {i : Nat} {x : Int} (h : xs[i]? = some x) : (dInts xs)[i]? = some (.int x) := by unfold dInts; rw [List.getElem?_map, h]; rfl
theorem dInts_len (xs : List Int) : (dInts xs).length = xs.length := List.length_map ..
theorem mulS {a b : Int} (ha : a.natAbs < 2 ^ 64) (hb : b.natAbs < 2 ^ 64) : CMulW a b := Bt.wide (j := 64) (k := 64) ha hb (by decide)
theorem divS {a b : Int} (h : 0 < b) (hb : b.natAbs < 2 ^ 64) : CDivW a b := Bt.wdiv (k := 64) hb h (by decide)
def wCell : List D → (D → Prop) → Prop := fun ds R => ∃ (xs : List Int) (k : Nat), ds = [.ro (dInts xs), .int (k : Int)] ∧ ∀ x : Int, R (.int x)
/-- what is drawn -/
structure Drw (ns ss : List Int) : Prop where
  len : ns.length = ss.length
  at_ : ∀ (i : Nat) (n s : Int), ns[i]? = some n → ss[i]? = some s → 0 ≤ n ∧ n < s
theorem Drw.nil : Drw [] [] := ⟨rfl, fun i n s h => by simp at h⟩
theorem Drw.snoc {ns ss : List Int} {n s : Int} (h : Drw ns ss) (h0 : 0 ≤ n) (h1 : n < s) : Drw (ns ++ [n]) (ss ++ [s]) := by
  refine ⟨by simp [h.len], fun i m t e1 e2 => ?_⟩
  by_cases hi : i < ns.length
  · rw [List.getElem?_append_left hi] at e1
    rw [List.getElem?_append_left (by rw [← h.len]; exact hi)] at e2
    exact h.at_ i m t e1 e2
  · rw [List.getElem?_append_right (by omega)] at e1
    rw [List.getElem?_append_right (by rw [← h.len]; omega)] at e2
    have hl := h.len
    by_cases hz : i - ns.length = 0
    · rw [hz] at e1
      rw [← hl, hz] at e2
      simp at e1 e2
      omega
    · obtain ⟨j, hj⟩ : ∃ j, i - ns.length = j + 1 := ⟨i - ns.length - 1, by omega⟩
      rw [hj] at e1
      simp at e1
def wDraw : List D → (List D → Prop) → Prop := fun ds R => ∃ (xs : List Int) (k : Nat) (ss : List Int), ds = [.ro (dInts xs), .int (k : Int), .lst (dInts ss)] ∧ (∀ s ∈ ss, 0 < s ∧ s < 1000) ∧ ss.length ≤ 1000 ∧ k ≤ 1000 ∧ ∀ ns : List Int, Drw ns ss → R (dInts ns)
section
variable {P : Program} {w : World} {K : PySem.W.Frag} {mg : Str → Option Value} {base : Heap} {f : Addr} {fd : FuncData}
theorem ok_law_cell (F : Fun K "_law_cell" "_law_cell" s__law_cell f fd) (hL : mg "len" = none) : FnOk P w K mg base CX0 1 f fd P__law_cell (spD K wCell) := by
  refine okD F sc__law_cell (fun ds R h => by obtain ⟨xs, k, rfl, _⟩ := h; rfl) fun cdv A outer s H E hr ds R h => ?_
  obtain ⟨xs, k, rfl, r⟩ := h
  refine bs_If <| wt_cmp <| w_var 1 rfl <| w_len (w_var 0 rfl ⟨_, rfl, opw_lt ⟨_, rfl, ?_⟩⟩) hL
  by_cases hk : k < xs.length
  · rw [decide_eq_true (by rw [dInts_len]; omega)]
    have e := List.getElem?_eq_getElem hk
    exact bs_cons <| s_ret <| w_ix <| w_var 0 rfl <| w_var 1 rfl ⟨k, _, .int xs[k], rfl, rfl, dInts_get e, _, rfl, rfl, r _⟩
  · rw [decide_eq_false (by rw [dInts_len]; omega)]
    exact bs_nil <| bs_cons <| s_ret <| w_int ⟨_, rfl, rfl, r _⟩
theorem emod_bd (a : Int) {b : Int} (h : 0 < b) : 0 ≤ a % b ∧ a % b < b := ⟨Int.emod_nonneg _ (by omega), Int.emod_lt_of_pos _ h⟩
theorem ok_law_draw (F : Fun K "_law_draw" "_law_draw" s__law_draw f fd) (Gc : Def P w K mg base 1 "_law_cell" P__law_cell (spD K wCell)) (hL : mg "len" = none) (hR : mg "range" = none) : FnOk P w K mg base CX0 2 f fd P__law_draw (spL K wDraw) := by
  refine okL F sc__law_draw (fun ds R h => by obtain ⟨xs, k, ss, rfl, _⟩ := h; rfl) fun cdv A outer s H E hr ds R h => ?_
  obtain ⟨xs, k, ss, rfl, hs, hl, hk, r⟩ := h
  refine bs_cons (s_set 3 (w_call Gc hr <| wa_v <| w_var 0 rfl <| wa_v <| w_var 1 rfl <| wa_nil ⟨xs, k, rfl, fun x => ?_⟩) sc__law_draw.nd)
  refine bs_mid (fun ρ δ => ∃ x : Int, ρ = noR ∧ δ = [some (.ro (dInts xs)), some (.int (k : Int)), some (.lst (dInts ss)), some (.int x), none, none, none, none]) (s_if <| wt_cmp <| w_var 3 rfl <| w_int <| opw_lt ⟨_, rfl, ?_⟩) ?_
  · by_cases hx : x < 0
    · rw [decide_eq_true hx]
      exact bs_cons (s_set 3 (w_neg <| w_var 3 rfl ⟨x, rfl, bs_nil ⟨_, rfl, rfl⟩⟩) sc__law_draw.nd)
    · rw [decide_eq_false hx]
      exact bs_nil ⟨_, rfl, rfl⟩
  rintro ρ _ ⟨x, rfl, rfl⟩
  refine bs_cons (s_setL 4 (wl_lst <| wi_nil ⟨by decide, fun q hq => ?_⟩) sc__law_draw.nd)
  have pw : CPow 10 18 := ⟨by decide, by decide, by decide⟩
  refine bs_If <| wt_cmp <| w_var 3 rfl <| w_bin <| w_int <| w_int <| opw_pow pw <| opw_ge ⟨_, rfl, ?_⟩
  cases hb : decide ((10 : Int) ^ (18 : Int).toNat ≤ x) with
  | true =>
    refine bs_cons (s_set 3 (w_bin <| w_var 3 rfl <| w_bin <| w_int <| w_int <| opw_pow pw <| opw_sub ?_) sc__law_draw.nd)
    refine bs_mid (fun ρ δ => ∃ ns, Drw ns ss ∧ ρ q = some (.L (dInts ns)) ∧ δ[4]? = some (some (.obj q))) (s_for (it_old <| w_var 2 rfl ⟨_, .inl rfl, ?_⟩) rfl PassesOwn.never) ?_
    · refine forD_ind (fun rest ρ δ => ∃ (pre suf ns : List Int) (y : Int) (o : Option D), ss = pre ++ suf ∧ rest = dInts suf ∧ Drw ns pre ∧ ρ q = some (.L (dInts ns)) ∧ δ = [some (.ro (dInts xs)), some (.int (k : Int)), some (.lst (dInts ss)), some (.int y), some (.obj q), o, none, none]) ?_ ?_ _ _ _ ⟨[], ss, [], _, _, rfl, rfl, .nil, put_same, rfl⟩
      · rintro ρ δ ⟨pre, suf, ns, y, o, e1, e2, d, hq, rfl⟩
        have : suf = [] := by cases suf with | nil => rfl | cons _ _ => cases e2
        subst this
        rw [List.append_nil] at e1
        subst e1
        exact ⟨ns, d, hq, rfl⟩
      · rintro z zs ρ δ ⟨pre, suf, ns, y, o, e1, e2, d, hq, rfl⟩
        cases suf with
        | nil => cases e2
        | cons t suf =>
          cases e2
          obtain ⟨t0, t1⟩ := hs t (by rw [e1]; simp)
          have b := emod_bd y t0
          have hlen : ns.length < ss.length := by rw [d.len, e1]; simp
          refine tg_name 5 ?_ sc__law_draw.nd
          refine bs_cons (s_append (w_var 4 rfl rfl) hq (w_bin <| w_var 3 rfl <| w_var 5 rfl <| opw_mod t0 ⟨by rw [dInts_len]; exact Nat.lt_of_lt_of_le hlen (le_line (by omega)), ?_⟩))
          exact bs_cons (s_set 3 (w_bin <| w_var 3 rfl <| w_var 5 rfl <| opw_fdiv (divS t0 (by omega)) <| bs_nil ⟨trivial, pre ++ [t], suf, ns ++ [y % t], _, _, by rw [e1]; simp, rfl, d.snoc b.1 b.2, by rw [put_same]; unfold dInts; rw [List.map_append]; rfl, rfl⟩) sc__law_draw.nd)
    · rintro ρ δ ⟨ns, d, hq, hδ⟩
      exact bs_cons <| s_retO <| w_var 4 hδ ⟨q, _, rfl, hq, _, rfl, flats_ints _, r ns d⟩
  | false =>
    refine bs_nil <| bs_cons (s_set 6 (w_bin <| w_bin <| w_bin <| w_var 3 rfl <| w_int <| opw_add <| w_bin <| w_int <| w_var 1 rfl <| opw_mul (mulS (by decide) (by omega)) <| opw_add <| w_int <| opw_mod (by decide) ?_) sc__law_draw.nd)
    have b0 := emod_bd (x + 1 + 31 * (k : Int)) (show (0 : Int) < 2147483647 by decide)
    generalize (x + 1 + 31 * (k : Int)) % 2147483647 = m0 at *
    refine bs_mid (fun ρ δ => ∃ ns, Drw ns ss ∧ ρ q = some (.L (dInts ns)) ∧ δ[4]? = some (some (.obj q))) (s_for (it_range1 (w_len (w_var 2 rfl ⟨_, rfl, ss.length, by rw [dInts_len], by omega, ?_⟩) hL) hR) rfl PassesOwn.never) ?_
    · rw [nums_range]
      refine forD_ind (fun rest ρ δ => ∃ (pre suf : List Nat) (ns : List Int) (y : Int) (o : Option D), List.range ss.length = pre ++ suf ∧ rest = suf.map (fun k : Nat => D.int (k : Int)) ∧ Drw ns (ss.take pre.length) ∧ 0 ≤ y ∧ y < 2147483647 ∧ ρ q = some (.L (dInts ns)) ∧ δ = [some (.ro (dInts xs)), some (.int (k : Int)), some (.lst (dInts ss)), some (.int x), some (.obj q), none, some (.int y), o]) ?_ ?_ _ _ _ ⟨[], List.range ss.length, [], m0, _, rfl, rfl, .nil, b0.1, b0.2, put_same, rfl⟩
      · rintro ρ δ ⟨pre, suf, ns, y, o, e1, e2, d, _, _, hq, rfl⟩
        have : suf = [] := by cases suf with | nil => rfl | cons _ _ => cases e2
        subst this
        rw [List.append_nil] at e1
        have : pre.length = ss.length := by rw [← e1, List.length_range]
        rw [this, List.take_length] at d
        exact ⟨ns, d, hq, rfl⟩
      · rintro z zs ρ δ ⟨pre, suf, ns, y, o, e1, e2, d, y0, y1, hq, rfl⟩
        cases suf with
        | nil => cases e2
        | cons t suf =>
          cases e2
          have ht : t = pre.length := by
            have h1 : (List.range ss.length)[pre.length]? = some t := by rw [e1]; simp
            have := (List.getElem?_eq_some_iff.mp h1).2
            rw [List.getElem_range] at this
            exact this.symm
          have hlt : pre.length < ss.length := by
            have := congrArg List.length e1
            rw [List.length_range, List.length_append, List.length_cons] at this
            omega
          subst ht
          have es := List.getElem?_eq_getElem hlt
          obtain ⟨t0, t1⟩ := hs _ (List.getElem_mem hlt)
          refine tg_name 7 ?_ sc__law_draw.nd
          refine bs_cons (s_set 6 (w_bin <| w_bin <| w_bin <| w_bin <| w_var 6 rfl <| w_int <| opw_mul (mulS (by omega) (by decide)) <| w_int <| opw_add <| w_var 7 rfl <| opw_add <| w_int <| opw_mod (by decide) ?_) sc__law_draw.nd)
          have b1 := emod_bd (y * 48271 + 11 + (pre.length : Int)) (show (0 : Int) < 2147483647 by decide)
          generalize (y * 48271 + 11 + (pre.length : Int)) % 2147483647 = m1 at *
          refine bs_cons (s_set 6 (w_bin <| w_bin <| w_bin <| w_var 6 rfl <| w_int <| opw_mul (mulS (by omega) (by decide)) <| w_int <| opw_add <| w_int <| opw_mod (by decide) ?_) sc__law_draw.nd)
          have b2 := emod_bd (m1 * 69621 + 3) (show (0 : Int) < 2147483647 by decide)
          generalize (m1 * 69621 + 3) % 2147483647 = m2 at *
          have hlen : ns.length < ss.length := by rw [d.len, List.length_take]; omega
          refine bs_cons (s_append (w_var 4 rfl rfl) hq (w_bin <| w_bin <| w_var 6 rfl <| w_int <| opw_fdiv (divS (by decide) (by decide)) <| w_ix <| w_var 2 rfl <| w_var 7 rfl ⟨pre.length, _, .int ss[pre.length], rfl, rfl, dInts_get es, opw_mod t0 ⟨by rw [dInts_len]; exact Nat.lt_of_lt_of_le hlen (le_line (by omega)), ?_⟩⟩))
          have b3 := emod_bd (m2 / 7) t0
          exact bs_nil ⟨trivial, pre ++ [pre.length], suf, ns ++ [m2 / 7 % ss[pre.length]], m2, _, by rw [e1]; simp, rfl, by rw [List.length_append]; show Drw _ (List.take (pre.length + 1) ss); rw [List.take_add_one, es]; exact d.snoc b3.1 b3.2, b2.1, b2.2, by rw [put_same]; unfold dInts; rw [List.map_append]; rfl, rfl⟩
    · rintro ρ δ ⟨ns, d, hq, hδ⟩
      exact bs_cons <| s_retO <| w_var 4 hδ ⟨q, _, rfl, hq, _, rfl, flats_ints _, r ns d⟩
end
end LP
set_option maxRecDepth 100000
set_option maxHeartbeats 4000000
/-! Pn30: _law_row. -/
namespace LP
open PySem PySem.Spec PyProof.Rows L2
section
variable {X : Cx} {H0 : Hp} {ρ : Rho} {δ : Del} {e : Expr} {pos p1 p2 p3 p4 p5 p6 p7 : Pos}
/-- digits[int(e) % len(digits)] -/
theorem w_dig {ns : List Int} {R : D → Prop} (hi : X.mg "int" = none) (hL : X.mg "len" = none) (hδ : δ[0]? = some (some (.lst (dInts ns)))) (hl : 0 < ns.length) (h : W X H0 ρ δ e fun d => ∃ m : Nat, d = .int (m : Int)) (r : ∀ x : Int, R (.int x))
    (hN : X.N[0]? = some ("_law_digits" : Str) := by rfl) (hv : Vis X.env.scope ("_law_digits" : Str) := by first | exact Or.inl rfl | exact Or.inr (Or.inl rfl) | exact Or.inr (Or.inr rfl)) (hgi : Gl X "int" := by rfl) (hgl : Gl X "len" := by rfl)
    (he : starEach [e] X.env = (false, eval e X.env) :: starEach [] X.env := by rfl) (he2 : starEach [.Name "_law_digits" p5] X.env = (false, eval (.Name "_law_digits" p5) X.env) :: starEach [] X.env := by rfl) (hs : PlainIx (.BinOp (.Call (.Name "int" p2) [e] [] p3) .Mod (.Call (.Name "len" p4) [.Name "_law_digits" p5] [] p6) p7) := by intro _ _; rfl) :
    W X H0 ρ δ (.Subscript (.Name "_law_digits" p1) (.BinOp (.Call (.Name "int" p2) [e] [] p3) .Mod (.Call (.Name "len" p4) [.Name "_law_digits" p5] [] p6) p7) pos) R := by
  refine w_ix (w_var 0 hδ (w_bin (w_int1 (w_mono h fun d ⟨m, ed⟩ => ⟨(m : Int), ed, w_len (w_var 0 hδ ⟨dInts ns, rfl, opw_mod (by rw [dInts_len]; omega) ?_⟩ hN hv) hL hgl he2⟩) hi hgi he)) hN hv) hs
  have b := emod_bd (m : Int) (show (0 : Int) < ((dInts ns).length : Int) by rw [dInts_len]; omega)
  generalize (m : Int) % ((dInts ns).length : Int) = z at b
  obtain ⟨k, rfl⟩ := Int.eq_ofNat_of_zero_le b.1
  have hk : k < ns.length := by rw [dInts_len] at b; omega
  exact ⟨k, dInts ns, .int ns[k], rfl, rfl, dInts_get (List.getElem?_eq_getElem hk), r _⟩
end
def wLRow : List D → (D → Prop) → Prop := fun ds R => ∃ (ns : List Int) (k : Nat), ds = [.lst (dInts ns), .int (k : Int)] ∧ 0 < ns.length ∧ ∀ r, GR 5 4 r → R (dRow r)
def half (k : Int) : Rat := Rat.mk' (2 * k + 1) 2 (by decide) (by
  show Nat.gcd (2 * k + 1).natAbs 2 = 1
  have h : (2 * k + 1).natAbs % 2 = 1 := by omega
  rw [Nat.gcd_comm, Nat.gcd_rec, h]; rfl)
theorem half_sz {k : Int} (h1 : -4 ≤ k) (h2 : k ≤ 4) : Sz 4 2 (half k) := ⟨by show (2 * k + 1).natAbs < 2 ^ 4; omega, by show Bt 2 2; unfold Bt; decide⟩
theorem int_sz {k : Int} (h1 : -4 ≤ k) (h2 : k ≤ 4) : Sz 4 2 (k : Rat) := ⟨by rw [Rat.num_intCast]; show k.natAbs < 2 ^ 4; omega, by rw [Rat.den_intCast]; show Bt 2 1; unfold Bt; decide⟩
theorem int_sz2 {k : Int} (h1 : -3 ≤ k) (h2 : k ≤ 3) : Sz 2 1 (k : Rat) := ⟨by rw [Rat.num_intCast]; show k.natAbs < 2 ^ 2; omega, by rw [Rat.den_intCast]; show Bt 1 1; unfold Bt; decide⟩
def sgns : List Sn := [.le, .lt, .le, .eq, .ge, .lt]
section
variable {P : Program} {w : World} {K : PySem.W.Frag} {mg : Str → Option Value} {base : Heap} {f : Addr} {fd : FuncData}
theorem ok_law_row (F : Fun K "_law_row" "_law_row" s__law_row f fd) (Gr : Def P w K mg base 6 "row" P_row (spD K wRow)) (hL : mg "len" = none) (hR : mg "range" = none) (hI : mg "int" = none) : FnOk P w K mg base CX0 7 f fd P__law_row (spD K wLRow) := by
  refine okD F sc__law_row (fun ds R h => by obtain ⟨ns, k, rfl, _⟩ := h; rfl) fun cdv A outer s H E hr ds R h => ?_
  obtain ⟨ns, at_, rfl, hl, r⟩ := h
  refine bs_cons (s_setL 2 (wl_lst <| wi_cons <| w_str <| wi_cons <| w_str <| wi_cons <| w_str <| wi_nil ⟨one_line, fun qn hqn => ?_⟩) sc__law_row.nd)
  refine bs_cons (s_setL 3 (wl_lst <| wi_nil ⟨by decide, fun qp hqp => ?_⟩) sc__law_row.nd)
  have hne : qn ≠ qp := fun z => by rw [← z, put_same] at hqp; cases hqp
  have plus : ∀ {X : Cx} {H0 : Hp} {ρ : Rho} {i j : Nat} {R : D → Prop}, R (.int ((i + j : Nat) : Int)) → OpW X H0 ρ (binaryOp .Add) (.int (i : Int)) (.int (j : Int)) R := fun {X H0 ρ i j R} h => opw_add (by rw [← Int.natCast_add]; exact h)
  refine bs_mid (fun ρ δ => ∃ (ps : Pts) (o4 o5 : Option D), ps.map (·.1) = L3 ∧ SzL 2 1 ps ∧ ρ qp = some (.L (ps.map dPt)) ∧ δ = [some (.lst (dInts ns)), some (.int (at_ : Int)), some (.obj qn), some (.obj qp), o4, o5, none, none]) (s_for (it_range1 (w_int ⟨3, rfl, by decide, ?_⟩) hR) rfl PassesOwn.never) ?_
  · rw [nums_range]
    refine forD_ind (fun rest ρ δ => ∃ (pre suf : List Nat) (ps : Pts) (o4 o5 : Option D), List.range 3 = pre ++ suf ∧ rest = suf.map (fun k : Nat => D.int (k : Int)) ∧ ps.map (·.1) = L3.take pre.length ∧ SzL 2 1 ps ∧ ρ qn = some (.L (L3.map .str)) ∧ ρ qp = some (.L (ps.map dPt)) ∧ δ = [some (.lst (dInts ns)), some (.int (at_ : Int)), some (.obj qn), some (.obj qp), o4, o5, none, none]) ?_ ?_ _ _ _
      ⟨[], List.range 3, [], none, none, rfl, rfl, rfl, (fun p hp => by cases hp), by rw [put_ne hne, put_same]; rfl, put_same, rfl⟩
    · rintro ρ δ ⟨pre, suf, ps, o4, o5, e1, e2, h1, h2, _, h3, rfl⟩
      have : suf = [] := by cases suf with | nil => rfl | cons _ _ => cases e2
      subst this
      rw [List.append_nil] at e1
      have : pre.length = 3 := by rw [← e1]; rfl
      rw [this] at h1
      exact ⟨ps, o4, o5, h1, h2, h3, rfl⟩
    · rintro z zs ρ δ ⟨pre, suf, ps, o4, o5, e1, e2, h1, h2, hn, h3, rfl⟩
      cases suf with
      | nil => cases e2
      | cons t suf =>
        cases e2
        have ht : t = pre.length := by
          have h1 : (List.range 3)[pre.length]? = some t := by rw [e1]; simp
          have := (List.getElem?_eq_some_iff.mp h1).2
          rw [List.getElem_range] at this
          exact this.symm
        have hlt : pre.length < 3 := by
          have := congrArg List.length e1
          rw [List.length_range, List.length_append, List.length_cons] at this
          omega
        subst ht
        have eu : L3[pre.length]? = some L3[pre.length] := List.getElem?_eq_getElem hlt
        have pl3 : ps.length = pre.length := by
          have := congrArg List.length h1
          rw [List.length_map, List.length_take] at this
          have : L3.length = 3 := rfl
          omega
        refine tg_name 4 ?_ sc__law_row.nd
        refine bs_cons (s_set 5 (w_bin <| w_bin <| w_dig hI hL rfl hl (w_bin <| w_var 1 rfl <| w_var 4 rfl <| plus ⟨_, rfl⟩) fun x => w_int <| opw_mod (by decide) <| w_int <| opw_sub ?_) sc__law_row.nd)
        have b := emod_bd x (show (0 : Int) < 7 by decide)
        generalize x % 7 = y at b
        refine bs_mid (fun ρ' δ => ∃ v : Int, -3 ≤ v ∧ v ≤ 3 ∧ ρ' = ρ ∧ δ = [some (.lst (dInts ns)), some (.int (at_ : Int)), some (.obj qn), some (.obj qp), some (.int (pre.length : Int)), some (.int v), none, none])
          (s_if <| wt_cmp <| w_bin <| w_dig hI hL rfl hl (w_bin <| w_var 1 rfl <| w_int <| plus (j := 5) ⟨_, rfl⟩) fun x2 => w_int <| opw_mod (by decide) <| w_var 4 rfl <| opw_eqI ⟨_, rfl, ?_⟩) ?_
        · cases decide (x2 % 5 = (pre.length : Int)) with
          | true => exact bs_cons (s_set 5 (w_int <| bs_nil ⟨0, by decide, by decide, rfl, rfl⟩) sc__law_row.nd)
          | false => exact bs_nil ⟨y - 3, by omega, by omega, rfl, rfl⟩
        rintro ρ' _ ⟨v, v1, v2, rfl, rfl⟩
        refine bs_cons (s_append (w_var 3 rfl rfl) h3 (w_tup <| wi_cons <| w_ix <| w_var 2 rfl <| w_var 4 rfl ⟨pre.length, L3.map .str, .str L3[pre.length], rfl, hn, by rw [List.getElem?_map, eu]; rfl, wi_cons <| w_tup <| wi_cons <| w_var 5 rfl <| wi_cons <| w_int <| wi_nil ⟨one_line, wi_nil ⟨one_line, by rw [List.length_map]; exact lt_line (by omega), ?_⟩⟩⟩))
        refine bs_nil ⟨trivial, pre ++ [pre.length], suf, ps ++ [(L3[pre.length], (v : Rat))], _, _, by rw [e1]; simp, rfl, ?_, ?_, by rw [put_ne hne]; exact hn, ?_, rfl⟩
        · rw [List.map_append, h1, List.length_append]
          show _ = List.take (pre.length + 1) L3
          rw [List.take_add_one, eu]; rfl
        · intro p hp
          rcases List.mem_append.mp hp with hp | hp
          · exact h2 p hp
          · rw [List.mem_singleton.mp hp]; exact int_sz2 v1 v2
        · rw [put_same, List.map_append]
          show some (O.L _) = some (O.L (_ ++ [D.tup [.str L3[pre.length], dQ (v : Rat)]]))
          rw [dQ_int]
  · rintro ρ _ ⟨ps, o4, o5, h1, h2, hq, rfl⟩
    refine bs_cons (s_set 6 (w_bin <| w_bin <| w_dig hI hL rfl hl (w_bin <| w_var 1 rfl <| w_int <| plus (j := 3) ⟨_, rfl⟩) fun x => w_int <| opw_mod (by decide) <| w_int <| opw_sub ?_) sc__law_row.nd)
    have b := emod_bd x (show (0 : Int) < 9 by decide)
    generalize x % 9 = y at b
    refine bs_cons (s_set 7 (w_ixL <| wl_lst <| wi_cons <| w_str <| wi_cons <| w_str <| wi_cons <| w_str <| wi_cons <| w_str <| wi_cons <| w_str <| wi_cons <| w_str <| wi_nil ⟨one_line, w_bin <| w_dig hI hL rfl hl (w_bin <| w_var 1 rfl <| w_int <| plus (j := 4) ⟨_, rfl⟩) fun x2 => w_int <| opw_mod (by decide) ?_⟩) sc__law_row.nd)
    have b2 := emod_bd x2 (show (0 : Int) < 6 by decide)
    generalize x2 % 6 = y2 at b2
    obtain ⟨i, rfl⟩ := Int.eq_ofNat_of_zero_le b2.1
    have hi : i < sgns.length := by show i < 6; omega
    refine ⟨i, .str sgns[i].str, rfl, ?_, ?_⟩
    · show (sgns.map fun s => D.str s.str)[i]? = _
      rw [List.getElem?_map, List.getElem?_eq_getElem hi]; rfl
    generalize sgns[i] = sn
    have hc : ∀ u, cnt ps u ≤ 1 := fun u => cnt_nd (by rw [h1]; decide)
    have l3 : ps.length = 3 := by have := congrArg List.length h1; rw [List.length_map] at this; exact this
    have hn : ∀ p ∈ ps, p.1 ∈ L3 := fun p hp => by rw [← h1]; exact List.mem_map_of_mem hp
    have gr : ∀ {b : Rat}, Sz 4 2 b → GR 5 4 (mkRow sn (gath ps) b) := fun hb => mk_gr h2 hc (by omega) hn hb
    refine bs_If <| wt_cmp <| w_bin <| w_dig hI hL rfl hl (w_bin <| w_var 1 rfl <| w_int <| plus (j := 6) ⟨_, rfl⟩) fun x3 => w_int <| opw_mod (by decide) <| w_int <| opw_eqI ⟨_, rfl, ?_⟩
    cases decide (x3 % 4 = 0) with
    | true =>
      have sz := half_sz (k := y - 4) (by omega) (by omega)
      exact bs_cons <| s_ret <| w_call Gr hr <| wa_o <| w_var 3 rfl ⟨qp, _, rfl, hq, wa_v <| w_var 7 rfl <| wa_v <| w_tup <| wi_cons <| w_bin <| w_bin <| w_int <| w_var 6 rfl <| opw_mul (mulS (by decide) (by omega)) <| w_int <| opw_add <| wi_cons <| w_int <| wi_nil ⟨one_line, wa_nil ⟨ps, sn, half (y - 4), rfl, h2, hc, by omega, sz.mono (by decide) (by decide), _, rfl, flat_row _, r _ (gr sz)⟩⟩⟩
    | false =>
      have sz := int_sz (k := y - 4) (by omega) (by omega)
      exact bs_nil <| bs_cons <| s_ret <| w_call Gr hr <| wa_o <| w_var 3 rfl ⟨qp, _, rfl, hq, wa_v <| w_var 7 rfl <| wa_v <| w_tup <| wi_cons <| w_var 6 rfl <| wi_cons <| w_int <| wi_nil ⟨one_line, wa_nil ⟨ps, sn, ((y - 4 : Int) : Rat), by rw [dQ_int], h2, hc, by omega, sz.mono (by decide) (by decide), _, rfl, flat_row _, r _ (gr sz)⟩⟩⟩
end
end LP
set_option maxRecDepth 100000
set_option maxHeartbeats 4000000
/-! Pn31: _law_formula, _law_some, _law_formulas. -/
namespace LP
open PySem PySem.Spec PyProof.Rows L2
theorem flat_fms (l : List Fm) : D.flats (l.map dF) = true := by
  have := dFs_flat l
  rwa [dFs_map] at this
def wLF (n : Nat) : List D → (D → Prop) → Prop := fun ds R => ∃ (ns : List Int) (k : Nat), ds = [.lst (dInts ns), .int (k : Int), .int (n : Int)] ∧ 0 < ns.length ∧ ∀ g, GF n g → R (dF g)
def wSome : List D → (D → Prop) → Prop := fun ds R => ∃ (xs : List Int) (k : Nat), ds = [.ro (dInts xs), .int (k : Int), .int 2] ∧ k ≤ 1000 ∧ ∀ g, GF 2 g → R (dF g)
def wFms : List D → (List D → Prop) → Prop := fun ds R => ∃ (xs : List Int) (k many : Nat), ds = [.ro (dInts xs), .int (k : Int), .int (many : Int), .int 2] ∧ k ≤ 900 ∧ many ≤ 3 ∧ ∀ gs : List Fm, gs.length ≤ 3 → (∀ g ∈ gs, GF 2 g) → R (gs.map dF)
theorem opw_plus {X : Cx} {H0 : Hp} {ρ : Rho} {i j : Nat} {R : D → Prop} (h : R (.int ((i + j : Nat) : Int))) : OpW X H0 ρ (binaryOp .Add) (.int (i : Int)) (.int (j : Int)) R := opw_add (by rw [← Int.natCast_add]; exact h)
section
variable {P : Program} {w : World} {K : PySem.W.Frag} {mg : Str → Option Value} {base : Heap} {f : Addr} {fd : FuncData}
theorem step_lf (m : Nat) (hm2 : m ≤ 10) (F : Fun K "_law_formula" "_law_formula" s__law_formula f fd) (Gf : m ≠ 0 → Def P w K mg base (7 + m) "_law_formula" P__law_formula (spD K (wLF (m - 1)))) (Gr : Def P w K mg base 7 "_law_row" P__law_row (spD K wLRow))
    (hL : mg "len" = none) (hI : mg "int" = none) (hT : mg "tuple" = none) : FnOk P w K mg base CX0 (8 + m) f fd P__law_formula (spD K (wLF m)) := by
  rw [show 8 + m = 7 + m + 1 by omega]
  refine okD F sc__law_formula (fun ds R h => by obtain ⟨ns, k, rfl, _⟩ := h; rfl) fun cdv A outer s H E hr ds R h => ?_
  obtain ⟨ns, k, rfl, hl, r⟩ := h
  have hr7 := hr.mono (show 7 ≤ 7 + m by omega)
  refine bs_cons (s_set 3 (w_bin <| w_dig hI hL rfl hl (w_var 1 rfl ⟨_, rfl⟩) fun x => w_int <| opw_mod (by decide) ?_) sc__law_formula.nd)
  have b := emod_bd x (show (0 : Int) < 9 by decide)
  generalize x % 9 = y at b
  refine bs_If <| wt_mono (R := fun _ => True) (wt_ww <| ww_and <| wt_cmp <| w_var 3 rfl <| w_int <| opw_eqI ⟨_, rfl, ?_⟩) fun c _ => ?_
  · cases decide (y = 8) with
    | false => trivial
    | true => exact ww_and1 <| wt_cmp <| w_bin <| w_dig hI hL rfl hl (w_bin <| w_var 1 rfl <| w_int <| opw_plus (j := 1) ⟨_, rfl⟩) fun x => w_int <| opw_mod (by decide) <| w_int <| opw_eqI ⟨_, rfl, trivial⟩
  cases c with
  | true =>
    refine bs_cons <| s_ret <| w_ixL <| wl_lst <| wi_cons <| w_tup <| wi_cons <| w_str <| wi_nil ⟨one_line, wi_cons <| w_tup <| wi_cons <| w_str <| wi_nil ⟨one_line, wi_nil ⟨one_line, w_bin <| w_dig hI hL rfl hl (w_bin <| w_var 1 rfl <| w_int <| opw_plus (j := 2) ⟨_, rfl⟩) fun x => w_int <| opw_mod (by decide) ?_⟩⟩⟩
    have b := emod_bd x (show (0 : Int) < 2 by decide)
    generalize x % 2 = z at b
    obtain rfl | rfl : z = 0 ∨ z = 1 := by omega
    · exact ⟨0, dF .tt, rfl, rfl, _, rfl, rfl, r .tt .tt⟩
    · exact ⟨1, dF .ff, rfl, rfl, _, rfl, rfl, r .ff .ff⟩
  | false =>
  refine bs_nil <| bs_If <| wt_mono (R := fun c => c = false → m ≠ 0 ∧ 3 ≤ y ∧ y ≠ 8) (wt_ww <| ww_or <| wt_cmp <| w_var 2 rfl <| w_int <| opw_eqI ⟨_, rfl, ?_⟩) fun c hc => ?_
  · by_cases h0 : ((m : Nat) : Int) = 0
    · rw [decide_eq_true h0]; exact fun z => by cases z
    · rw [decide_eq_false h0]
      refine ww_or <| wt_cmp <| w_var 3 rfl <| w_int <| opw_lt ⟨_, rfl, ?_⟩
      by_cases h3 : y < 3
      · rw [decide_eq_true h3]; exact fun z => by cases z
      · rw [decide_eq_false h3]
        refine ww_or1 <| wt_cmp <| w_var 3 rfl <| w_int <| opw_eqI ⟨_, rfl, fun z => ⟨by omega, by omega, of_decide_eq_false z⟩⟩
  cases c with
  | true =>
    refine bs_cons <| s_ret <| w_tup <| wi_cons <| w_str <| wi_cons <| w_call Gr hr7 <| wa_v <| w_var 0 rfl <| wa_v <| w_bin <| w_var 1 rfl <| w_int <| opw_plus (j := 1) <| wa_nil ⟨ns, k + 1, rfl, hl, fun r0 g0 => wi_nil ⟨one_line, dF (.row r0), rfl, dF_flat _, r _ (.row g0)⟩⟩
  | false =>
  obtain ⟨h0, h3, h8⟩ := hc rfl
  obtain ⟨n, rfl⟩ : ∃ n, m = n + 1 := ⟨m - 1, by omega⟩
  have Gf' := Gf h0
  have less : ∀ {X : Cx} {H0 : Hp} {ρ : Rho} {R : D → Prop}, R (.int (n : Int)) → OpW X H0 ρ (binaryOp .Sub) (.int ((n + 1 : Nat) : Int)) (.int 1) R := fun {X H0 ρ R} h => opw_sub (by rw [show ((n + 1 : Nat) : Int) - 1 = (n : Int) by omega]; exact h)
  refine bs_nil <| bs_cons (s_set 4 (w_call Gf' hr <| wa_v <| w_var 0 rfl <| wa_v <| w_bin <| w_var 1 rfl <| w_int <| opw_plus (j := 2) <| wa_v <| w_bin <| w_var 2 rfl <| w_int <| less <| wa_nil ⟨ns, k + 2, rfl, hl, fun g1 gf1 => ?_⟩) sc__law_formula.nd)
  refine bs_If <| wt_cmp <| w_var 3 rfl <| w_int <| opw_eqI ⟨_, rfl, ?_⟩
  by_cases h4 : y = 3
  · rw [decide_eq_true h4]
    exact bs_cons <| s_ret <| w_tup <| wi_cons <| w_str <| wi_cons <| w_var 4 rfl <| wi_nil ⟨one_line, dF (.neg g1), rfl, dF_flat _, r _ (.neg gf1)⟩
  rw [decide_eq_false h4]
  refine bs_nil <| bs_cons (s_setL 5 (wl_lst <| wi_cons <| w_var 4 rfl <| wi_cons <| w_call Gf' hr <| wa_v <| w_var 0 rfl <| wa_v <| w_bin <| w_var 1 rfl <| w_int <| opw_plus (j := 11) <| wa_v <| w_bin <| w_var 2 rfl <| w_int <| less <| wa_nil ⟨ns, k + 11, rfl, hl, fun g2 gf2 => wi_nil ⟨one_line, fun q hq => ?_⟩⟩) sc__law_formula.nd)
  refine bs_mid (fun ρ δ => ∃ l : List Fm, l.length ≤ 3 ∧ (∀ f ∈ l, GF n f) ∧ ρ q = some (.L (l.map dF)) ∧ δ = [some (.lst (dInts ns)), some (.int (k : Int)), some (.int ((n + 1 : Nat) : Int)), some (.int y), some (dF g1), some (.obj q)])
    (s_if <| wt_cmp <| w_var 3 rfl <| w_int <| opw_eqI ⟨_, rfl, ?_⟩) ?_
  · cases decide (y = 7) with
    | true =>
      refine bs_cons (s_append (w_var 5 rfl rfl) put_same (w_tup <| wi_cons <| w_str <| wi_cons <| w_call Gr hr7 <| wa_v <| w_var 0 rfl <| wa_v <| w_bin <| w_var 1 rfl <| w_int <| opw_plus (j := 5) <| wa_nil ⟨ns, k + 5, rfl, hl, fun r0 g0 => wi_nil ⟨one_line, by show 2 < sizeLine; exact lt_line (by decide), bs_nil ?_⟩⟩))
      refine ⟨[g1, g2, .row r0], Nat.le_refl _, fun f hf => ?_, by rw [put_same]; rfl, rfl⟩
      rcases List.mem_cons.mp hf with rfl | hf
      · exact gf1
      rcases List.mem_cons.mp hf with rfl | hf
      · exact gf2
      · rw [List.mem_singleton.mp hf]; exact .row g0
    | false =>
      refine bs_nil ⟨[g1, g2], by show 2 ≤ 3; decide, fun f hf => ?_, put_same, rfl⟩
      rcases List.mem_cons.mp hf with rfl | hf
      · exact gf1
      · rw [List.mem_singleton.mp hf]; exact gf2
  rintro ρ _ ⟨l, l3, gl, hq, rfl⟩
  refine bs_cons <| s_ret <| w_tup <| wi_cons <| w_ixL <| wl_lst <| wi_cons <| w_str <| wi_cons <| w_str <| wi_cons <| w_str <| wi_cons <| w_str <| wi_nil ⟨one_line, w_bin <| w_var 3 rfl <| w_int <| opw_sub ?_⟩
  have tup : ∀ {ρ : Rho} {δ : Del} {X : Cx} {H0 : Hp}, True := trivial
  obtain ⟨i, hi⟩ := Int.eq_ofNat_of_zero_le (show 0 ≤ y - 4 by omega)
  rw [hi]
  have hi4 : i < 4 := by omega
  have wa : i = 0 ∨ i = 1 ∨ i = 2 ∨ i = 3 := by omega
  rcases wa with rfl | rfl | rfl | rfl
  · exact ⟨0, .str "and", rfl, rfl, wi_cons <| w_tupO (w_var 5 rfl ⟨_, hq, wi_nil ⟨one_line, dF (.conj l), congrArg Res.d (dF_conj l).symm, dF_flat _, r _ (.conj l3 gl)⟩⟩) hT⟩
  · exact ⟨1, .str "and", rfl, rfl, wi_cons <| w_tupO (w_var 5 rfl ⟨_, hq, wi_nil ⟨one_line, dF (.conj l), congrArg Res.d (dF_conj l).symm, dF_flat _, r _ (.conj l3 gl)⟩⟩) hT⟩
  · exact ⟨2, .str "or", rfl, rfl, wi_cons <| w_tupO (w_var 5 rfl ⟨_, hq, wi_nil ⟨one_line, dF (.disj l), congrArg Res.d (dF_disj l).symm, dF_flat _, r _ (.disj l3 gl)⟩⟩) hT⟩
  · exact ⟨3, .str "or", rfl, rfl, wi_cons <| w_tupO (w_var 5 rfl ⟨_, hq, wi_nil ⟨one_line, dF (.disj l), congrArg Res.d (dF_disj l).symm, dF_flat _, r _ (.disj l3 gl)⟩⟩) hT⟩
theorem ok_law_formula (F : Fun K "_law_formula" "_law_formula" s__law_formula f fd) (N : Nm K mg "_law_formula" P__law_formula f fd) (Gr : Def P w K mg base 7 "_law_row" P__law_row (spD K wLRow))
    (hL : mg "len" = none) (hI : mg "int" = none) (hT : mg "tuple" = none) : ∀ m : Nat, m ≤ 10 → FnOk P w K mg base CX0 (8 + m) f fd P__law_formula (spD K (wLF m)) := by
  intro m
  induction m with
  | zero => exact fun h => step_lf 0 h F (fun z => absurd rfl z) Gr hL hI hT
  | succ m ih => exact fun h => step_lf (m + 1) h F (fun _ => by rw [show 7 + (m + 1) = 8 + m by omega]; exact N.defn (ih (by omega))) Gr hL hI hT
theorem ok_law_some (F : Fun K "_law_some" "_law_some" s__law_some f fd) (Gd : Def P w K mg base 2 "_law_draw" P__law_draw (spL K wDraw)) (Gf : Def P w K mg base 10 "_law_formula" P__law_formula (spD K (wLF 2))) : FnOk P w K mg base CX0 11 f fd P__law_some (spD K wSome) := by
  refine okD F sc__law_some (fun ds R h => by obtain ⟨xs, k, rfl, _⟩ := h; rfl) fun cdv A outer s H E hr ds R h => ?_
  obtain ⟨xs, k, rfl, hk, r⟩ := h
  refine bs_cons <| s_ret <| w_call Gf hr <| wa_l <| wl_call Gd (hr.mono (by decide)) <| wa_v <| w_var 0 rfl <| wa_v <| w_var 1 rfl <| wa_l <| wl_rep <| wl_lst <| wi_cons <| w_int <| wi_nil ⟨one_line, w_int ⟨40, rfl, by decide, one_line, wa_nil ⟨xs, k, List.replicate 40 97, rfl, fun s hs => by rw [List.eq_of_mem_replicate hs]; decide, by rw [List.length_replicate]; decide, hk, fun ns d => ?_⟩⟩⟩
  exact wa_v <| w_int <| wa_v <| w_var 2 rfl <| wa_nil ⟨ns, 0, rfl, by rw [d.len]; decide, fun g hg => ⟨_, rfl, dF_flat _, r g hg⟩⟩
theorem ok_law_formulas (F : Fun K "_law_formulas" "_law_formulas" s__law_formulas f fd) (Gs : Def P w K mg base 11 "_law_some" P__law_some (spD K wSome)) (hR : mg "range" = none) : FnOk P w K mg base CX0 12 f fd P__law_formulas (spL K wFms) := by
  refine okL F sc__law_formulas (fun ds R h => by obtain ⟨xs, k, many, rfl, _⟩ := h; rfl) fun cdv A outer s H E hr ds R h => ?_
  obtain ⟨xs, k, many, rfl, hk, hm, r⟩ := h
  refine bs_cons (s_setL 4 (wl_lst <| wi_nil ⟨by decide, fun q hq => ?_⟩) sc__law_formulas.nd)
  refine bs_mid (fun ρ δ => ∃ gs : List Fm, gs.length ≤ 3 ∧ (∀ g ∈ gs, GF 2 g) ∧ ρ q = some (.L (gs.map dF)) ∧ δ[4]? = some (some (.obj q))) (s_for (it_range1 (w_var 2 rfl ⟨many, rfl, by omega, ?_⟩) hR) rfl PassesOwn.never) ?_
  · rw [nums_range]
    refine forD_ind (fun rest ρ δ => ∃ (pre suf : List Nat) (gs : List Fm) (o : Option D), List.range many = pre ++ suf ∧ rest = suf.map (fun k : Nat => D.int (k : Int)) ∧ gs.length = pre.length ∧ (∀ g ∈ gs, GF 2 g) ∧ ρ q = some (.L (gs.map dF)) ∧ δ = [some (.ro (dInts xs)), some (.int (k : Int)), some (.int (many : Int)), some (.int 2), some (.obj q), o]) ?_ ?_ _ _ _ ⟨[], List.range many, [], _, rfl, rfl, rfl, (fun _ h => by cases h), put_same, rfl⟩
    · rintro ρ δ ⟨pre, suf, gs, o, e1, e2, h1, h2, hq, rfl⟩
      have : suf = [] := by cases suf with | nil => rfl | cons _ _ => cases e2
      subst this
      rw [List.append_nil] at e1
      have : pre.length = many := by rw [← e1, List.length_range]
      exact ⟨gs, by omega, h2, hq, rfl⟩
    · rintro z zs ρ δ ⟨pre, suf, gs, o, e1, e2, h1, h2, hq, rfl⟩
      cases suf with
      | nil => cases e2
      | cons t suf =>
        cases e2
        have ht : t < many := List.mem_range.mp (by rw [e1]; simp)
        have hlt : pre.length < many := by
          have := congrArg List.length e1
          rw [List.length_range, List.length_append, List.length_cons] at this
          omega
        refine tg_name 5 ?_ sc__law_formulas.nd
        refine bs_cons (s_append (w_var 4 rfl rfl) hq (w_call Gs hr <| wa_v <| w_var 0 rfl <| wa_v <| w_bin <| w_var 1 rfl <| w_var 5 rfl <| opw_plus <| wa_v <| w_var 3 rfl <| wa_nil ⟨xs, k + t, rfl, by omega, fun g hg => ⟨by rw [List.length_map]; exact lt_line (by omega), ?_⟩⟩))
        refine bs_nil ⟨trivial, pre ++ [t], suf, gs ++ [g], _, by rw [e1]; simp, rfl, by simp [h1], fun g' hg' => ?_, by rw [put_same, List.map_append]; rfl, rfl⟩
        rcases List.mem_append.mp hg' with h | h
        · exact h2 g' h
        · rw [List.mem_singleton.mp h]; exact hg
  · rintro ρ δ ⟨gs, h1, h2, hq, hδ⟩
    refine bs_cons <| s_retO <| w_var 4 hδ ⟨q, _, rfl, hq, _, rfl, flat_fms gs, r gs h1 h2⟩
end
end LP
set_option maxRecDepth 100000
set_option maxHeartbeats 4000000
/-! Pn32: _law_number, _law_point. -/
namespace LP
open PySem PySem.Spec PyProof.Rows L2
def wLNum : List D → (D → Prop) → Prop := fun ds R => ∃ t b : Int, ds = [.int t, .int b] ∧ 0 < b ∧ b < 1000 ∧ R (dQ (Rat.divInt t b))
def wLPt : List D → (D → Prop) → Prop := fun ds R => ∃ (xs : List Int) (k : Nat), ds = [.ro (dInts xs), .int (k : Int)] ∧ k ≤ 1000 ∧ ∀ pt : Pts, (pt.map (·.1)).Nodup → pt.length ≤ 3 → SzL 3 2 pt → R (dPts pt)
section
variable {P : Program} {w : World} {K : PySem.W.Frag} {mg : Str → Option Value} {base : Heap} {f : Addr} {fd : FuncData}
theorem ok_law_number (F : Fun K "_law_number" "_law_number" s__law_number f fd) (hA : mg "abs" = none) : FnOk P w K mg base CX0 1 f fd P__law_number (spD K wLNum) := by
  refine okD F sc__law_number (fun ds R h => by obtain ⟨a, b, rfl, _⟩ := h; rfl) fun cdv A outer s H E hr ds R h => ?_
  obtain ⟨t, b, rfl, b0, b1, r⟩ := h
  have ht : (if t < 0 then -t else t) = (t.natAbs : Int) := by split <;> omega
  have eb : b = (b.natAbs : Int) := by omega
  refine bs_cons (s_set 2 (w_abs (w_var 0 rfl ⟨_, rfl, ?_⟩) hA) sc__law_number.nd)
  rw [ht]
  refine bs_cons (s_set 3 (w_var 1 rfl ?_) sc__law_number.nd)
  have gp : 0 < ((Nat.gcd t.natAbs b.natAbs : Nat) : Int) := by
    have := Nat.gcd_pos_of_pos_right t.natAbs (show 0 < b.natAbs by omega)
    omega
  have gl : Nat.gcd t.natAbs b.natAbs ≤ b.natAbs := Nat.le_of_dvd (by omega) (Nat.gcd_dvd_right _ _)
  refine bs_mid (fun ρ δ => ∃ o, ρ = noR ∧ δ = [some (.int t), some (.int b), some (.int (Nat.gcd t.natAbs b.natAbs : Nat)), o]) (s_while (fun m ρ δ => ∃ x : Nat, ρ = noR ∧ δ = [some (.int t), some (.int b), some (.int x), some (.int m)] ∧ Nat.gcd x m = Nat.gcd t.natAbs b.natAbs) b.natAbs ⟨t.natAbs, rfl, by rw [← eb]; rfl, rfl⟩ ?_ PassesOwn.never) ?_
  · rintro y ρ δ ⟨x, rfl, rfl, e⟩
    refine wt_cmp <| w_var 3 rfl <| w_int <| opw_neI ⟨_, rfl, ?_⟩
    by_cases hy : (y : Int) = 0
    · rw [decide_eq_true hy]
      have hy' : y = 0 := by omega
      subst hy'
      refine ⟨some (.int ((0 : Nat) : Int)), rfl, ?_⟩
      rw [← e]
      simp
    · rw [decide_eq_false hy]
      have hp : 0 < y := by omega
      refine bs_cons (s_par 2 3 (wi_cons <| w_var 3 rfl <| wi_cons <| w_bin <| w_var 2 rfl <| w_var 3 rfl <| opw_mod (by omega) <| wi_nil ⟨_, _, rfl, ?_⟩) rfl sc__law_number.nd)
      refine bs_nil ⟨x % y, Nat.mod_lt _ hp, y, rfl, ?_, ?_⟩
      · rw [Int.natCast_emod]; rfl
      · rw [← e, Nat.gcd_comm x y, Nat.gcd_rec y x, Nat.gcd_comm]
  · rintro ρ _ ⟨o, rfl, rfl⟩
    refine bs_cons <| s_ret <| w_tup <| wi_cons <| w_bin <| w_var 0 rfl <| w_var 2 rfl <| opw_fdiv (divS gp (by omega)) <| wi_cons <| w_bin <| w_var 1 rfl <| w_var 2 rfl <| opw_fdiv (divS gp (by omega)) <| wi_nil ⟨one_line, _, rfl, rfl, ?_⟩
    rw [← divInt_num b0, ← divInt_den b0]
    exact r
theorem ok_law_point (F : Fun K "_law_point" "_law_point" s__law_point f fd) (Gd : Def P w K mg base 2 "_law_draw" P__law_draw (spL K wDraw)) (Gn : Def P w K mg base 1 "_law_number" P__law_number (spD K wLNum)) (hR : mg "range" = none) (hT : mg "tuple" = none) : FnOk P w K mg base CX0 3 f fd P__law_point (spD K wLPt) := by
  refine okD F sc__law_point (fun ds R h => by obtain ⟨xs, k, rfl, _⟩ := h; rfl) fun cdv A outer s H E hr ds R h => ?_
  obtain ⟨xs, k, rfl, hk, r⟩ := h
  refine bs_cons (s_setL 2 (wl_call Gd hr <| wa_v <| w_var 0 rfl <| wa_v <| w_var 1 rfl <| wa_l <| wl_lst <| wi_cons <| w_int <| wi_cons <| w_int <| wi_cons <| w_int <| wi_cons <| w_int <| wi_cons <| w_int <| wi_nil ⟨one_line, wa_nil ⟨xs, k, [13, 13, 13, 3, 9], rfl, by decide, by decide, hk, fun ns d qd hqd => ?_⟩⟩) sc__law_point.nd)
  refine bs_cons (s_setL 3 (wl_lst <| wi_cons <| w_str <| wi_cons <| w_str <| wi_cons <| w_str <| wi_nil ⟨one_line, fun qn hqn => ?_⟩) sc__law_point.nd)
  refine bs_cons (s_setL 4 (wl_lst <| wi_nil ⟨by decide, fun qp hqp => ?_⟩) sc__law_point.nd)
  have n1 : qn ≠ qp := fun z => by rw [← z, put_same] at hqp; cases hqp
  have n2 : qd ≠ qn := fun z => by rw [← z, put_same] at hqn; cases hqn
  have n3 : qd ≠ qp := fun z => by rw [← z, put_ne n2, put_same] at hqp; cases hqp
  have l5 : ns.length = 5 := d.len
  have get : ∀ i (h : i < 5), (dInts ns)[i]? = some (.int (ns[i]'(by omega))) := fun i h => dInts_get (List.getElem?_eq_getElem (by omega))
  have bd : ∀ i (h : i < 5) (s : Int), ([13, 13, 13, 3, 9] : List Int)[i]? = some s → (0 : Int) ≤ ns[i]'(by omega) ∧ ns[i]'(by omega) < s := fun i h s e => d.at_ i _ _ (List.getElem?_eq_getElem (by omega)) e
  refine bs_mid (fun ρ δ => ∃ (pt : Pts), (pt.map (·.1)).Sublist L3 ∧ SzL 3 2 pt ∧ ρ qp = some (.L (pt.map dPt)) ∧ δ[4]? = some (some (.obj qp))) (s_for (it_range1 (w_int ⟨3, rfl, by decide, ?_⟩) hR) rfl PassesOwn.never) ?_
  · rw [nums_range]
    refine forD_ind (fun rest ρ δ => ∃ (pre suf : List Nat) (pt : Pts) (o : Option D), List.range 3 = pre ++ suf ∧ rest = suf.map (fun k : Nat => D.int (k : Int)) ∧ (pt.map (·.1)).Sublist (L3.take pre.length) ∧ SzL 3 2 pt ∧ ρ qd = some (.L (dInts ns)) ∧ ρ qn = some (.L (L3.map .str)) ∧ ρ qp = some (.L (pt.map dPt)) ∧ δ = [some (.ro (dInts xs)), some (.int (k : Int)), some (.obj qd), some (.obj qn), some (.obj qp), o]) ?_ ?_ _ _ _
      ⟨[], List.range 3, [], none, rfl, rfl, List.Sublist.slnil, (fun p hp => by cases hp), by rw [put_ne n3, put_ne n2, put_same], by rw [put_ne n1, put_same]; rfl, put_same, rfl⟩
    · rintro ρ δ ⟨pre, suf, pt, o, e1, e2, h1, h2, _, _, h3, rfl⟩
      exact ⟨pt, h1.trans (List.take_sublist ..), h2, h3, rfl⟩
    · rintro z zs ρ δ ⟨pre, suf, pt, o, e1, e2, h1, h2, hd, hn, h3, rfl⟩
      cases suf with
      | nil => cases e2
      | cons t suf =>
        cases e2
        have ht : t = pre.length := by
          have h1 : (List.range 3)[pre.length]? = some t := by rw [e1]; simp
          have := (List.getElem?_eq_some_iff.mp h1).2
          rw [List.getElem_range] at this
          exact this.symm
        have hlt : pre.length < 3 := by
          have := congrArg List.length e1
          rw [List.length_range, List.length_append, List.length_cons] at this
          omega
        subst ht
        have eu : L3[pre.length]? = some L3[pre.length] := List.getElem?_eq_getElem hlt
        have tk : L3.take (pre.length + 1) = L3.take pre.length ++ [L3[pre.length]] := by rw [List.take_add_one, eu]; rfl
        have pl3 : pt.length ≤ pre.length := by
          have := h1.length_le
          rw [List.length_map, List.length_take] at this
          omega
        refine tg_name 5 ?_ sc__law_point.nd
        refine bs_If <| wt_cmp <| w_ix <| w_var 2 rfl <| w_int ⟨4, dInts ns, _, rfl, hd, get 4 (by decide), w_var 5 rfl <| opw_neI ⟨_, rfl, ?_⟩⟩
        cases decide ((ns[4]'(by omega) : Int) = (pre.length : Int)) with
        | true => 
          exact bs_nil <| bs_nil ⟨trivial, pre ++ [pre.length], suf, pt, _, by rw [e1]; simp, rfl, by rw [List.length_append]; show List.Sublist _ (L3.take (pre.length + 1)); rw [tk]; exact h1.trans (List.sublist_append_left ..), h2, hd, hn, h3, rfl⟩
        | false =>
          have b3 := bd 3 (by decide) 3 rfl
          have bj := bd pre.length (by omega) 13 (by
            obtain h | h | h : pre.length = 0 ∨ pre.length = 1 ∨ pre.length = 2 := by omega
            all_goals rw [h]; rfl)
          refine bs_cons (s_append (w_var 4 rfl rfl) h3 (w_tup <| wi_cons <| w_ix <| w_var 3 rfl <| w_var 5 rfl ⟨pre.length, L3.map .str, .str L3[pre.length], rfl, hn, by rw [List.getElem?_map, eu]; rfl, wi_cons <| w_call Gn (hr.mono (by decide)) <| wa_v <| w_bin <| w_ix <| w_var 2 rfl <| w_var 5 rfl ⟨pre.length, dInts ns, _, rfl, hd, get _ (by omega), w_int <| opw_sub <|
            wa_v <| w_bin <| w_int <| w_ix <| w_var 2 rfl <| w_int ⟨3, dInts ns, _, rfl, hd, get 3 (by decide), opw_add <| wa_nil ⟨_, _, rfl, by omega, by omega, wi_nil ⟨one_line, by rw [List.length_map]; exact lt_line (by omega), bs_nil <| bs_nil ?_⟩⟩⟩⟩⟩))
          refine ⟨trivial, pre ++ [pre.length], suf, pt ++ [(L3[pre.length], Rat.divInt ((ns[pre.length]'(by omega)) - 6) (1 + (ns[3]'(by omega))))], _, by rw [e1]; simp, rfl, ?_, ?_, by rw [put_ne n3]; exact hd, by rw [put_ne n1]; exact hn, ?_, rfl⟩
          · rw [List.length_append]
            show List.Sublist _ (L3.take (pre.length + 1))
            rw [tk, List.map_append]
            exact List.Sublist.append h1 (List.Sublist.refl _)
          · intro p hp
            rcases List.mem_append.mp hp with hp | hp
            · exact h2 p hp
            · rw [List.mem_singleton.mp hp]
              exact sz_divInt (by show Int.natAbs _ < 2 ^ 3; omega) (by show Int.natAbs _ < 2 ^ 2; omega) (by omega)
          · rw [put_same, List.map_append]; rfl
  · rintro ρ δ ⟨pt, h1, h2, hq, hδ⟩
    have hl : pt.length ≤ 3 := by
      have := h1.length_le
      rw [List.length_map] at this
      exact this
    exact bs_cons <| s_ret <| w_tupO (w_var 4 hδ ⟨_, hq, _, rfl, flat_points pt, r pt (h1.nodup (by decide)) hl h2⟩) hT
end
end LP
set_option maxRecDepth 100000
set_option maxHeartbeats 4000000
/-! Pn33: _law_holds. -/
namespace LP
open PySem PySem.Spec PyProof.Rows L2
/-- points -/
structure PtOk (pt : Pts) : Prop where
  nd : (pt.map (·.1)).Nodup
  l : pt.length ≤ 3
  s : SzL 3148 3148 pt
theorem PtOk.at_ {pt : Pts} (h : PtOk pt) (u : Str) : Sz 3148 3148 (coef pt u) := by
  by_cases hu : u ∈ pt.map (·.1)
  · obtain ⟨p, hp, rfl⟩ := List.mem_map.mp hu
    rw [coef_mem h.nd hp]
    exact h.s p hp
  · rw [coef_no hu]
    exact Sz.zero.mono (by decide) (by decide)
theorem num_eq (q : Rat) : (q.num : Rat) = q * (q.den : Rat) := by
  have h := Rat.num_divInt_den q
  rw [Rat.divInt_eq_div] at h
  have hd : ((q.den : Nat) : Rat) ≠ 0 := by exact_mod_cast q.den_nz
  have e : q * (q.den : Rat) = (q.num : Rat) / ((q.den : Int) : Rat) * (q.den : Rat) := by rw [h]
  rw [e, Rat.div_def]
  have e2 : (((q.den : Nat) : Int) : Rat) = ((q.den : Nat) : Rat) := rfl
  rw [e2]
  have := Rat.inv_mul_cancel _ hd
  grind
theorem law_step {top bottom : Int} {e c v : Rat} (h : (top : Rat) = e * (bottom : Rat)) : ((top * (c.den : Int) * (v.den : Int) + c.num * v.num * bottom : Int) : Rat) = (e + c * v) * ((bottom * (c.den : Int) * (v.den : Int) : Int) : Rat) := by
  rw [Rat.intCast_add, Rat.intCast_mul, Rat.intCast_mul, Rat.intCast_mul, Rat.intCast_mul, Rat.intCast_mul, Rat.intCast_mul, h, num_eq c, num_eq v]
  have e1 : (((c.den : Nat) : Int) : Rat) = ((c.den : Nat) : Rat) := rfl
  have e2 : (((v.den : Nat) : Int) : Rat) = ((v.den : Nat) : Rat) := rfl
  rw [e1, e2]
  grind
theorem law_cmp {top bottom : Int} {e b : Rat} (hb : 0 < bottom) (h : (top : Rat) = e * (bottom : Rat)) : (top * (b.den : Int) = b.num * bottom ↔ e = b) ∧ (top * (b.den : Int) < b.num * bottom ↔ e < b) := by
  have e1 : ((top * (b.den : Int) : Int) : Rat) = e * ((bottom : Rat) * ((b.den : Nat) : Rat)) := by
    rw [Rat.intCast_mul, h]
    show e * (bottom : Rat) * ((b.den : Nat) : Rat) = _
    grind
  have e2 : ((b.num * bottom : Int) : Rat) = b * ((bottom : Rat) * ((b.den : Nat) : Rat)) := by
    rw [Rat.intCast_mul, num_eq b]
    grind
  have hB : (0 : Rat) < (bottom : Rat) := Rat.intCast_pos.mpr hb
  have hD : (0 : Rat) < ((b.den : Nat) : Rat) := Rat.natCast_pos.mpr (Nat.pos_of_ne_zero b.den_nz)
  have hM : (0 : Rat) < (bottom : Rat) * ((b.den : Nat) : Rat) := Rat.mul_pos hB hD
  generalize (bottom : Rat) * ((b.den : Nat) : Rat) = M at *
  have hlt : ∀ {x y : Rat}, x < y → x * M < y * M := fun h => Rat.mul_lt_mul_of_pos_right h hM
  have heq : e * M = b * M ↔ e = b := ⟨fun z => by
    have h1 : ¬ e < b := fun q => by have := hlt q; grind
    have h2 : ¬ b < e := fun q => by have := hlt q; grind
    grind, fun z => by rw [z]⟩
  refine ⟨?_, ?_⟩
  · rw [← heq, ← e1, ← e2]
    exact ⟨fun z => by rw [z], fun z => Rat.intCast_inj.mp z⟩
  · have hl : e * M < b * M ↔ e < b := ⟨fun z => by
      have h2 : ¬ b < e := fun q => by have := hlt q; grind
      have h3 : e ≠ b := fun q => by rw [q] at z; grind
      grind, hlt⟩
    rw [← hl, ← e1, ← e2]
    exact Rat.intCast_lt_intCast.symm
def wLHo : List D → (D → Prop) → Prop := fun ds R => ∃ (r : Row) (pt : Pts), ds = [dRow r, dPts pt] ∧ LRow r ∧ PtOk pt ∧ ∀ c : Bool, (c = true ↔ Hold (coef pt) r) → R (.bl c)
section
variable {P : Program} {w : World} {K : PySem.W.Frag} {mg : Str → Option Value} {base : Heap} {f : Addr} {fd : FuncData}
theorem ok_law_holds (F : Fun K "_law_holds" "_law_holds" s__law_holds f fd) : FnOk P w K mg base CX0 1 f fd P__law_holds (spD K wLHo) := by
  refine okD F sc__law_holds (fun ds R h => by obtain ⟨r, pt, rfl, _⟩ := h; rfl) fun cdv A outer s H E hr ds R h => ?_
  obtain ⟨⟨ps, sg, b⟩, pt, rfl, hl, hp, r⟩ := h
  have hu := hr.units
  have hs : SzL 2 1 ps := hl.s
  have hlen : ps.length ≤ 3 := hl.l
  have hb : Sz 6 6 b := hl.b
  refine bs_cons (s_setM 2 (fun q hq => ?_) sc__law_holds.nd)
  refine bs_mid (fun ρ δ => ∃ (kvs : KD') (o3 o4 : Option D), (∀ u, (valD kvs (.inr u)).getD (dQ 0) = dQ (coef pt u)) ∧ ρ q = some (.M kvs) ∧ δ = [some (dRow ⟨ps, sg, b⟩), some (dPts pt), some (.obj q), o3, o4, none, none, none, none, none]) (s_for (it_tup <| w_var 1 rfl ⟨_, rfl, ?_⟩) rfl PassesOwn.never) ?_
  · refine forD_ind (fun rest ρ δ => ∃ (pre suf : Pts) (kvs : KD') (o3 o4 : Option D), pt = pre ++ suf ∧ rest = suf.map dPt ∧ kvs.length ≤ pre.length ∧ (∀ u, (valD kvs (.inr u)).getD (dQ 0) = dQ (coef pre u)) ∧ ρ q = some (.M kvs) ∧ δ = [some (dRow ⟨ps, sg, b⟩), some (dPts pt), some (.obj q), o3, o4, none, none, none, none, none]) ?_ ?_ _ _ _ ⟨[], pt, [], none, none, rfl, rfl, Nat.le_refl _, fun u => rfl, put_same, rfl⟩
    · rintro ρ δ ⟨pre, suf, kvs, o3, o4, e1, e2, _, hv, hq, rfl⟩
      have : suf = [] := by cases suf with | nil => rfl | cons _ _ => cases e2
      subst this
      rw [List.append_nil] at e1
      subst e1
      exact ⟨kvs, o3, o4, hv, hq, rfl⟩
    · rintro z zs ρ δ ⟨pre, suf, kvs, o3, o4, e1, e2, hk, hv, hq, rfl⟩
      cases suf with
      | nil => cases e2
      | cons p suf =>
        cases e2
        have hpl : pre.length < 3 := by
          have := congrArg List.length e1
          rw [List.length_append, List.length_cons] at this
          have := hp.l
          omega
        have hnp : p.1 ∉ pre.map (·.1) := by
          have := hp.nd
          rw [e1, List.map_append, List.map_cons, List.nodup_append] at this
          exact fun h => this.2.2 _ h _ (List.mem_cons_self ..) rfl
        refine tg_tup (tgs_cons <| tg_name 3 (tgs_cons <| tg_name 4 (tgs_nil ?_) sc__law_holds.nd) sc__law_holds.nd) rfl rfl
        refine bs_cons (s_dput hu (w_var 4 rfl ?_) (w_var 2 rfl rfl) hq (lt_line (by omega)) (k := Sum.inr p.1) (w_var 3 rfl rfl))
        have l1 := putD_len kvs (.inr p.1) (dQ p.2)
        refine bs_nil ⟨trivial, pre ++ [p], suf, putD kvs (.inr p.1) (dQ p.2), _, _, by rw [e1]; simp, rfl, by rw [List.length_append]; show _ ≤ pre.length + 1; omega, fun u => ?_, put_same, rfl⟩
        rw [valD_put]
        by_cases hu' : u = p.1
        · subst hu'
          rw [if_pos rfl]
          show dQ p.2 = _
          rw [coef_app, coef_no hnp]
          congr 1
          show p.2 = 0 + ((if p.1 = p.1 then p.2 else 0) + 0)
          rw [if_pos rfl]; grind
        · rw [if_neg (fun z => hu' (Sum.inr.inj z)), hv u, coef_app]
          congr 1
          show coef pre u = coef pre u + ((if p.1 = u then p.2 else 0) + 0)
          rw [if_neg (fun z => hu' z.symm)]; grind
  rintro ρ _ ⟨kvs, o3, o4, hv, hq, rfl⟩
  refine bs_cons (s_set 5 (w_int ?_) sc__law_holds.nd)
  refine bs_cons (s_set 6 (w_int ?_) sc__law_holds.nd)
  refine bs_mid (fun ρ δ => ∃ (top bottom : Int) (o3 o4 o7 : Option D), 0 < bottom ∧ (top : Rat) = ev (coef pt) ps * (bottom : Rat) ∧ Bt 13000 top.natAbs ∧ Bt 13000 bottom.natAbs ∧ δ = [some (dRow ⟨ps, sg, b⟩), some (dPts pt), some (.obj q), o3, o4, some (.int top), some (.int bottom), o7, none, none])
    (s_for (it_tup <| w_ix <| w_var 0 rfl <| w_int ⟨0, [dPts ps, .str sg.str, dQ b], dPts ps, rfl, rfl, rfl, ps.map dPt, rfl, ?_⟩) rfl PassesOwn.never) ?_
  · refine forD_ind (fun rest ρ δ => ∃ (pre suf : Pts) (top bottom : Int) (o3 o4 o7 : Option D), ps = pre ++ suf ∧ rest = suf.map dPt ∧ 0 < bottom ∧ (top : Rat) = ev (coef pt) pre * (bottom : Rat) ∧ Bt (4000 * pre.length + 1) top.natAbs ∧ Bt (4000 * pre.length + 1) bottom.natAbs ∧ ρ q = some (.M kvs) ∧ δ = [some (dRow ⟨ps, sg, b⟩), some (dPts pt), some (.obj q), o3, o4, some (.int top), some (.int bottom), o7, none, none]) ?_ ?_ _ _ _
      ⟨[], ps, 0, 1, o3, o4, none, rfl, rfl, by decide, by show ((0 : Int) : Rat) = 0 * ((1 : Int) : Rat); grind, by show Bt 1 0; unfold Bt; decide, by show Bt 1 1; exact Bt.one, hq, rfl⟩
    · rintro ρ δ ⟨pre, suf, top, bottom, o3, o4, o7, e1, e2, h1, h2, h3, h4, _, rfl⟩
      have : suf = [] := by cases suf with | nil => rfl | cons _ _ => cases e2
      subst this
      rw [List.append_nil] at e1
      subst e1
      exact ⟨top, bottom, o3, o4, o7, h1, h2, h3.mono (by omega), h4.mono (by omega), rfl⟩
    · rintro z zs ρ δ ⟨pre, suf, top, bottom, o3, o4, o7, e1, e2, h1, h2, h3, h4, hq, rfl⟩
      cases suf with
      | nil => cases e2
      | cons p suf =>
        cases e2
        have hpl : pre.length < 3 := by
          have := congrArg List.length e1
          rw [List.length_append, List.length_cons] at this
          omega
        have hc : Sz 2 1 p.2 := hs p (by rw [e1]; simp)
        have hx := hp.at_ p.1
        generalize hcv : coef pt p.1 = v at *
        refine tg_tup (tgs_cons <| tg_name 3 (tgs_cons <| tg_name 7 (tgs_nil ?_) sc__law_holds.nd) sc__law_holds.nd) rfl rfl
        refine bs_cons (s_set 4 (w_dget2 hu (w_var 2 rfl rfl) hq (k := Sum.inr p.1) (w_var 3 rfl rfl) (w_tup <| wi_cons <| w_int <| wi_cons <| w_int <| wi_nil ⟨one_line, rfl⟩) (hv p.1) ?_) sc__law_holds.nd)
        rw [hcv]
        have t1 : Bt (4000 * pre.length + 1 + 1) (top * (p.2.den : Int)).natAbs := by rw [Int.natAbs_mul]; exact h3.mul hc.d
        have t2 : Bt (4000 * pre.length + 1 + 1 + 3148) (top * (p.2.den : Int) * (v.den : Int)).natAbs := by rw [Int.natAbs_mul]; exact t1.mul hx.d
        have t3 : Bt (2 + 3148) (p.2.num * v.num).natAbs := by rw [Int.natAbs_mul]; exact hc.n.mul hx.n
        have t4 : Bt (2 + 3148 + (4000 * pre.length + 1)) (p.2.num * v.num * bottom).natAbs := by rw [Int.natAbs_mul]; exact t3.mul h4
        have t5 := Bt.le (t2.add t4) (nAbs_add _ _)
        have b1 : Bt (4000 * pre.length + 1 + 1) (bottom * (p.2.den : Int)).natAbs := by rw [Int.natAbs_mul]; exact h4.mul hc.d
        have b2 : Bt (4000 * pre.length + 1 + 1 + 3148) (bottom * (p.2.den : Int) * (v.den : Int)).natAbs := by rw [Int.natAbs_mul]; exact b1.mul hx.d
        refine bs_cons (s_set 5 (w_bin <| w_bin <| w_bin <| w_var 5 rfl <| w_ix <| w_var 7 rfl <| w_int ⟨1, [.int p.2.num, .int (p.2.den : Int)], .int (p.2.den : Int), rfl, rfl, rfl, opw_mul (h3.wide hc.d (by omega)) <| w_ix <| w_var 4 rfl <| w_int ⟨1, [.int v.num, .int (v.den : Int)], .int (v.den : Int), rfl, rfl, rfl, opw_mul (t1.wide hx.d (by omega)) <|
          w_bin <| w_bin <| w_ix <| w_var 7 rfl <| w_int ⟨0, [.int p.2.num, .int (p.2.den : Int)], .int p.2.num, rfl, rfl, rfl, w_ix <| w_var 4 rfl <| w_int ⟨0, [.int v.num, .int (v.den : Int)], .int v.num, rfl, rfl, rfl, opw_mul (hc.n.wide hx.n (by omega)) <| w_var 6 rfl <| opw_mul (t3.wide h4 (by omega)) <| opw_add ?_⟩⟩⟩⟩) sc__law_holds.nd)
        refine bs_cons (s_set 6 (w_bin <| w_bin <| w_var 6 rfl <| w_ix <| w_var 7 rfl <| w_int ⟨1, [.int p.2.num, .int (p.2.den : Int)], .int (p.2.den : Int), rfl, rfl, rfl, opw_mul (h4.wide hc.d (by omega)) <| w_ix <| w_var 4 rfl <| w_int ⟨1, [.int v.num, .int (v.den : Int)], .int (v.den : Int), rfl, rfl, rfl, opw_mul (b1.wide hx.d (by omega)) ?_⟩⟩) sc__law_holds.nd)
        have ee : ev (coef pt) (pre ++ [p]) = ev (coef pt) pre + p.2 * v := by
          rw [ev_app]
          show _ + (p.2 * coef pt p.1 + 0) = _
          rw [hcv]; grind
        refine bs_nil ⟨trivial, pre ++ [p], suf, _, _, _, _, _, by rw [e1]; simp, rfl, ?_, by rw [ee]; exact law_step h2, t5.mono ?_, b2.mono ?_, hq, rfl⟩
        · exact Int.mul_pos (Int.mul_pos h1 (den_pos p.2)) (den_pos v)
        · rw [List.length_append]; show _ ≤ 4000 * (pre.length + 1) + 1; omega
        · rw [List.length_append]; show _ ≤ 4000 * (pre.length + 1) + 1; omega
  rintro ρ _ ⟨top, bottom, o3, o4, o7, h1, h2, h3, h4, rfl⟩
  refine bs_cons (s_set 8 (w_bin <| w_var 5 rfl <| w_ix <| w_ix <| w_var 0 rfl <| w_int ⟨2, [dPts ps, .str sg.str, dQ b], dQ b, rfl, rfl, rfl, w_int ⟨1, [.int b.num, .int (b.den : Int)], .int (b.den : Int), rfl, rfl, rfl, opw_mul (h3.wide hb.d (by decide)) ?_⟩⟩) sc__law_holds.nd)
  refine bs_cons (s_set 9 (w_bin <| w_ix <| w_ix <| w_var 0 rfl <| w_int ⟨2, [dPts ps, .str sg.str, dQ b], dQ b, rfl, rfl, rfl, w_int ⟨0, [.int b.num, .int (b.den : Int)], .int b.num, rfl, rfl, rfl, w_var 6 rfl <| opw_mul (hb.n.wide h4 (by decide)) ?_⟩⟩) sc__law_holds.nd)
  obtain ⟨c1, c2⟩ := law_cmp (b := b) h1 h2
  refine bs_If <| wt_cmp <| w_ix <| w_var 0 rfl <| w_int ⟨1, [dPts ps, .str sg.str, dQ b], .str sg.str, rfl, rfl, rfl, w_str <| opw_eqS ⟨_, rfl, ?_⟩⟩
  rw [str_eq]
  cases sg with
  | eq =>
    exact bs_cons <| s_ret <| w_cmp <| w_var 8 rfl <| w_var 9 rfl <| opw_eqI ⟨_, rfl, rfl, r _ (decide_eq_true_iff.trans c1)⟩
  | le =>
    refine bs_nil <| bs_cons <| s_ret <| w_or <| w_cmp <| w_var 8 rfl <| w_var 9 rfl <| opw_lt ⟨_, rfl, ?_⟩
    by_cases hlt : top * (b.den : Int) < b.num * bottom
    · rw [decide_eq_true hlt]
      exact ⟨_, rfl, rfl, r true ⟨fun _ => Rat.le_of_lt (c2.mp hlt), fun _ => rfl⟩⟩
    · rw [decide_eq_false hlt]
      refine w_one <| w_and <| w_cmp <| w_ix <| w_var 0 rfl <| w_int ⟨1, [dPts ps, .str Sg.le.str, dQ b], .str Sg.le.str, rfl, rfl, rfl, w_str <| opw_eqS ⟨_, rfl, ?_⟩⟩
      rw [str_le]
      refine w_one <| w_cmp <| w_var 8 rfl <| w_var 9 rfl <| opw_eqI ⟨_, rfl, rfl, r _ (decide_eq_true_iff.trans (c1.trans ?_))⟩
      show ev (coef pt) ps = b ↔ ev (coef pt) ps ≤ b
      have := mt c2.mpr hlt
      grind
  | lt =>
    refine bs_nil <| bs_cons <| s_ret <| w_or <| w_cmp <| w_var 8 rfl <| w_var 9 rfl <| opw_lt ⟨_, rfl, ?_⟩
    by_cases hlt : top * (b.den : Int) < b.num * bottom
    · rw [decide_eq_true hlt]
      exact ⟨_, rfl, rfl, r true ⟨fun _ => c2.mp hlt, fun _ => rfl⟩⟩
    · rw [decide_eq_false hlt]
      refine w_one <| w_and <| w_cmp <| w_ix <| w_var 0 rfl <| w_int ⟨1, [dPts ps, .str Sg.lt.str, dQ b], .str Sg.lt.str, rfl, rfl, rfl, w_str <| opw_eqS ⟨_, rfl, ?_⟩⟩
      rw [str_le]
      exact ⟨_, rfl, rfl, r false ⟨(fun z => by cases z), fun z => absurd (c2.mpr z) hlt⟩⟩
end
end LP
set_option maxRecDepth 100000
set_option maxHeartbeats 4000000
/-! Pn34: _law_true. -/
namespace LP
open PySem PySem.Spec PyProof.Rows L2
noncomputable def hB (v : Val) (g : Fm) : Bool := @decide (FH v g) (Classical.propDecidable _)
theorem hB_iff {v : Val} {g : Fm} : hB v g = true ↔ FH v g := by
  unfold hB
  exact @decide_eq_true_iff _ (Classical.propDecidable _)
theorem hB_of {v : Val} {g : Fm} {c : Bool} (h : c = true ↔ FH v g) : c = hB v g := bool_of_iff h hB_iff
theorem no_false (v : Val) (l : List Fm) : (l.map (hB v)).contains false = false ↔ ∀ g ∈ l, FH v g := by
  rw [← Bool.not_eq_true, List.contains_iff_mem, List.mem_map]
  exact ⟨fun h g hg => Decidable.byContradiction (dec := Classical.propDecidable _) fun z => h ⟨g, hg, by cases q : hB v g with | false => rfl | true => exact absurd (hB_iff.mp q) z⟩, fun h ⟨g, hg, e⟩ => by rw [hB_iff.mpr (h g hg)] at e; cases e⟩
theorem has_true (v : Val) (l : List Fm) : (l.map (hB v)).contains true = true ↔ ∃ g ∈ l, FH v g := by
  rw [List.contains_iff_mem, List.mem_map]
  exact ⟨fun ⟨g, hg, e⟩ => ⟨g, hg, hB_iff.mp e⟩, fun ⟨g, hg, e⟩ => ⟨g, hg, hB_iff.mpr e⟩⟩
theorem bls (v : Val) (l : List Fm) : l.map (fun g => D.bl (hB v g)) = (l.map (hB v)).map .bl := by rw [List.map_map]; rfl
def wLT (n : Nat) : List D → (D → Prop) → Prop := fun ds R => ∃ (g : Fm) (pt : Pts), ds = [dF g, dPts pt] ∧ GF n g ∧ PtOk pt ∧ R (.bl (hB (coef pt) g))
section
variable {P : Program} {w : World} {K : PySem.W.Frag} {mg : Str → Option Value} {base : Heap} {f : Addr} {fd : FuncData}
theorem step_lt (m : Nat) (F : Fun K "_law_true" "_law_true" s__law_true f fd) (Gt : m ≠ 0 → Def P w K mg base (1 + m) "_law_true" P__law_true (spD K (wLT (m - 1)))) (Gh : Def P w K mg base 1 "_law_holds" P__law_holds (spD K wLHo)) : FnOk P w K mg base CX0 (2 + m) f fd P__law_true (spD K (wLT m)) := by
  rw [show 2 + m = 1 + m + 1 by omega]
  refine okD F sc__law_true (fun ds R h => by obtain ⟨g, pt, rfl, _⟩ := h; rfl) fun cdv A outer s H E hr ds R h => ?_
  obtain ⟨g, pt, rfl, gf, hp, r⟩ := h
  refine bs_cons (s_set 2 (w_ix <| w_var 0 rfl <| w_int ⟨0, .str (fkind g) :: fargs g, .str (fkind g), rfl, by rw [dF_tup]; rfl, rfl, ?_⟩) sc__law_true.nd)
  have arg : ∀ {ρ : Rho} {d : D}, (fargs g)[0]? = some d → SeqD ρ (dF g) (.str (fkind g) :: fargs g) ∧ (D.str (fkind g) :: fargs g)[1]? = some d := fun {ρ d} e => ⟨by rw [dF_tup]; rfl, e⟩
  refine bs_If <| wt_cmp <| w_var 2 rfl <| w_str <| opw_eqS ⟨_, rfl, ?_⟩
  cases gf with
  | @row _ r0 gr =>
    rw [decide_eq_true (show fkind (.row r0) = "row" from rfl)]
    exact bs_cons <| s_ret <| w_call Gh (hr.mono (by omega)) <| wa_v <| w_ix <| w_var 0 rfl <| w_int ⟨1, _, dRow r0, rfl, (arg rfl).1, (arg (ρ := noR) rfl).2, wa_v <| w_var 1 rfl <| wa_nil ⟨r0, pt, rfl, gr.lrow (by decide) (by decide), hp, fun c hc => ⟨_, rfl, rfl, by rw [hB_of (c := c) (v := coef pt) (g := .row r0) (by rw [hc, FH])]; exact r⟩⟩⟩
  | tt =>
    rw [decide_eq_false (show fkind .tt ≠ "row" by decide)]
    refine bs_nil <| bs_If <| wt_cmp <| w_var 2 rfl <| w_str <| opw_eqS ⟨_, rfl, ?_⟩
    rw [decide_eq_false (show fkind .tt ≠ "not" by decide)]
    refine bs_nil <| bs_If <| wt_ww <| ww_or <| wt_cmp <| w_var 2 rfl <| w_str <| opw_eqS ⟨_, rfl, ?_⟩
    rw [decide_eq_false (show fkind .tt ≠ "and" by decide)]
    refine ww_or1 <| wt_cmp <| w_var 2 rfl <| w_str <| opw_eqS ⟨_, rfl, ?_⟩
    rw [decide_eq_false (show fkind .tt ≠ "or" by decide)]
    refine bs_nil <| bs_cons <| s_ret <| w_cmp <| w_var 2 rfl <| w_str <| opw_eqS ⟨_, rfl, rfl, ?_⟩
    rw [decide_eq_true (show fkind .tt = "true" from rfl), hB_of (c := true) (v := coef pt) (g := .tt) (by rw [FH]; simp)]
    exact r
  | ff =>
    rw [decide_eq_false (show fkind .ff ≠ "row" by decide)]
    refine bs_nil <| bs_If <| wt_cmp <| w_var 2 rfl <| w_str <| opw_eqS ⟨_, rfl, ?_⟩
    rw [decide_eq_false (show fkind .ff ≠ "not" by decide)]
    refine bs_nil <| bs_If <| wt_ww <| ww_or <| wt_cmp <| w_var 2 rfl <| w_str <| opw_eqS ⟨_, rfl, ?_⟩
    rw [decide_eq_false (show fkind .ff ≠ "and" by decide)]
    refine ww_or1 <| wt_cmp <| w_var 2 rfl <| w_str <| opw_eqS ⟨_, rfl, ?_⟩
    rw [decide_eq_false (show fkind .ff ≠ "or" by decide)]
    refine bs_nil <| bs_cons <| s_ret <| w_cmp <| w_var 2 rfl <| w_str <| opw_eqS ⟨_, rfl, rfl, ?_⟩
    rw [decide_eq_false (show fkind .ff ≠ "true" by decide), hB_of (c := false) (v := coef pt) (g := .ff) (by rw [FH]; simp)]
    exact r
  | @neg n g1 gf1 =>
    rw [decide_eq_false (show fkind (.neg g1) ≠ "row" from show ("not" : Str) ≠ "row" by decide)]
    refine bs_nil <| bs_If <| wt_cmp <| w_var 2 rfl <| w_str <| opw_eqS ⟨_, rfl, ?_⟩
    rw [decide_eq_true (show fkind (.neg g1) = "not" from rfl)]
    refine bs_cons <| s_ret <| w_not <| w_call (Gt (by omega)) hr <| wa_v <| w_ix <| w_var 0 rfl <| w_int ⟨1, _, dF g1, rfl, (arg rfl).1, (arg (ρ := noR) rfl).2, wa_v <| w_var 1 rfl <| wa_nil ⟨g1, pt, rfl, gf1, hp, _, rfl, _, rfl, rfl, ?_⟩⟩
    rw [hB_of (c := !hB (coef pt) g1) (v := coef pt) (g := .neg g1) (by rw [FH, Bool.not_eq_true', ← Bool.not_eq_true, hB_iff])]
    exact r
  | @conj n l hl gfl =>
    rw [decide_eq_false (show fkind (.conj l) ≠ "row" from show ("and" : Str) ≠ "row" by decide)]
    refine bs_nil <| bs_If <| wt_cmp <| w_var 2 rfl <| w_str <| opw_eqS ⟨_, rfl, ?_⟩
    rw [decide_eq_false (show fkind (.conj l) ≠ "not" from show ("and" : Str) ≠ "not" by decide)]
    refine bs_nil <| bs_If <| wt_ww <| ww_or <| wt_cmp <| w_var 2 rfl <| w_str <| opw_eqS ⟨_, rfl, ?_⟩
    rw [decide_eq_true (show fkind (.conj l) = "and" from rfl)]
    refine bs_cons (LC.set 3 sc__law_true.nd (lc1' (α := Fm) [("_law_part", 4)] 4 sc__law_true.nd (it_tup <| w_ix <| w_var 0 rfl <| w_int ⟨1, _, .tup (l.map dF), rfl, (arg rfl).1, (arg (ρ := noR) rfl).2, _, rfl, ?_⟩)))
    refine ⟨by rw [List.length_map]; exact le_line (by omega), l, dF, fun g => .bl (hB (coef pt) g), rfl, fun g hg s' H' C cl fp => ?_, fun q hq => ?_⟩
    · exact w_call (Gt (by omega)) hr <| wa_v <| w_var 4 rfl <| wa_v <| w_var 1 rfl <| wa_nil ⟨g, pt, rfl, gfl g hg, hp, rfl⟩
    · rw [bls]
      refine bs_If <| wt_cmp <| w_var 2 rfl <| w_str <| opw_eqS ⟨_, rfl, ?_⟩
      rw [decide_eq_true (show fkind (.conj l) = "and" from rfl)]
      refine bs_cons <| s_ret <| w_cmp <| w_bl <| w_var 3 rfl <| opw_notInB (bs := l.map (hB (coef pt))) put_same ⟨_, rfl, rfl, ?_⟩
      rw [hB_of (c := !(l.map (hB (coef pt))).contains false) (v := coef pt) (g := .conj l) (by rw [FH, fAll_iff, Bool.not_eq_true', no_false])]
      exact r
  | @disj n l hl gfl =>
    rw [decide_eq_false (show fkind (.disj l) ≠ "row" from show ("or" : Str) ≠ "row" by decide)]
    refine bs_nil <| bs_If <| wt_cmp <| w_var 2 rfl <| w_str <| opw_eqS ⟨_, rfl, ?_⟩
    rw [decide_eq_false (show fkind (.disj l) ≠ "not" from show ("or" : Str) ≠ "not" by decide)]
    refine bs_nil <| bs_If <| wt_ww <| ww_or <| wt_cmp <| w_var 2 rfl <| w_str <| opw_eqS ⟨_, rfl, ?_⟩
    rw [decide_eq_false (show fkind (.disj l) ≠ "and" from show ("or" : Str) ≠ "and" by decide)]
    refine ww_or1 <| wt_cmp <| w_var 2 rfl <| w_str <| opw_eqS ⟨_, rfl, ?_⟩
    rw [decide_eq_true (show fkind (.disj l) = "or" from rfl)]
    refine bs_cons (LC.set 3 sc__law_true.nd (lc1' (α := Fm) [("_law_part", 4)] 4 sc__law_true.nd (it_tup <| w_ix <| w_var 0 rfl <| w_int ⟨1, _, .tup (l.map dF), rfl, (arg rfl).1, (arg (ρ := noR) rfl).2, _, rfl, ?_⟩)))
    refine ⟨by rw [List.length_map]; exact le_line (by omega), l, dF, fun g => .bl (hB (coef pt) g), rfl, fun g hg s' H' C cl fp => ?_, fun q hq => ?_⟩
    · exact w_call (Gt (by omega)) hr <| wa_v <| w_var 4 rfl <| wa_v <| w_var 1 rfl <| wa_nil ⟨g, pt, rfl, gfl g hg, hp, rfl⟩
    · rw [bls]
      refine bs_If <| wt_cmp <| w_var 2 rfl <| w_str <| opw_eqS ⟨_, rfl, ?_⟩
      rw [decide_eq_false (show fkind (.disj l) ≠ "and" from show ("or" : Str) ≠ "and" by decide)]
      refine bs_nil <| bs_cons <| s_ret <| w_cmp <| w_bl <| w_var 3 rfl <| opw_inB (bs := l.map (hB (coef pt))) put_same ⟨_, rfl, rfl, ?_⟩
      rw [hB_of (c := (l.map (hB (coef pt))).contains true) (v := coef pt) (g := .disj l) (by rw [FH, fAny_iff, has_true])]
      exact r
theorem ok_law_true (F : Fun K "_law_true" "_law_true" s__law_true f fd) (N : Nm K mg "_law_true" P__law_true f fd) (Gh : Def P w K mg base 1 "_law_holds" P__law_holds (spD K wLHo)) : ∀ m : Nat, FnOk P w K mg base CX0 (2 + m) f fd P__law_true (spD K (wLT m)) := by
  intro m
  induction m with
  | zero => exact step_lt 0 F (fun z => absurd rfl z) Gh
  | succ m ih => exact step_lt (m + 1) F (fun _ => by rw [show 1 + (m + 1) = 2 + m by omega]; exact N.defn ih) Gh
end
end LP
set_option maxRecDepth 100000
set_option maxHeartbeats 4000000
/-! Pn35: law. -/
namespace LP
open PySem PySem.Spec PyProof.Rows L2
theorem opw_times {X : Cx} {H0 : Hp} {ρ : Rho} {i j : Nat} {R : D → Prop} (hi : i < 1000) (hj : j < 1000) (h : R (.int ((i * j : Nat) : Int))) : OpW X H0 ρ (binaryOp .Mult) (.int (i : Int)) (.int (j : Int)) R := opw_mul (mulS (by omega) (by omega)) (by rw [← Int.natCast_mul]; exact h)
def wLaw : List D → (D → Prop) → Prop := fun ds R => ∃ xs : List Int, ds = [.ro (dInts xs)] ∧ xs.length ≤ 1000 ∧ R (.bl true)
section
variable {P : Program} {w : World} {K : PySem.W.Frag} {mg : Str → Option Value} {base : Heap} {f : Addr} {fd : FuncData} {T : Addr}
theorem ok_law (k : Nat) (hk : 49 ≤ k) (F : Fun K "law" "law" s_law f fd) (Gfs : Def P w K mg base 12 "_law_formulas" P__law_formulas (spL K wFms)) (Gd : Def P w K mg base 2 "_law_draw" P__law_draw (spL K wDraw)) (Gdc : Def P w K mg base k "_law_decided" P__law_decided (spT T (spD K (wDcd 39))))
    (Gt : Def P w K mg base 4 "_law_true" P__law_true (spD K (wLT 2))) (Gfl : Def P w K mg base 49 "flaw_of_proof" P_flaw_of_proof (spT T (spD K wFop))) (Gp : Def P w K mg base 3 "_law_point" P__law_point (spD K wLPt)) (hL : mg "len" = none) (hR : mg "range" = none) (hM : mg "min" = none) :
    FnOk P w K mg base CX0 (k + 1) f fd P_law (spT T (spD K wLaw)) := by
  refine okDT F sc_law (fun ds R h => by obtain ⟨xs, rfl, _⟩ := h; rfl) fun cdv A outer s H E hT hr ds R h => ?_
  obtain ⟨xs, rfl, hxs, r⟩ := h
  have hu := hr.units
  refine bs_mid (fun ρ δ => True) (s_for (it_range1 (w_min rfl (w_int ⟨4, rfl, w_bin <| w_int <| w_bin <| w_len (w_var 0 rfl ⟨_, rfl, w_int <| opw_fdiv (divS (by decide) (by decide)) <| opw_add ⟨_, rfl, ?_⟩⟩) hL⟩) hM) hR) rfl PassesOwn.never) ?_
  rotate_left
  · rintro ρ δ _
    exact bs_cons <| s_ret <| w_bl ⟨_, rfl, rfl, r⟩
  rw [dInts_len]
  obtain ⟨n, hn, hn4⟩ : ∃ n : Nat, (if 1 + (xs.length : Int) / 8 < 4 then 1 + (xs.length : Int) / 8 else 4) = (n : Int) ∧ n ≤ 4 := by
    have h0 : 0 ≤ (xs.length : Int) / 8 := Int.ediv_nonneg (by omega) (by decide)
    generalize (xs.length : Int) / 8 = z at h0
    refine ⟨(if 1 + z < 4 then 1 + z else 4).toNat, ?_, ?_⟩ <;> split <;> omega
  rw [hn]
  refine ⟨n, rfl, by omega, ?_⟩
  rw [nums_range]
  refine forD_ind (fun rest ρ δ => ∃ (suf : List Nat) (o1 o2 o3 o4 o5 o6 o7 : Option D), rest = suf.map (fun k : Nat => D.int (k : Int)) ∧ (∀ t ∈ suf, t < 4) ∧ δ = [some (.ro (dInts xs)), o1, o2, o3, o4, o5, o6, o7]) (fun _ _ _ => trivial) ?_ _ _ _
    ⟨List.range n, none, none, none, none, none, none, none, rfl, fun t ht => by have := List.mem_range.mp ht; omega, rfl⟩
  rintro z zs ρ δ ⟨suf, o1, o2, o3, o4, o5, o6, o7, e2, hsuf, rfl⟩
  cases suf with
  | nil => cases e2
  | cons t suf =>
  cases e2
  have ht : t < 4 := hsuf t (List.mem_cons_self ..)
  have hsuf' : ∀ t ∈ suf, t < 4 := fun t h => hsuf t (List.mem_cons_of_mem _ h)
  refine tg_name 1 ?_ sc_law.nd
  refine bs_cons (s_setL 2 (wl_call Gfs (hr.mono (by omega)) <| wa_v <| w_var 0 rfl <| wa_v <| w_bin <| w_int <| w_var 1 rfl <| opw_times (i := 8) (by decide) (by omega) <| wa_v <| w_bin <| w_int <| w_ixL <| wl_call Gd (hr.mono (by omega)) <| wa_v <| w_var 0 rfl <| wa_v <| w_bin <| w_bin <| w_int <| w_var 1 rfl <| opw_times (i := 8) (by decide) (by omega) <| w_int <| opw_plus (j := 3) <|
    wa_l <| wl_lst <| wi_cons <| w_int <| wi_nil ⟨one_line, wa_nil ⟨xs, 8 * t + 3, [3], rfl, by decide, by decide, by omega, fun ns d => w_int ?_⟩⟩) sc_law.nd)
  have l1 : ns.length = 1 := d.len
  have b0 := d.at_ 0 _ 3 (List.getElem?_eq_getElem (show 0 < ns.length by omega)) rfl
  obtain ⟨a, ha⟩ := Int.eq_ofNat_of_zero_le b0.1
  refine ⟨0, .int (ns[0]'(by omega)), rfl, dInts_get (List.getElem?_eq_getElem (by omega)), ?_⟩
  rw [ha] at b0 ⊢
  refine opw_plus (i := 1) <| wa_v <| w_int <| wa_nil ⟨xs, 8 * t, 1 + a, rfl, by omega, by omega, fun gs g3 gfs qf hqf => ?_⟩
  have hin := dec_in g3 gfs
  -- the list of truths
  have truths : ∀ {X : Cx} {ρ : Rho} {i : Nat} {v : Val}, True := fun {_ _ _ _} => trivial
  refine bs_cons (s_asg (w_callT hT Gdc hr <| wa_o <| w_var 2 rfl ⟨qf, _, rfl, put_same, wa_nil ⟨gs, rfl, hin, fun d ans => ?_, fun w hw => ?_⟩⟩))
  · cases ans with
    | pt pt nd l3 sz tr =>
      refine tg_tup (tgs_cons <| tg_name 3 (tgs_cons <| tg_name 4 (tgs_nil ?_) sc_law.nd) sc_law.nd) rfl rfl
      refine bs_If <| wt_cmp <| w_var 3 rfl <| w_str <| opw_eqS ⟨_, rfl, ?_⟩
      rw [decide_eq_false (show ("point" : Str) ≠ "refused" by decide)]
      refine bs_If <| wt_cmp <| w_var 3 rfl <| w_str <| opw_eqS ⟨_, rfl, ?_⟩
      rw [decide_eq_true rfl]
      have hfh : ∀ g ∈ gs, FH (coef pt) g := fun g hg => (pl_h g).mp (tr _ (List.mem_map_of_mem hg))
      refine bs_If <| wt_cmpL <| w_bl <| lc1 (α := Fm) [("_law_formula_here", 7)] 7 sc_law.nd (it_own <| w_var 2 rfl ⟨qf, _, rfl, put_same, ?_⟩)
      refine ⟨by rw [List.length_map]; exact le_line (by omega), gs, dF, fun g => .bl (hB (coef pt) g), rfl, fun g hg s' H' C cl fp => ?_, fun q hq => ?_⟩
      · exact w_call Gt (hr.mono (by omega)) <| wa_v <| w_var 7 rfl <| wa_v <| w_var 4 rfl <| wa_nil ⟨g, pt, rfl, gfs g hg, ⟨nd, l3, sz⟩, rfl⟩
      · rw [bls]
        refine opw_inB (bs := gs.map (hB (coef pt))) put_same ⟨_, rfl, ?_⟩
        rw [(no_false (coef pt) gs).mpr hfh]
        exact bs_nil <| bs_nil <| bs_nil <| bs_nil ⟨trivial, suf, _, _, _, _, _, _, _, rfl, hsuf', rfl⟩
    | pf p ok hd =>
      refine tg_tup (tgs_cons <| tg_name 3 (tgs_cons <| tg_name 4 (tgs_nil ?_) sc_law.nd) sc_law.nd) rfl rfl
      refine bs_If <| wt_cmp <| w_var 3 rfl <| w_str <| opw_eqS ⟨_, rfl, ?_⟩
      rw [decide_eq_false (show ("proof" : Str) ≠ "refused" by decide)]
      refine bs_If <| wt_cmp <| w_var 3 rfl <| w_str <| opw_eqS ⟨_, rfl, ?_⟩
      rw [decide_eq_false (show ("proof" : Str) ≠ "point" by decide)]
      refine bs_If <| wt_ww <| ww_or <| wt_cmp <| w_var 3 rfl <| w_str <| opw_neS ⟨_, rfl, ?_⟩
      rw [decide_eq_true rfl]
      refine ww_or1 <| wt_cmp <| w_callT hT Gfl (hr.mono hk) <| wa_o <| w_var 2 rfl ⟨qf, _, rfl, put_same, wa_v <| w_var 4 rfl <| wa_nil ⟨gs, p, rfl, ok, fun g hg => ⟨(gf_ok (gfs g hg)).d, (gf_ok (gfs g hg)).i, (gf_ok (gfs g hg)).l1⟩, by omega, by omega, w_non <| opw_notN ⟨_, rfl, ?_⟩⟩⟩
      refine bs_nil ?_
      have none : ∀ v : Val, ¬ ∀ g ∈ gs, FH v g := fun v h => pf_unsat p _ ok (fAll_iff.mpr fun f hf => by
        obtain ⟨g, hg, rfl⟩ := List.mem_map.mp hf
        exact (pl_h g).mpr (h g hg))
      refine bs_cons (s_for (it_range1 (w_int ⟨4, rfl, by decide, ?_⟩) hR) rfl PassesOwn.never)
      rw [nums_range]
      refine forD_ind (fun rest ρ' δ => ∃ (su : List Nat) (o5 o6 : Option D), rest = su.map (fun k : Nat => D.int (k : Int)) ∧ (∀ t ∈ su, t < 4) ∧ ρ' qf = some (.L (gs.map dF)) ∧ δ = [some (.ro (dInts xs)), some (.int (t : Int)), some (.obj qf), some (.str "proof"), some (dPf p), o5, o6, o7]) ?_ ?_ _ _ _ ⟨List.range 4, _, _, rfl, fun t ht => List.mem_range.mp ht, put_same, rfl⟩
      · rintro ρ' δ ⟨su, o5, o6, _, _, _, rfl⟩
        exact bs_nil <| bs_nil <| bs_nil ⟨trivial, suf, _, _, _, _, _, _, _, rfl, hsuf', rfl⟩
      · rintro z zs ρ' δ ⟨su, o5, o6, e2, hsu, hq, rfl⟩
        cases su with
        | nil => cases e2
        | cons j su =>
          cases e2
          have hj : j < 4 := hsu j (List.mem_cons_self ..)
          refine tg_name 5 ?_ sc_law.nd
          refine bs_cons (s_set 6 (w_call Gp (hr.mono (by omega)) <| wa_v <| w_var 0 rfl <| wa_v <| w_bin <| w_bin <| w_bin <| w_int <| w_var 1 rfl <| opw_times (i := 8) (by decide) (by omega) <| w_int <| opw_plus (j := 4) <| w_var 5 rfl <| opw_plus <| wa_nil ⟨xs, 8 * t + 4 + j, rfl, by omega, fun pt nd l3 sz => ?_⟩) sc_law.nd)
          refine bs_If <| wt_cmpL <| w_bl <| lc1 (α := Fm) [("_law_formula_here", 7)] 7 sc_law.nd (it_own <| w_var 2 rfl ⟨qf, _, rfl, hq, ?_⟩)
          refine ⟨by rw [List.length_map]; exact le_line (by omega), gs, dF, fun g => .bl (hB (coef pt) g), rfl, fun g hg s' H' C cl fp => ?_, fun q hq' => ?_⟩
          · exact w_call Gt (hr.mono (by omega)) <| wa_v <| w_var 7 rfl <| wa_v <| w_var 6 rfl <| wa_nil ⟨g, pt, rfl, gfs g hg, ⟨nd, l3, sz.mono (by decide) (by decide)⟩, rfl⟩
          · rw [bls]
            refine opw_notInB (bs := gs.map (hB (coef pt))) put_same ⟨_, rfl, ?_⟩
            have : (gs.map (hB (coef pt))).contains false = true := by
              cases e : (gs.map (hB (coef pt))).contains false with
              | true => rfl
              | false => exact absurd ((no_false (coef pt) gs).mp e) (none _)
            rw [this]
            exact bs_nil <| bs_nil ⟨trivial, su, _, _, rfl, fun t h => hsu t (List.mem_cons_of_mem _ h), hq, rfl⟩
  · refine tg_tup (tgs_cons <| tg_name 3 (tgs_cons <| tg_name 4 (tgs_nil ?_) sc_law.nd) sc_law.nd) rfl rfl
    refine bs_If <| wt_cmp <| w_var 3 rfl <| w_str <| opw_eqS ⟨_, rfl, ?_⟩
    rw [decide_eq_true rfl]
    refine bs_If <| wt_ww <| ww_or <| wt_cmp <| w_ix <| w_var 4 rfl <| w_int ⟨0, [.int 0, .str w], .int 0, rfl, rfl, rfl, w_int <| opw_neI ⟨_, rfl, ?_⟩⟩
    rw [decide_eq_true rfl]
    refine ww_or1 <| wt_cmpL <| w_ix <| w_var 4 rfl <| w_int ⟨1, [.int 0, .str w], .str w, rfl, rfl, rfl, wl_lst <| wi_cons <| w_str <| wi_cons <| w_str <| wi_nil ⟨one_line, fun q hq => ?_⟩⟩
    refine opw_notInT hu (xs := [.str "too many rows", .str "too many steps"]) put_same (k := true) ?_ ⟨_, rfl, ?_⟩ ?_
    · refine ⟨fun _ => ?_, fun _ => rfl⟩
      rcases hw with rfl | rfl
      · exact List.mem_cons_self ..
      · exact List.mem_cons_of_mem _ (List.mem_cons_self ..)
    · exact bs_nil <| bs_nil <| bs_nil ⟨trivial, suf, _, _, _, _, _, _, _, rfl, hsuf', rfl⟩
    · intro x hx
      rcases List.mem_cons.mp hx with rfl | hx
      · rfl
      · rw [List.mem_singleton.mp hx]; rfl
end
end LP
set_option maxRecDepth 100000
set_option maxHeartbeats 0
/-! Hk: what the head tells. -/
namespace LP
open PySem PySem.Spec PyProof.Rows L2
abbrev RWk : PySem.W.OpenRow := PySem.W.OpenLaw.row PySem.Challenge.rw_linpapers_k50_whole_a_point_or_a_proof
/-- all names that the top binds, but the law's -/
def namesL : List Str := ((RWk.prog.main.scope.names.filter fun p => decide (p.2 = .local)).map (·.1)).filter fun x => decide (x ≠ "law")
def dD (at_ : Str × Option Str) (nm q : Str) (st : Stmt) : He.DefD := ⟨at_, nm, q, defArgs st, defBody st, defScope st, [], []⟩
def fnL0 : List He.DefD := [dD ("common_divisor", none) "common_divisor" "common_divisor" s_common_divisor, dD ("number", none) "number" "number" s_number, dD ("plus", none) "plus" "plus" s_plus, dD ("minus", none) "minus" "minus" s_minus, dD ("times", none) "times" "times" s_times, dD ("over", none) "over" "over" s_over, dD ("opposite", none) "opposite" "opposite" s_opposite, dD ("compare", none) "compare" "compare" s_compare, dD ("is_below", none) "is_below" "is_below" s_is_below, dD ("is_above", none) "is_above" "is_above" s_is_above, dD ("simplest_above", none) "simplest_above" "simplest_above" s_simplest_above, dD ("above_floors", none) "above_floors" "above_floors" s_above_floors, dD ("can_lie_between", none) "can_lie_between" "can_lie_between" s_can_lie_between, dD ("simplest_between", none) "simplest_between" "simplest_between" s_simplest_between, dD ("gathered", none) "gathered" "gathered" s_gathered, dD ("multiplied", none) "multiplied" "multiplied" s_multiplied, dD ("factor_of", none) "factor_of" "factor_of" s_factor_of, dD ("normal", none) "normal" "normal" s_normal, dD ("row", none) "row" "row" s_row, dD ("unknowns", none) "unknowns" "unknowns" s_unknowns, dD ("sum_at", none) "sum_at" "sum_at" s_sum_at, dD ("holds", none) "holds" "holds" s_holds, dD ("opposites", none) "opposites" "opposites" s_opposites, dD ("denied", none) "denied" "denied" s_denied, dD ("plain", none) "plain" "plain" s_plain, dD ("is_multiplier", none) "is_multiplier" "is_multiplier" s_is_multiplier, dD ("is_paper", none) "is_paper" "is_paper" s_is_paper, dD ("sign_of", none) "sign_of" "sign_of" s_sign_of, dD ("sum_of", none) "sum_of" "sum_of" s_sum_of, dD ("refutes", none) "refutes" "refutes" s_refutes]
def fnL1 : List He.DefD := [dD ("derived", none) "derived" "derived" s_derived, dD ("number_in", none) "number_in" "number_in" s_number_in, dD ("scaled_paper", none) "scaled_paper" "scaled_paper" s_scaled_paper, dD ("added_papers", none) "added_papers" "added_papers" s_added_papers, dD ("combined", none) "combined" "combined" s_combined, dD ("is_weaker", none) "is_weaker" "is_weaker" s_is_weaker, dD ("stays", none) "stays" "stays" s_stays, dD ("cleaned", none) "cleaned" "cleaned" s_cleaned, dD ("first_equation", none) "first_equation" "first_equation" s_first_equation, dD ("by_equation", none) "by_equation" "by_equation" s_by_equation, dD ("eliminated", none) "eliminated" "eliminated" s_eliminated, dD ("false_row", none) "false_row" "false_row" s_false_row, dD ("limits_for", none) "limits_for" "limits_for" s_limits_for, dD ("tighter", none) "tighter" "tighter" s_tighter, dD ("whole_paper", none) "whole_paper" "whole_paper" s_whole_paper, dD ("back_from", none) "back_from" "back_from" s_back_from, dD ("solve", none) "solve" "solve" s_solve, dD ("numbers_of", none) "numbers_of" "numbers_of" s_numbers_of, dD ("step_fault", none) "step_fault" "step_fault" s_step_fault, dD ("flaw_under", none) "flaw_under" "flaw_under" s_flaw_under, dD ("flaw_of_proof", none) "flaw_of_proof" "flaw_of_proof" s_flaw_of_proof, dD ("first_of", none) "first_of" "first_of" s_first_of, dD ("decide", none) "decide" "decide" s_decide, dD ("_law_cell", none) "_law_cell" "_law_cell" s__law_cell, dD ("_law_draw", none) "_law_draw" "_law_draw" s__law_draw, dD ("_law_row", none) "_law_row" "_law_row" s__law_row, dD ("_law_formula", none) "_law_formula" "_law_formula" s__law_formula, dD ("_law_some", none) "_law_some" "_law_some" s__law_some, dD ("_law_number", none) "_law_number" "_law_number" s__law_number, dD ("_law_holds", none) "_law_holds" "_law_holds" s__law_holds]
def fnL2 : List He.DefD := [dD ("_law_true", none) "_law_true" "_law_true" s__law_true, dD ("_law_point", none) "_law_point" "_law_point" s__law_point, dD ("_law_formulas", none) "_law_formulas" "_law_formulas" s__law_formulas, dD ("_law_decided", none) "_law_decided" "_law_decided" s__law_decided, dD ("law", none) "law" "law" s_law, dD ("Search", some "__init__") "__init__" "Search.__init__" s_Search_init, dD ("Search", some "look") "look" "Search.look" s_Search_look, dD ("Search", some "take_and") "take_and" "Search.take_and" s_Search_take_and, dD ("Search", some "take_or") "take_or" "Search.take_or" s_Search_take_or]
def fnL : List He.DefD := fnL0 ++ (fnL1 ++ (fnL2))
def faL0 : List He.Fa := [.glo "common_divisor", .glo "number", .glo "plus", .glo "minus", .glo "times", .glo "over", .glo "opposite", .glo "compare", .glo "is_below", .glo "is_above", .glo "simplest_above", .glo "above_floors", .glo "can_lie_between", .glo "simplest_between", .glo "gathered", .glo "multiplied", .glo "factor_of", .glo "normal", .glo "row", .glo "unknowns", .glo "sum_at", .glo "holds", .glo "opposites", .glo "denied", .glo "plain", .glo "is_multiplier", .glo "is_paper", .glo "sign_of", .glo "sum_of", .glo "refutes"]
def faL1 : List He.Fa := [.glo "derived", .glo "number_in", .glo "scaled_paper", .glo "added_papers", .glo "combined", .glo "is_weaker", .glo "stays", .glo "cleaned", .glo "first_equation", .glo "by_equation", .glo "eliminated", .glo "false_row", .glo "limits_for", .glo "tighter", .glo "whole_paper", .glo "back_from", .glo "solve", .glo "numbers_of", .glo "step_fault", .glo "flaw_under", .glo "flaw_of_proof", .glo "first_of", .glo "decide", .glo "_law_cell", .glo "_law_draw", .glo "_law_row", .glo "_law_formula", .glo "_law_some", .glo "_law_number", .glo "_law_holds"]
def faL2 : List He.Fa := [.glo "_law_true", .glo "_law_point", .glo "_law_formulas", .glo "_law_decided", .glo "law", .glo "Search", .glo "FormulaError", .glo "OTHER", .glo "ZERO", .glo "ONE", .glo "NOTHING", .free "abs", .free "len", .free "min", .free "tuple", .free "sorted", .free "list", .free "range", .free "int", .free "dict", .free "reversed", .free "all", .free "super", .int "STEPS" 300, .int "ROWS" 8, .int "UNKNOWNS" 4, .cls "Search", .mkr "Search", .noat "Search" "steps", .meth "Search" "look"]
def faL3 : List He.Fa := [.meth "Search" "take_and", .meth "Search" "take_or", .meth "FormulaError" "__init__", .noat "FormulaError" "place", .noat "FormulaError" "what", .exm "FormulaError" "FormulaError" true]
def faL : List He.Fa := faL0 ++ (faL1 ++ (faL2 ++ (faL3)))
def tabL : List He.Tab := [(fun K => He.ga K "OTHER", ["and", "or", "true", "false"])]
def tfL : List He.Defn := [("sign_of", none)]
/-! ### more facts -/
/-- a tuple of these at a -/
def tupA (K : PySem.W.Frag) (a : Addr) (vs : List V) : Bool := match K.lookup a with
  | some ⟨.type c, _, .seq xs _, _⟩ => decide (c = "tuple") && decide (xs.size ≤ sizeLine) && He.relAll vs xs.toList
  | _ => false
/-- the i-th item of the tuple at a, an object -/
def itemA (K : PySem.W.Frag) (a : Addr) (i : Nat) : Addr := match K.lookup a with
  | some ⟨_, _, .seq xs _, _⟩ => (match xs.toList[i]? with
    | some (.ref b) => b
    | _ => 0)
  | _ => 0
def feA (K : PySem.W.Frag) : Addr := He.ga K "FormulaError"
def fiA (K : PySem.W.Frag) : Addr := He.ma K (feA K) "__init__"
/-- the class of the error -/
def feB (K : PySem.W.Frag) : Bool := match K.lookup (feA K) with
  | some ⟨.type t, _, .cls cd, sl⟩ => (match cd.mro, sl.toList with
    | .ref c :: bm, [_, _, _, _, some (.builtin n), _] => decide (t = "type") && decide (c = feA K) && decide (n = "ValueError.__new__") && !cd.hasDel && cd.hasDict && HandSPX.refsVE bm
    | _, _ => false)
  | _ => false
/-- its __init__'s cell, code -/
def fiB (K : PySem.W.Frag) : Bool := match K.lookup (fiA K) with
  | some ⟨_, _, .func fd, _⟩ => (match fd.closure, fd.defaults, fd.kwdefaults, fd.code with
    | [(x, cc)], .none, .none, .ref cda => decide (x = "__class__") && (match K.lookup cc with
        | some ⟨_, _, .cell (some (.ref c)), _⟩ => decide (c = feA K)
        | _ => false) && PySem.W.codeIn K (.ref cda) feQ && (match K.lookup cda with
        | some ⟨_, _, .fields vs, _⟩ => (match (vs[2]? : Option Value) with
          | some (.str file _) => (RWk.prog.main.file : Str) == file
          | _ => false)
        | _ => false)
    | _, _, _, _ => false)
  | _ => false
/-- its __init__'s text -/
abbrev FiV : Type := Option (Str × Str × Arguments × FuncBody × Scope × Addr × Addr)
def fiW (K : PySem.W.Frag) : FiV := match K.lookup (fiA K) with
  | some ⟨_, _, .func fd, _⟩ => some (fd.name, fd.qualname, fd.params, fd.body, fd.scope, fd.globals, fd.builtins)
  | _ => none
def fiV : FiV := some ("__init__", feQ, defArgs s_FormulaError_init, .stmts (defBody s_FormulaError_init), defScope s_FormulaError_init, mainGlobals, builtinsNs)
def exL (K : PySem.W.Frag) : Bool := He.valsB K (He.ga K "OTHER") [("and", .str "or"), ("or", .str "and"), ("true", .str "false"), ("false", .str "true")] &&
  (tupA K (He.ga K "ZERO") [.int 0, .int 1] && (tupA K (He.ga K "ONE") [.int 1, .int 1] &&
  (tupA K (He.ga K "NOTHING") [.ref (itemA K (He.ga K "NOTHING") 0), .str "<=", .ref (itemA K (He.ga K "NOTHING") 2)] && (tupA K (itemA K (He.ga K "NOTHING") 0) [] && (tupA K (itemA K (He.ga K "NOTHING") 2) [.int 0, .int 1] &&
  (feB K && (fiB K && (xfB K (feA K) &&
  (He.eqO (PySem.W.findIn K (.ref (feA K)) "__setattr__") (some (some (.builtin "object.__setattr__"))) &&
  (decide (PySem.W.typeIn K (.ref (feA K)) = some (.type "type")) && (PySem.W.keepIn K (.ref (feA K)) &&
  (He.eqO (PySem.W.ks_superIn K (feA K) (feA K) "__init__") (some (some (.builtin "ValueError.__init__"))) &&
  (decide (PySem.W.subIn K (.ref (feA K)) (.type "ValueError") = some true) && (decide (PySem.W.mroIn K (feA K) (.ref (feA K)) = some true) &&
  He.eqO (PySem.W.nsIn K cStatics "thirdparty.any") (some none)))))))))))))))
/-! ### the part of the heap that is looked at -/
def outA (g : Addr → Option Obj) (as : List Addr) : List Addr := as.flatMap fun a => match g a with
  | some o => (match o.data with
    | .fields _ => []
    | _ => He.refsD o)
  | none => []
def asL (g : Addr → Option Obj) : List Addr :=
  cStatics :: mainGlobals :: (outA g [mainGlobals] ++ (outA g (outA g [mainGlobals]) ++ (outA g (outA g (outA g [mainGlobals])) ++ outA g (outA g (outA g (outA g [mainGlobals]))))))
abbrev AlL : Type := He.AlX × FiV
def obsL (g : Addr → Option Obj) : AlL := ((He.obsT faL fnL tabL (He.frT g (asL g)), exL (He.frT g (asL g)) && He.tabsB g tfL (He.frT g (asL g))), fiW (He.frT g (asL g)))
def valL (w : World) : AlL := (He.valX fnL tabL w, fiV)
/-- what is told of the heap -/
structure SaysL (w : World) (h : Heap) (K : PySem.W.Frag) : Prop where
  x : He.SaysX faL fnL tabL tfL exL w h K
  fi : fiW K = fiV
theorem saysL_of {w : World} {h : Heap} (e : obsL h.get? = valL w) : SaysL w h (He.frT h.get? (asL h.get?)) := by
  obtain ⟨e12, e3⟩ := Prod.mk.inj e
  obtain ⟨e1, e2⟩ := Prod.mk.inj e12
  obtain ⟨h1, h2⟩ := He.ba e2
  generalize hK : He.frT h.get? (asL h.get?) = K at *
  have each : ∀ p ∈ tfL, PySem.W.codeHdIn K (He.cT K p).1 (He.cT K p).2 = true ∧ ∃ o, h.get? (He.cT K p).2 = some o ∧ He.emptyTab o = true := fun p hp => by
    obtain ⟨h3, h4⟩ := He.ba (List.all_eq_true.mp h2 p hp)
    cases q : h.get? (He.cT K p).2 with
    | none => rw [q] at h4; cases h4
    | some o => rw [q] at h4; exact ⟨h3, o, rfl, h4⟩
  refine ⟨⟨e1, h1, fun p hp => (each p hp).1, fun p hp => ?_, fun p hp => ?_⟩, e3⟩
  · obtain ⟨_, o, q, z⟩ := each p hp
    have := He.frT_none (as := asL h.get?) q z
    rw [hK] at this
    exact this
  · obtain ⟨_, o, q, z⟩ := each p hp
    rw [q, He.emptyTab_eq z]
def hkL : PySem.W.Hook where
  α := AlL
  obs := fun s => obsL s.heap.get?
  val := valL
  says := fun w h => ∃ K : PySem.W.Frag, K.In h ∧ SaysL w h K
  of := fun w s e => ⟨_, He.frT_in, saysL_of e⟩
  keeps := fun w h h' ⟨K, hK, c⟩ k => ⟨K, PySem.W.Frag.In.keeps hK k, ⟨⟨c.x.t, c.x.more, c.x.hd, c.x.out, fun p hp => k _ _ (c.x.empty p hp)⟩, c.fi⟩⟩
def obL (s : PySem.W.SharedT) : AlL := obsL (HandSHeadRun.getT s)
theorem obL_eq (s : PySem.W.SharedT) : obL s = hkL.obs s.abs := by
  have e : HandSHeadRun.getT s = s.abs.heap.get? := funext (HandSHeadRun.getT_eq s)
  unfold obL
  rw [e]; rfl
end LP
set_option maxRecDepth 100000
set_option maxHeartbeats 0
/-! Hr: the top's run. -/
namespace LP
open PySem PySem.Spec PyProof.Rows L2
theorem run_f (w : World) : HandSHeadRun.RunEq RWk (PySem.W.view RWk.prog [84]) hkL obL 20000 namesL (w.withFollow "special-get-raises" false) := by
  intro os
  kernel_rfl
theorem run_t (w : World) : HandSHeadRun.RunEq RWk (PySem.W.view RWk.prog [84]) hkL obL 20000 namesL (w.withFollow "special-get-raises" true) := by
  intro os
  kernel_rfl
theorem run_any (w : World) : HandSHeadRun.RunEq RWk (PySem.W.view RWk.prog [84]) hkL obL 20000 namesL w := PySem.W.byRow2 "special-get-raises" (P := fun w => HandSHeadRun.RunEq RWk (PySem.W.view RWk.prog [84]) hkL obL 20000 namesL w) run_f run_t w
end LP
set_option maxRecDepth 100000
set_option maxHeartbeats 4000000
/-! Hj: all defs joined. -/
namespace LP
open PySem PySem.Spec PyProof.Rows L2
section
variable {w : World} {h : Heap} {K : PySem.W.Frag} {mg : Str → Option Value}
theorem fun_of {x q : Str} {at_ : Str × Option Str} {st : Stmt} (c : SaysL w h K) (i : Nat) (hi : fnL[i]? = some (dD at_ x q st)) : ∃ fd, Fun K x q st (He.fAd K at_) fd := by
  obtain ⟨fd, ⟨oc, od, dV, kV, doc, pm, an, cdv, ct, osl, e, lk, cd, dv, kv⟩, kp⟩ := c.x.t.d.def_ i hi
  have e0 : dV = .none := by
    rcases dv with ⟨_, z⟩ | ⟨z, _⟩
    · exact z
    · exact absurd rfl z
  subst e0
  exact ⟨fd, ⟨oc, od, kV, doc, pm, an, cdv, ct, osl, e, lk, cd⟩, kp⟩
theorem fnm {x : Str} {ps : List Str} {st : Stmt} (c : SaysL w h K) (X : K.In h) (G : h.Ns mainGlobals mg) (i j : Nat) (hi : fnL[i]? = some (dD (x, none) x x st)) (hj : faL[j]? = some (.glo x))
    (hb : ∀ (kV doc pm : Value) (an : Option Addr) (cdv ct : Value) (us : List Value), us.length = ps.length → bindArgs (PySem.W.fnOf x x (defArgs st) (defBody st) (defScope st) .none kV doc pm an cdv ct) ⟨us, []⟩ = pure (ps.zip us)) :
    ∃ fd, Fun K x x st (He.ga K x) fd ∧ Nm K mg x ps (He.ga K x) fd := by
  obtain ⟨fd, F⟩ := fun_of c i hi
  exact ⟨fd, F, ⟨He.glo_ok X G (c.x.t.d.fact j hj), F.kp, F.binds hb⟩⟩
theorem tupA_ok {a : Addr} {vs : List V} (e : tupA K a vs = true) (H : Hp) : SqT K H a vs := by
  unfold tupA at e
  cases q : K.lookup a with
  | none => rw [q] at e; cases e
  | some o =>
    obtain ⟨oc, od, dt, osl⟩ := o
    rw [q] at e
    cases oc with
    | type c =>
      cases dt with
      | seq xs n =>
        obtain ⟨h12, h3⟩ := He.ba e
        obtain ⟨h1, h2⟩ := He.ba h12
        exact .inr ⟨_, xs, n, q, congrArg Value.type (of_decide_eq_true h1), rfl, of_decide_eq_true h2, He.relAll_ok h3⟩
      | _ => cases e
    | _ => cases dt <;> cases e
theorem gd_num {x : Str} {i j : Int} {q : Rat} (X : K.In h) (G : h.Ns mainGlobals mg) (g : (He.Fa.glo x).ok K = true) (e : tupA K (He.ga K x) [.int i, .int j] = true) (hq : dQ q = .tup [.int i, .int j]) : GD K mg x (dQ q) :=
  ⟨_, He.glo_ok X G g, ⟨⟨.ref (He.ga K x), rfl, fun H0 H => by rw [hq]; exact ⟨_, _, rfl, tupA_ok e H, .int i, _, rfl, rfl, .int j, [], rfl, rfl, rfl⟩⟩⟩⟩
theorem gd_int {x : Str} {i : Int} (X : K.In h) (G : h.Ns mainGlobals mg) (g : (He.Fa.int x i).ok K = true) : GD K mg x (.int i) := by
  obtain ⟨t, e⟩ := He.int_ok X G g
  exact ⟨_, e, ⟨⟨.int i, ⟨t, rfl⟩, fun _ _ => rfl⟩⟩⟩
theorem eqS_ref {x : PySem.Str} {y : Str} (e : decide (x = y) = true) : x = y := of_decide_eq_true e

/-- what of the heap is asked beyond the defs -/
structure MoreL (K : PySem.W.Frag) : Prop where
  other : He.valsB K (He.ga K "OTHER") [("and", .str "or"), ("or", .str "and"), ("true", .str "false"), ("false", .str "true")] = true
  zero : tupA K (He.ga K "ZERO") [.int 0, .int 1] = true
  one : tupA K (He.ga K "ONE") [.int 1, .int 1] = true
  no : tupA K (He.ga K "NOTHING") [.ref (itemA K (He.ga K "NOTHING") 0), .str "<=", .ref (itemA K (He.ga K "NOTHING") 2)] = true
  no0 : tupA K (itemA K (He.ga K "NOTHING") 0) [] = true
  no2 : tupA K (itemA K (He.ga K "NOTHING") 2) [.int 0, .int 1] = true
  fe : feB K = true
  fi : fiB K = true
  xf : xfB K (feA K) = true
  sa : PySem.W.findIn K (.ref (feA K)) "__setattr__" = some (some (.builtin "object.__setattr__"))
  ty : PySem.W.typeIn K (.ref (feA K)) = some (.type "type")
  kp : PySem.W.keepIn K (.ref (feA K)) = true
  sup : PySem.W.ks_superIn K (feA K) (feA K) "__init__" = some (some (.builtin "ValueError.__init__"))
  sub : PySem.W.subIn K (.ref (feA K)) (.type "ValueError") = some true
  mro : PySem.W.mroIn K (feA K) (.ref (feA K)) = some true
  stat : PySem.W.nsIn K cStatics "thirdparty.any" = some none
theorem more_of (e : exL K = true) : MoreL K := by
  unfold exL at e
  obtain ⟨e1, e⟩ := He.ba e
  obtain ⟨e2, e⟩ := He.ba e
  obtain ⟨e3, e⟩ := He.ba e
  obtain ⟨e4, e⟩ := He.ba e
  obtain ⟨e5, e⟩ := He.ba e
  obtain ⟨e6, e⟩ := He.ba e
  obtain ⟨e7, e⟩ := He.ba e
  obtain ⟨e8, e⟩ := He.ba e
  obtain ⟨e9, e⟩ := He.ba e
  obtain ⟨e10, e⟩ := He.ba e
  obtain ⟨e11, e⟩ := He.ba e
  obtain ⟨e12, e⟩ := He.ba e
  obtain ⟨e13, e⟩ := He.ba e
  obtain ⟨e14, e⟩ := He.ba e
  obtain ⟨e15, e16⟩ := He.ba e
  exact ⟨e1, e2, e3, e4, e5, e6, e7, e8, e9, He.eqO_ok e10, of_decide_eq_true e11, e12, He.eqO_ok e13, of_decide_eq_true e14, of_decide_eq_true e15, He.eqO_ok e16⟩
theorem fe_cls (e : feB K = true) : ∃ nm q N bs bm sn sub ab col dd k0 k1 k2 k3 k5, K.lookup (feA K) = some (excClassObj nm q (feA K) N bs bm true sn sub ab col dd k0 k1 k2 k3 k5 "ValueError.__new__") ∧ HandSPX.refsVE bm = true := by
  unfold feB at e
  cases ql : K.lookup (feA K) with
  | none => rw [ql] at e; cases e
  | some o =>
    obtain ⟨oc, dd, dt, sl⟩ := o
    rw [ql] at e
    cases oc with
    | type t =>
      cases dt with
      | cls cd =>
        obtain ⟨nm, bs, mro, ns, qn, hd, sn, sub, ab, col, del⟩ := cd
        obtain ⟨l⟩ := sl
        simp only at e
        split at e
        · rename_i c bm k0 k1 k2 k3 n k5
          obtain ⟨e, e6⟩ := He.ba e
          obtain ⟨e, e5⟩ := He.ba e
          obtain ⟨e, e4⟩ := He.ba e
          obtain ⟨e, e3⟩ := He.ba e
          obtain ⟨e1, e2⟩ := He.ba e
          have h1 := of_decide_eq_true e1
          have h2 := of_decide_eq_true e2
          have h3 := of_decide_eq_true e3
          subst h1 h3
          subst e5
          have h4 : del = false := by simpa using e4
          subst h4
          rw [h2]
          exact ⟨nm, qn, ns, bs, bm, sn, sub, ab, col, dd, k0, k1, k2, k3, k5, rfl, e6⟩
        · cases e
      | _ => cases e
    | _ => cases dt <;> cases e
theorem fi_fn (e : fiB K = true) (ev : fiW K = fiV) : ∃ (oc : Value) (od : Option Addr) (doc pm : Value) (an : Option Addr) (cda cc : Addr) (ct : Value) (osl : Array (Option Value)) (ccl cl : Value) (cdd cld : Option Addr) (vs : Array Value) (ccs csl : Array (Option Value)) (file : Str) (tf : Tok),
    K.lookup (fiA K) = some ⟨oc, od, .func (PySem.W.ksFn "__init__" feQ (defArgs s_FormulaError_init) (defBody s_FormulaError_init) (defScope s_FormulaError_init) .none .none doc pm an (.ref cda) ct cc), osl⟩ ∧ PySem.W.codeIn K (.ref cda) feQ = true ∧
    K.lookup cda = some ⟨ccl, cdd, .fields vs, ccs⟩ ∧ vs[2]? = some (.str file tf) ∧ ((RWk.prog.main.file : Str) == file) = true ∧ K.lookup cc = some ⟨cl, cld, .cell (some (.ref (feA K))), csl⟩ := by
  unfold fiB at e
  unfold fiW fiV at ev
  cases ql : K.lookup (fiA K) with
  | none => rw [ql] at e; cases e
  | some o =>
    obtain ⟨oc, od, dt, osl⟩ := o
    rw [ql] at e ev
    cases dt with
    | func fd =>
      obtain ⟨n1, n2, n3, n4, n5, n6, n7, n8, n9, n10, n11, n12, n13, n14, n15⟩ := fd
      simp only [Option.some.injEq, Prod.mk.injEq] at ev
      obtain ⟨h1, h2, h3, h4, h5, h6, h7⟩ := ev
      subst h1 h2 h3 h4 h5 h6 h7
      simp only at e
      split at e
      · rename_i x cc cda
        obtain ⟨e, g4⟩ := He.ba e
        obtain ⟨e, g3⟩ := He.ba e
        obtain ⟨g1, g2⟩ := He.ba e
        have hx := of_decide_eq_true g1
        subst hx
        cases qc : K.lookup cc with
        | none => rw [qc] at g2; cases g2
        | some u =>
          obtain ⟨cl, cld, ud, csl⟩ := u
          rw [qc] at g2
          cases qd : K.lookup cda with
          | none => rw [qd] at g4; cases g4
          | some v =>
            obtain ⟨ccl, cdd, vd, ccs⟩ := v
            rw [qd] at g4
            split at g2
            · rename_i a1 a2 c a3 hu
              injection hu with hu
              injection hu with hu1 hu2 hu3 hu4
              subst hu1 hu2 hu3 hu4
              have hc := of_decide_eq_true g2
              subst hc
              split at g4
              · rename_i b1 b2 vs b3 hv
                injection hv with hv
                injection hv with hv1 hv2 hv3 hv4
                subst hv1 hv2 hv3 hv4
                split at g4
                · rename_i file tf hf
                  exact ⟨oc, od, n10, n11, n12, cda, cc, n14, osl, _, _, _, _, vs, _, _, file, tf, rfl, g3, qd, hf, g4, qc⟩
                · cases g4
              · cases g4
            · cases g2
      · cases e
    | _ => cases e

theorem join (X : K.In h) (G : h.Ns mainGlobals mg) (c : SaysL w h K) :
    ∃ fd, mg "law" = some (.ref (He.ga K "law")) ∧ (∀ (s : Shared) (u : Value), BindsTo s fd ⟨[u], []⟩ [("_law_script", u)]) ∧ ∀ base : Heap, GxR.TabB base mg (He.cT K ("sign_of", none)).1 (He.cT K ("sign_of", none)).2 → FnOk RWk.prog w K mg base CX0 92 (He.ga K "law") fd P_law (spT (He.cT K ("sign_of", none)).2 (spD K wLaw)) := by
  obtain ⟨T, eT⟩ : ∃ T, T = (He.cT K ("sign_of", none)).2 := ⟨_, rfl⟩
  rw [← eT]
  obtain ⟨P, eP⟩ : ∃ P, P = RWk.prog := ⟨_, rfl⟩
  have D := c.x.t.d
  have M := more_of c.x.more
  obtain ⟨fd_common_divisor, F_common_divisor, N_common_divisor⟩ := fnm (x := "common_divisor") (ps := P_common_divisor) (st := s_common_divisor) c X G 0 0 rfl rfl (fun _ _ _ _ _ _ us hl => match us, hl with | [_, _], _ => rfl)
  obtain ⟨fd_number, F_number, N_number⟩ := fnm (x := "number") (ps := P_number) (st := s_number) c X G 1 1 rfl rfl (fun _ _ _ _ _ _ us hl => match us, hl with | [_, _], _ => rfl)
  obtain ⟨fd_plus, F_plus, N_plus⟩ := fnm (x := "plus") (ps := P_plus) (st := s_plus) c X G 2 2 rfl rfl (fun _ _ _ _ _ _ us hl => match us, hl with | [_, _], _ => rfl)
  obtain ⟨fd_minus, F_minus, N_minus⟩ := fnm (x := "minus") (ps := P_minus) (st := s_minus) c X G 3 3 rfl rfl (fun _ _ _ _ _ _ us hl => match us, hl with | [_, _], _ => rfl)
  obtain ⟨fd_times, F_times, N_times⟩ := fnm (x := "times") (ps := P_times) (st := s_times) c X G 4 4 rfl rfl (fun _ _ _ _ _ _ us hl => match us, hl with | [_, _], _ => rfl)
  obtain ⟨fd_over, F_over, N_over⟩ := fnm (x := "over") (ps := P_over) (st := s_over) c X G 5 5 rfl rfl (fun _ _ _ _ _ _ us hl => match us, hl with | [_, _], _ => rfl)
  obtain ⟨fd_opposite, F_opposite, N_opposite⟩ := fnm (x := "opposite") (ps := P_opposite) (st := s_opposite) c X G 6 6 rfl rfl (fun _ _ _ _ _ _ us hl => match us, hl with | [_], _ => rfl)
  obtain ⟨fd_compare, F_compare, N_compare⟩ := fnm (x := "compare") (ps := P_compare) (st := s_compare) c X G 7 7 rfl rfl (fun _ _ _ _ _ _ us hl => match us, hl with | [_, _], _ => rfl)
  obtain ⟨fd_is_below, F_is_below, N_is_below⟩ := fnm (x := "is_below") (ps := P_is_below) (st := s_is_below) c X G 8 8 rfl rfl (fun _ _ _ _ _ _ us hl => match us, hl with | [_, _, _], _ => rfl)
  obtain ⟨fd_is_above, F_is_above, N_is_above⟩ := fnm (x := "is_above") (ps := P_is_above) (st := s_is_above) c X G 9 9 rfl rfl (fun _ _ _ _ _ _ us hl => match us, hl with | [_, _, _], _ => rfl)
  obtain ⟨fd_simplest_above, F_simplest_above, N_simplest_above⟩ := fnm (x := "simplest_above") (ps := P_simplest_above) (st := s_simplest_above) c X G 10 10 rfl rfl (fun _ _ _ _ _ _ us hl => match us, hl with | [_, _, _, _], _ => rfl)
  obtain ⟨fd_above_floors, F_above_floors, N_above_floors⟩ := fnm (x := "above_floors") (ps := P_above_floors) (st := s_above_floors) c X G 11 11 rfl rfl (fun _ _ _ _ _ _ us hl => match us, hl with | [_, _], _ => rfl)
  obtain ⟨fd_can_lie_between, F_can_lie_between, N_can_lie_between⟩ := fnm (x := "can_lie_between") (ps := P_can_lie_between) (st := s_can_lie_between) c X G 12 12 rfl rfl (fun _ _ _ _ _ _ us hl => match us, hl with | [_, _, _, _], _ => rfl)
  obtain ⟨fd_simplest_between, F_simplest_between, N_simplest_between⟩ := fnm (x := "simplest_between") (ps := P_simplest_between) (st := s_simplest_between) c X G 13 13 rfl rfl (fun _ _ _ _ _ _ us hl => match us, hl with | [_, _, _, _], _ => rfl)
  obtain ⟨fd_gathered, F_gathered, N_gathered⟩ := fnm (x := "gathered") (ps := P_gathered) (st := s_gathered) c X G 14 14 rfl rfl (fun _ _ _ _ _ _ us hl => match us, hl with | [_], _ => rfl)
  obtain ⟨fd_multiplied, F_multiplied, N_multiplied⟩ := fnm (x := "multiplied") (ps := P_multiplied) (st := s_multiplied) c X G 15 15 rfl rfl (fun _ _ _ _ _ _ us hl => match us, hl with | [_, _], _ => rfl)
  obtain ⟨fd_factor_of, F_factor_of, N_factor_of⟩ := fnm (x := "factor_of") (ps := P_factor_of) (st := s_factor_of) c X G 16 16 rfl rfl (fun _ _ _ _ _ _ us hl => match us, hl with | [_], _ => rfl)
  obtain ⟨fd_normal, F_normal, N_normal⟩ := fnm (x := "normal") (ps := P_normal) (st := s_normal) c X G 17 17 rfl rfl (fun _ _ _ _ _ _ us hl => match us, hl with | [_], _ => rfl)
  obtain ⟨fd_row, F_row, N_row⟩ := fnm (x := "row") (ps := P_row) (st := s_row) c X G 18 18 rfl rfl (fun _ _ _ _ _ _ us hl => match us, hl with | [_, _, _], _ => rfl)
  obtain ⟨fd_unknowns, F_unknowns, N_unknowns⟩ := fnm (x := "unknowns") (ps := P_unknowns) (st := s_unknowns) c X G 19 19 rfl rfl (fun _ _ _ _ _ _ us hl => match us, hl with | [_], _ => rfl)
  obtain ⟨fd_sum_at, F_sum_at, N_sum_at⟩ := fnm (x := "sum_at") (ps := P_sum_at) (st := s_sum_at) c X G 20 20 rfl rfl (fun _ _ _ _ _ _ us hl => match us, hl with | [_, _], _ => rfl)
  obtain ⟨fd_holds, F_holds, N_holds⟩ := fnm (x := "holds") (ps := P_holds) (st := s_holds) c X G 21 21 rfl rfl (fun _ _ _ _ _ _ us hl => match us, hl with | [_, _], _ => rfl)
  obtain ⟨fd_opposites, F_opposites, N_opposites⟩ := fnm (x := "opposites") (ps := P_opposites) (st := s_opposites) c X G 22 22 rfl rfl (fun _ _ _ _ _ _ us hl => match us, hl with | [_], _ => rfl)
  obtain ⟨fd_denied, F_denied, N_denied⟩ := fnm (x := "denied") (ps := P_denied) (st := s_denied) c X G 23 23 rfl rfl (fun _ _ _ _ _ _ us hl => match us, hl with | [_], _ => rfl)
  obtain ⟨fd_plain, F_plain, N_plain⟩ := fnm (x := "plain") (ps := P_plain) (st := s_plain) c X G 24 24 rfl rfl (fun _ _ _ _ _ _ us hl => match us, hl with | [_], _ => rfl)
  obtain ⟨fd_is_multiplier, F_is_multiplier, N_is_multiplier⟩ := fnm (x := "is_multiplier") (ps := P_is_multiplier) (st := s_is_multiplier) c X G 25 25 rfl rfl (fun _ _ _ _ _ _ us hl => match us, hl with | [_, _], _ => rfl)
  obtain ⟨fd_is_paper, F_is_paper, N_is_paper⟩ := fnm (x := "is_paper") (ps := P_is_paper) (st := s_is_paper) c X G 26 26 rfl rfl (fun _ _ _ _ _ _ us hl => match us, hl with | [_, _], _ => rfl)
  obtain ⟨fd_sign_of, F_sign_of, N_sign_of⟩ := fnm (x := "sign_of") (ps := P_sign_of) (st := s_sign_of) c X G 27 27 rfl rfl (fun _ _ _ _ _ _ us hl => match us, hl with | [_], _ => rfl)
  obtain ⟨fd_sum_of, F_sum_of, N_sum_of⟩ := fnm (x := "sum_of") (ps := P_sum_of) (st := s_sum_of) c X G 28 28 rfl rfl (fun _ _ _ _ _ _ us hl => match us, hl with | [_, _], _ => rfl)
  obtain ⟨fd_refutes, F_refutes, N_refutes⟩ := fnm (x := "refutes") (ps := P_refutes) (st := s_refutes) c X G 29 29 rfl rfl (fun _ _ _ _ _ _ us hl => match us, hl with | [_, _], _ => rfl)
  obtain ⟨fd_derived, F_derived, N_derived⟩ := fnm (x := "derived") (ps := P_derived) (st := s_derived) c X G 30 30 rfl rfl (fun _ _ _ _ _ _ us hl => match us, hl with | [_], _ => rfl)
  obtain ⟨fd_number_in, F_number_in, N_number_in⟩ := fnm (x := "number_in") (ps := P_number_in) (st := s_number_in) c X G 31 31 rfl rfl (fun _ _ _ _ _ _ us hl => match us, hl with | [_, _], _ => rfl)
  obtain ⟨fd_scaled_paper, F_scaled_paper, N_scaled_paper⟩ := fnm (x := "scaled_paper") (ps := P_scaled_paper) (st := s_scaled_paper) c X G 32 32 rfl rfl (fun _ _ _ _ _ _ us hl => match us, hl with | [_, _], _ => rfl)
  obtain ⟨fd_added_papers, F_added_papers, N_added_papers⟩ := fnm (x := "added_papers") (ps := P_added_papers) (st := s_added_papers) c X G 33 33 rfl rfl (fun _ _ _ _ _ _ us hl => match us, hl with | [_, _], _ => rfl)
  obtain ⟨fd_combined, F_combined, N_combined⟩ := fnm (x := "combined") (ps := P_combined) (st := s_combined) c X G 34 34 rfl rfl (fun _ _ _ _ _ _ us hl => match us, hl with | [_, _, _, _], _ => rfl)
  obtain ⟨fd_is_weaker, F_is_weaker, N_is_weaker⟩ := fnm (x := "is_weaker") (ps := P_is_weaker) (st := s_is_weaker) c X G 35 35 rfl rfl (fun _ _ _ _ _ _ us hl => match us, hl with | [_, _], _ => rfl)
  obtain ⟨fd_stays, F_stays, N_stays⟩ := fnm (x := "stays") (ps := P_stays) (st := s_stays) c X G 36 36 rfl rfl (fun _ _ _ _ _ _ us hl => match us, hl with | [_, _], _ => rfl)
  obtain ⟨fd_cleaned, F_cleaned, N_cleaned⟩ := fnm (x := "cleaned") (ps := P_cleaned) (st := s_cleaned) c X G 37 37 rfl rfl (fun _ _ _ _ _ _ us hl => match us, hl with | [_], _ => rfl)
  obtain ⟨fd_first_equation, F_first_equation, N_first_equation⟩ := fnm (x := "first_equation") (ps := P_first_equation) (st := s_first_equation) c X G 38 38 rfl rfl (fun _ _ _ _ _ _ us hl => match us, hl with | [_, _], _ => rfl)
  obtain ⟨fd_by_equation, F_by_equation, N_by_equation⟩ := fnm (x := "by_equation") (ps := P_by_equation) (st := s_by_equation) c X G 39 39 rfl rfl (fun _ _ _ _ _ _ us hl => match us, hl with | [_, _, _], _ => rfl)
  obtain ⟨fd_eliminated, F_eliminated, N_eliminated⟩ := fnm (x := "eliminated") (ps := P_eliminated) (st := s_eliminated) c X G 40 40 rfl rfl (fun _ _ _ _ _ _ us hl => match us, hl with | [_, _], _ => rfl)
  obtain ⟨fd_false_row, F_false_row, N_false_row⟩ := fnm (x := "false_row") (ps := P_false_row) (st := s_false_row) c X G 41 41 rfl rfl (fun _ _ _ _ _ _ us hl => match us, hl with | [_], _ => rfl)
  obtain ⟨fd_limits_for, F_limits_for, N_limits_for⟩ := fnm (x := "limits_for") (ps := P_limits_for) (st := s_limits_for) c X G 42 42 rfl rfl (fun _ _ _ _ _ _ us hl => match us, hl with | [_, _, _], _ => rfl)
  obtain ⟨fd_tighter, F_tighter, N_tighter⟩ := fnm (x := "tighter") (ps := P_tighter) (st := s_tighter) c X G 43 43 rfl rfl (fun _ _ _ _ _ _ us hl => match us, hl with | [_, _, _, _, _], _ => rfl)
  obtain ⟨fd_whole_paper, F_whole_paper, N_whole_paper⟩ := fnm (x := "whole_paper") (ps := P_whole_paper) (st := s_whole_paper) c X G 44 44 rfl rfl (fun _ _ _ _ _ _ us hl => match us, hl with | [_], _ => rfl)
  obtain ⟨fd_back_from, F_back_from, N_back_from⟩ := fnm (x := "back_from") (ps := P_back_from) (st := s_back_from) c X G 45 45 rfl rfl (fun _ _ _ _ _ _ us hl => match us, hl with | [_, _, _], _ => rfl)
  obtain ⟨fd_solve, F_solve, N_solve⟩ := fnm (x := "solve") (ps := P_solve) (st := s_solve) c X G 46 46 rfl rfl (fun _ _ _ _ _ _ us hl => match us, hl with | [_], _ => rfl)
  obtain ⟨fd_numbers_of, F_numbers_of, N_numbers_of⟩ := fnm (x := "numbers_of") (ps := P_numbers_of) (st := s_numbers_of) c X G 47 47 rfl rfl (fun _ _ _ _ _ _ us hl => match us, hl with | [_], _ => rfl)
  obtain ⟨fd_step_fault, F_step_fault, N_step_fault⟩ := fnm (x := "step_fault") (ps := P_step_fault) (st := s_step_fault) c X G 48 48 rfl rfl (fun _ _ _ _ _ _ us hl => match us, hl with | [_, _], _ => rfl)
  obtain ⟨fd_flaw_under, F_flaw_under, N_flaw_under⟩ := fnm (x := "flaw_under") (ps := P_flaw_under) (st := s_flaw_under) c X G 49 49 rfl rfl (fun _ _ _ _ _ _ us hl => match us, hl with | [_, _], _ => rfl)
  obtain ⟨fd_flaw_of_proof, F_flaw_of_proof, N_flaw_of_proof⟩ := fnm (x := "flaw_of_proof") (ps := P_flaw_of_proof) (st := s_flaw_of_proof) c X G 50 50 rfl rfl (fun _ _ _ _ _ _ us hl => match us, hl with | [_, _], _ => rfl)
  obtain ⟨fd_first_of, F_first_of, N_first_of⟩ := fnm (x := "first_of") (ps := P_first_of) (st := s_first_of) c X G 51 51 rfl rfl (fun _ _ _ _ _ _ us hl => match us, hl with | [_, _, _], _ => rfl)
  obtain ⟨fd_decide, F_decide, N_decide⟩ := fnm (x := "decide") (ps := P_decide) (st := s_decide) c X G 52 52 rfl rfl (fun _ _ _ _ _ _ us hl => match us, hl with | [_], _ => rfl)
  obtain ⟨fd__law_cell, F__law_cell, N__law_cell⟩ := fnm (x := "_law_cell") (ps := P__law_cell) (st := s__law_cell) c X G 53 53 rfl rfl (fun _ _ _ _ _ _ us hl => match us, hl with | [_, _], _ => rfl)
  obtain ⟨fd__law_draw, F__law_draw, N__law_draw⟩ := fnm (x := "_law_draw") (ps := P__law_draw) (st := s__law_draw) c X G 54 54 rfl rfl (fun _ _ _ _ _ _ us hl => match us, hl with | [_, _, _], _ => rfl)
  obtain ⟨fd__law_row, F__law_row, N__law_row⟩ := fnm (x := "_law_row") (ps := P__law_row) (st := s__law_row) c X G 55 55 rfl rfl (fun _ _ _ _ _ _ us hl => match us, hl with | [_, _], _ => rfl)
  obtain ⟨fd__law_formula, F__law_formula, N__law_formula⟩ := fnm (x := "_law_formula") (ps := P__law_formula) (st := s__law_formula) c X G 56 56 rfl rfl (fun _ _ _ _ _ _ us hl => match us, hl with | [_, _, _], _ => rfl)
  obtain ⟨fd__law_some, F__law_some, N__law_some⟩ := fnm (x := "_law_some") (ps := P__law_some) (st := s__law_some) c X G 57 57 rfl rfl (fun _ _ _ _ _ _ us hl => match us, hl with | [_, _, _], _ => rfl)
  obtain ⟨fd__law_number, F__law_number, N__law_number⟩ := fnm (x := "_law_number") (ps := P__law_number) (st := s__law_number) c X G 58 58 rfl rfl (fun _ _ _ _ _ _ us hl => match us, hl with | [_, _], _ => rfl)
  obtain ⟨fd__law_holds, F__law_holds, N__law_holds⟩ := fnm (x := "_law_holds") (ps := P__law_holds) (st := s__law_holds) c X G 59 59 rfl rfl (fun _ _ _ _ _ _ us hl => match us, hl with | [_, _], _ => rfl)
  obtain ⟨fd__law_true, F__law_true, N__law_true⟩ := fnm (x := "_law_true") (ps := P__law_true) (st := s__law_true) c X G 60 60 rfl rfl (fun _ _ _ _ _ _ us hl => match us, hl with | [_, _], _ => rfl)
  obtain ⟨fd__law_point, F__law_point, N__law_point⟩ := fnm (x := "_law_point") (ps := P__law_point) (st := s__law_point) c X G 61 61 rfl rfl (fun _ _ _ _ _ _ us hl => match us, hl with | [_, _], _ => rfl)
  obtain ⟨fd__law_formulas, F__law_formulas, N__law_formulas⟩ := fnm (x := "_law_formulas") (ps := P__law_formulas) (st := s__law_formulas) c X G 62 62 rfl rfl (fun _ _ _ _ _ _ us hl => match us, hl with | [_, _, _, _], _ => rfl)
  obtain ⟨fd__law_decided, F__law_decided, N__law_decided⟩ := fnm (x := "_law_decided") (ps := P__law_decided) (st := s__law_decided) c X G 63 63 rfl rfl (fun _ _ _ _ _ _ us hl => match us, hl with | [_], _ => rfl)
  obtain ⟨fd_law, F_law, N_law⟩ := fnm (x := "law") (ps := P_law) (st := s_law) c X G 64 64 rfl rfl (fun _ _ _ _ _ _ us hl => match us, hl with | [_], _ => rfl)
  have f_abs : mg "abs" = none := He.free_ok X G (D.fact 71 (f := .free "abs") rfl)
  have f_len : mg "len" = none := He.free_ok X G (D.fact 72 (f := .free "len") rfl)
  have f_min : mg "min" = none := He.free_ok X G (D.fact 73 (f := .free "min") rfl)
  have f_tuple : mg "tuple" = none := He.free_ok X G (D.fact 74 (f := .free "tuple") rfl)
  have f_sorted : mg "sorted" = none := He.free_ok X G (D.fact 75 (f := .free "sorted") rfl)
  have f_list : mg "list" = none := He.free_ok X G (D.fact 76 (f := .free "list") rfl)
  have f_range : mg "range" = none := He.free_ok X G (D.fact 77 (f := .free "range") rfl)
  have f_int : mg "int" = none := He.free_ok X G (D.fact 78 (f := .free "int") rfl)
  have f_dict : mg "dict" = none := He.free_ok X G (D.fact 79 (f := .free "dict") rfl)
  have f_reversed : mg "reversed" = none := He.free_ok X G (D.fact 80 (f := .free "reversed") rfl)
  have f_all : mg "all" = none := He.free_ok X G (D.fact 81 (f := .free "all") rfl)
  have f_super : mg "super" = none := He.free_ok X G (D.fact 82 (f := .free "super") rfl)
  have d_ZERO : GD K mg "ZERO" (dQ 0) := gd_num X G (D.fact 68 (f := .glo "ZERO") rfl) M.zero rfl
  have d_ONE : GD K mg "ONE" (dQ 1) := gd_num X G (D.fact 69 (f := .glo "ONE") rfl) M.one rfl
  have d_NOTHING : GD K mg "NOTHING" (dRow ⟨[], .le, 0⟩) := ⟨_, He.glo_ok X G (D.fact 70 (f := .glo "NOTHING") rfl), ⟨⟨.ref (He.ga K "NOTHING"), rfl, fun H0 H => ⟨_, _, rfl, tupA_ok M.no H, .ref _, _, rfl, ⟨_, [], rfl, tupA_ok M.no0 H, rfl⟩, .str "<=", _, rfl, rfl, .ref _, [], rfl, ⟨_, _, rfl, tupA_ok M.no2 H, .int 0, _, rfl, rfl, .int 1, [], rfl, rfl, rfl⟩, rfl⟩⟩⟩⟩
  have d_STEPS : GD K mg "STEPS" (.int 300) := gd_int X G (D.fact 83 (f := .int "STEPS" 300) rfl)
  have d_ROWS : GD K mg "ROWS" (.int 8) := gd_int X G (D.fact 84 (f := .int "ROWS" 8) rfl)
  have d_UNKNOWNS : GD K mg "UNKNOWNS" (.int 4) := gd_int X G (D.fact 85 (f := .int "UNKNOWNS" 4) rfl)
  obtain ⟨es, en, kd⟩ := c.x.t.tab 0 (t := (fun K => He.ga K "OTHER", ["and", "or", "true", "false"])) rfl
  have oth : ∀ z o : Str, (z, He.Dv.str o) ∈ ([("and", .str "or"), ("or", .str "and"), ("true", .str "false"), ("false", .str "true")] : List (Str × He.Dv)) → GDct K w mg "OTHER" z o := fun z o hz => by
    obtain ⟨u, e1, e2⟩ := He.valsB_ok M.other hz
    exact ⟨_, He.glo_ok X G (D.fact 67 (f := .glo "OTHER") rfl), es, en, u, kd.at_, kd.lit, e1, e2⟩
  have d_OTHER : Oth K w mg := ⟨oth _ _ (by simp), oth _ _ (by simp), oth _ _ (by simp), oth _ _ (by simp)⟩
  have FC_sign_of : FunC K "sign_of" "sign_of" s_sign_of (He.ga K "sign_of") fd_sign_of (He.cT K ("sign_of", none)).1 := by
    obtain ⟨oc, od, kV, doc, pm, an, cdv, ct, osl, e, lk, cd⟩ := F_sign_of.ex
    obtain ⟨cc, rfl⟩ := He.codeIn_ref cd
    have ec : (He.cT K ("sign_of", none)).1 = cc := He.codeOf_eq (p := ("sign_of", none)) lk (by rw [e])
    rw [ec]
    exact ⟨⟨oc, od, kV, doc, pm, an, ct, osl, e, lk, cd⟩⟩
  have Tx : FeTxt P K mg (feA K) (fiA K) := by
    have mt := He.meth_ok (D.fact 92 (f := .meth "FormulaError" "__init__") rfl)
    exact { gC := He.glo_ok X G (D.fact 66 (f := .glo "FormulaError") rfl), T := ⟨fe_cls M.fe, M.sa, (xfB_ok M.xf).exC, M.ty, M.kp⟩, iC := mt.at_, tI := beq_iff_eq.mp mt.fn, noP := He.noat_ok (D.fact 93 (f := .noat "FormulaError" "place") rfl), noW := He.noat_ok (D.fact 94 (f := .noat "FormulaError" "what") rfl), sup := M.sup, sub := M.sub, self := M.mro, stat := M.stat, nosup := f_super, top := (by rw [eP]; decide +kernel), fn := (by rw [eP]; exact fi_fn M.fi c.fi) }
  obtain ⟨ioc, iod, idoc, ipm, ian, icda, icc, ict, iosl, i1, i2, i3, i4, i5, i6, i7, i8, i9, ilk, _⟩ := fi_fn M.fi c.fi
  have hFi : ∃ oc od osl, K.lookup (fiA K) = some ⟨oc, od, .func (PySem.W.ksFn "__init__" feQ (defArgs s_FormulaError_init) (defBody s_FormulaError_init) (defScope s_FormulaError_init) .none .none idoc ipm ian (.ref icda) ict icc), osl⟩ := ⟨_, _, _, ilk⟩
  have bFi : Binds K (PySem.W.ksFn "__init__" feQ (defArgs s_FormulaError_init) (defBody s_FormulaError_init) (defScope s_FormulaError_init) .none .none idoc ipm ian (.ref icda) ict icc) P_Fe [] := .all fun us hl => match us, hl with | [_, _, _], _ => rfl
  have Xf := xfB_ok M.xf
  have te := He.exm_ok (D.fact 95 (f := .exm "FormulaError" "FormulaError" true) rfl)
  obtain ⟨fdS_init, FS_init⟩ := fun_of (x := "__init__") (q := "Search.__init__") (at_ := ("Search", some "__init__")) (st := s_Search_init) c 65 rfl
  have bS_init : Binds K fdS_init P_Search_init [] := FS_init.binds fun _ _ _ _ _ _ us hl => match us, hl with | [_], _ => rfl
  obtain ⟨fdS_look, FS_look⟩ := fun_of (x := "look") (q := "Search.look") (at_ := ("Search", some "look")) (st := s_Search_look) c 66 rfl
  have bS_look : Binds K fdS_look P_Search_look [] := FS_look.binds fun _ _ _ _ _ _ us hl => match us, hl with | [_, _, _], _ => rfl
  obtain ⟨fdS_take_and, FS_take_and⟩ := fun_of (x := "take_and") (q := "Search.take_and") (at_ := ("Search", some "take_and")) (st := s_Search_take_and) c 67 rfl
  have bS_take_and : Binds K fdS_take_and P_Search_take_and [] := FS_take_and.binds fun _ _ _ _ _ _ us hl => match us, hl with | [_, _, _, _], _ => rfl
  obtain ⟨fdS_take_or, FS_take_or⟩ := fun_of (x := "take_or") (q := "Search.take_or") (at_ := ("Search", some "take_or")) (st := s_Search_take_or) c 68 rfl
  have bS_take_or : Binds K fdS_take_or P_Search_take_or [] := FS_take_or.binds fun _ _ _ _ _ _ us hl => match us, hl with | [_, _, _, _], _ => rfl
  have S : SrTxt K mg (He.ga K "Search") (He.ma K (He.ga K "Search") "__init__") (He.ma K (He.ga K "Search") "look") (He.ma K (He.ga K "Search") "take_and") (He.ma K (He.ga K "Search") "take_or") fdS_init fdS_look fdS_take_and fdS_take_or :=
    { g := He.glo_ok X G (D.fact 65 (f := .glo "Search") rfl), c := He.cls_ok (D.fact 86 (f := .cls "Search") rfl), mkS := He.mkr_ok (D.fact 87 (f := .mkr "Search") rfl), n := He.noat_ok (D.fact 88 (f := .noat "Search" "steps") rfl),
      mL := He.meth_ok (D.fact 89 (f := .meth "Search" "look") rfl), mA := He.meth_ok (D.fact 90 (f := .meth "Search" "take_and") rfl), mO := He.meth_ok (D.fact 91 (f := .meth "Search" "take_or") rfl), FN := FS_init, FL := FS_look, FA := FS_take_and, FO := FS_take_or, bN := bS_init, bL := bS_look, bA := bS_take_and, bO := bS_take_or }
  have bL : ∀ (s : Shared) (u : Value), BindsTo s fd_law ⟨[u], []⟩ [("_law_script", u)] := fun s u => by
    obtain ⟨oc, od, kV, doc, pm, an, cdv, ct, osl, e, lk, cd⟩ := F_law.ex
    rw [e]
    exact .of_eq rfl
  refine ⟨fd_law, N_law.hm, bL, fun base hTab => ?_⟩
  have G_common_divisor := N_common_divisor.defn (ok_cd (P := P) (w := w) (base := base) F_common_divisor)
  have G_number := N_number.defn (ok_num (P := P) (w := w) (base := base) F_number G_common_divisor f_abs)
  have G_plus := N_plus.defn (ok_plus (P := P) (w := w) (base := base) F_plus G_number)
  have G_minus := N_minus.defn (ok_minus (P := P) (w := w) (base := base) F_minus G_number)
  have G_times := N_times.defn (ok_times (P := P) (w := w) (base := base) F_times G_number)
  have G_over := N_over.defn (ok_over (P := P) (w := w) (base := base) F_over G_number)
  have G_opposite := N_opposite.defn (ok_opposite (P := P) (w := w) (base := base) F_opposite)
  have G_compare := N_compare.defn (ok_compare (P := P) (w := w) (base := base) F_compare)
  have G_is_below := N_is_below.defn (ok_is_below (P := P) (w := w) (base := base) F_is_below G_compare)
  have G_is_above := N_is_above.defn (ok_is_above (P := P) (w := w) (base := base) F_is_above G_compare)
  have G_can_lie_between := N_can_lie_between.defn (ok_can_lie_between (P := P) (w := w) (base := base) F_can_lie_between G_compare)
  have G_above_floors := N_above_floors.defn (ok_above_floors (P := P) (w := w) (base := base) F_above_floors G_plus G_over d_ONE f_reversed)
  have G_simplest_above := N_simplest_above.defn (ok_simplest_above (P := P) (w := w) (base := base) F_simplest_above G_can_lie_between G_is_below G_above_floors G_minus G_over d_ZERO d_ONE)
  have G_simplest_between := N_simplest_between.defn (ok_simplest_between (P := P) (w := w) (base := base) F_simplest_between G_can_lie_between G_is_below G_is_above G_compare G_simplest_above G_opposite d_ZERO)
  have G_multiplied := N_multiplied.defn (ok_multiplied (P := P) (w := w) (base := base) F_multiplied G_times f_tuple)
  have G_gathered := N_gathered.defn (ok_gathered (P := P) (w := w) (base := base) F_gathered G_plus d_ZERO f_tuple f_sorted)
  have G_factor_of := N_factor_of.defn (ok_factor_of (P := P) (w := w) (base := base) F_factor_of G_common_divisor G_compare G_over G_opposite d_ZERO d_ONE f_abs f_len)
  have G_normal := N_normal.defn (ok_normal (P := P) (w := w) (base := base) F_normal G_factor_of G_multiplied G_times)
  have G_sum_at := N_sum_at.defn (ok_sum_at (P := P) (w := w) (base := base) F_sum_at d_ZERO f_dict)
  have G_holds := N_holds.defn (ok_holds (P := P) (w := w) (base := base) F_holds G_sum_at G_compare)
  have G_row := N_row.defn (ok_row (P := P) (w := w) (base := base) F_row G_gathered G_normal G_multiplied G_opposite)
  have G_opposites := N_opposites.defn (ok_opposites (P := P) (w := w) (base := base) F_opposites G_row f_list)
  have G_is_multiplier := N_is_multiplier.defn (ok_is_multiplier (P := P) (w := w) (base := base) F_is_multiplier G_compare d_ZERO)
  have G_is_paper := N_is_paper.defn (ok_is_paper (P := P) (w := w) (base := base) F_is_paper G_is_multiplier f_len)
  have G_derived := N_derived.defn (ok_derived (P := P) (w := w) (base := base) F_derived d_ONE f_len f_range)
  have G_number_in := N_number_in.defn (ok_number_in (P := P) (w := w) (base := base) F_number_in d_ZERO)
  have G_scaled_paper := N_scaled_paper.defn (ok_scaled_paper (P := P) (w := w) (base := base) F_scaled_paper G_times)
  have G_added_papers := N_added_papers.defn (ok_added_papers (P := P) (w := w) (base := base) F_added_papers G_plus d_ZERO f_tuple f_sorted)
  have G_is_weaker := N_is_weaker.defn (ok_is_weaker (P := P) (w := w) (base := base) F_is_weaker G_compare)
  have G_stays := N_stays.defn (ok_stays (P := P) (w := w) (base := base) F_stays G_holds G_is_weaker f_len f_range)
  have G_cleaned := N_cleaned.defn (ok_cleaned (P := P) (w := w) (base := base) F_cleaned G_stays f_len f_range)
  have G_first_equation := N_first_equation.defn (ok_first_equation (P := P) (w := w) (base := base) F_first_equation G_number_in d_ZERO f_len f_range)
  have G_false_row := N_false_row.defn (ok_false_row (P := P) (w := w) (base := base) F_false_row G_holds f_len)
  have G_tighter := N_tighter.defn (ok_tighter (P := P) (w := w) (base := base) F_tighter G_compare)
  have G_limits_for := N_limits_for.defn (ok_limits_for (P := P) (w := w) (base := base) F_limits_for G_number_in G_compare G_minus G_times G_over G_tighter d_ZERO f_dict)
  have G_whole_paper := N_whole_paper.defn (ok_whole_paper (P := P) (w := w) (base := base) F_whole_paper G_common_divisor G_over G_times d_ONE f_abs f_tuple)
  have G_back_from := N_back_from.defn (ok_back_from (P := P) (w := w) (base := base) F_back_from G_limits_for G_simplest_between f_len f_range f_list f_tuple f_sorted)
  have G_unknowns := N_unknowns.defn (ok_unknowns (P := P) (w := w) (base := base) F_unknowns f_sorted)
  have G_numbers_of := N_numbers_of.defn (ok_numbers_of (P := P) (w := w) (base := base) F_numbers_of)
  have G_first_of := N_first_of.defn (ok_first_of (P := P) (w := w) (base := base) F_first_of f_len f_range)
  have G__law_cell := N__law_cell.defn (ok_law_cell (P := P) (w := w) (base := base) F__law_cell f_len)
  have G__law_draw := N__law_draw.defn (ok_law_draw (P := P) (w := w) (base := base) F__law_draw G__law_cell f_len f_range)
  have G__law_row := N__law_row.defn (ok_law_row (P := P) (w := w) (base := base) F__law_row G_row f_len f_range f_int)
  have G__law_number := N__law_number.defn (ok_law_number (P := P) (w := w) (base := base) F__law_number f_abs)
  have G__law_point := N__law_point.defn (ok_law_point (P := P) (w := w) (base := base) F__law_point G__law_draw G__law_number f_range f_tuple)
  have G__law_holds := N__law_holds.defn (ok_law_holds (P := P) (w := w) (base := base) F__law_holds)
  have okF := ok_formulas (P := P) (w := w) (base := base) F_denied F_plain N_denied N_plain G_opposites d_OTHER f_tuple f_len
  have G_plain := N_plain.defn (okF 2).2
  have G_sign_of := N_sign_of.defn (ok_sign_of (P := P) (w := w) (T := T) FC_sign_of hTab f_all)
  have G__law_formula := N__law_formula.defn (ok_law_formula F__law_formula N__law_formula G__law_row f_len f_int f_tuple 2 (by decide))
  have G__law_true := N__law_true.defn (ok_law_true F__law_true N__law_true G__law_holds 2)
  have G_sum_of := N_sum_of.defn (ok_sum_of (P := P) (w := w) (base := base) F_sum_of G_sign_of G_gathered G_times G_plus d_ZERO)
  have G_refutes := N_refutes.defn (ok_refutes (P := P) (w := w) (base := base) F_refutes G_is_paper G_sum_of G_holds)
  have G_combined := N_combined.defn (ok_combined (P := P) (w := w) (base := base) F_combined G_times G_plus G_gathered G_sign_of G_added_papers G_scaled_paper G_normal G_factor_of f_tuple)
  have G_by_equation := N_by_equation.defn (ok_by_equation (P := P) (w := w) (base := base) F_by_equation G_number_in G_combined G_opposite G_over d_ZERO d_ONE f_len f_range)
  have G_eliminated := N_eliminated.defn (ok_eliminated (P := P) (w := w) (base := base) F_eliminated G_first_equation G_by_equation G_number_in G_compare G_combined G_over d_ZERO d_ONE)
  have G_solve := N_solve.defn (ok_solve (P := P) (w := w) (base := base) F_solve G_unknowns G_cleaned G_derived G_false_row G_eliminated G_whole_paper G_back_from)
  have G_step_fault := N_step_fault.defn (ok_step_fault (P := P) (w := w) (base := base) F_step_fault G_numbers_of G_refutes f_len d_NOTHING)
  have G__law_some := N__law_some.defn (ok_law_some (P := P) (w := w) (base := base) F__law_some G__law_draw G__law_formula)
  have G__law_formulas := N__law_formulas.defn (ok_law_formulas (P := P) (w := w) (base := base) F__law_formulas G__law_some f_range)
  have G_flaw_under := N_flaw_under.defn (ok_flaw_under F_flaw_under N_flaw_under G_step_fault f_len f_range f_list 40)
  have okS := ok_search (P := P) (w := w) (base := base) S Tx hFi bFi G_unknowns G_first_of G_solve d_STEPS d_ROWS d_UNKNOWNS f_len f_range f_tuple f_list 39
  have okD := ok_decide 39 89 (by decide) F_decide S okS G_plain
  have G__law_decided := N__law_decided.defn (ok_law_decided 39 90 (by decide) F__law_decided okD N_decide.hm N_decide.hk N_decide.hb Tx Xf te)
  have G_flaw_of_proof := N_flaw_of_proof.defn (ok_flaw_of_proof (P := P) (w := w) (base := base) F_flaw_of_proof G_plain G_flaw_under)
  have okL := ok_law (P := P) (w := w) (base := base) 91 (by decide) F_law G__law_formulas G__law_draw G__law_decided G__law_true G_flaw_of_proof G__law_point f_len f_range f_min
  rw [eP] at okL
  exact okL
end
end LP
set_option maxRecDepth 100000
set_option maxHeartbeats 4000000
/-! Hz: the end. -/
namespace LP
open PySem PySem.Spec PyProof.Rows L2
theorem law_at {w : World} {mg : Str → Option Value} {fa : Addr} {h : Heap} (Y : hkL.says w h) (G : h.Ns mainGlobals mg) (hmg : mg ("law" : Str) = some (.ref fa)) :
    ∃ K : PySem.W.Frag, K.In h ∧ LamX.LawAtS PySem.Challenge.rw_linpapers_k50_whole_a_point_or_a_proof w K L2.CX0 92 63 "_law_script" mg fa h := by
  obtain ⟨K, X, c⟩ := Y
  obtain ⟨fd, e, hb, hF⟩ := join X G c
  rw [hmg] at e
  have ef : fa = He.ga K "law" := Value.ref.inj (Option.some.inj e)
  subst ef
  have mem : ∀ p ∈ tfL.map (He.cT K), p = He.cT K ("sign_of", none) := fun p hp => List.mem_singleton.mp hp
  have m0 : (("sign_of", none) : He.Defn) ∈ tfL := List.mem_singleton.mpr rfl
  refine ⟨K, X, fd, tfL.map (He.cT K), spT (He.cT K ("sign_of", none)).2 (spD K wLaw), fun p hp => ?_, fun p hp => ?_, fun p hp => ?_, hb, fun H a ns hl _ hH hS => ?_, fun base _ _ hT => ?_⟩
  · rw [mem p hp]; exact c.x.empty _ m0
  · rw [mem p hp]; exact c.x.out _ m0
  · rw [mem p hp]; exact PySem.W.codeHd_of_K X (c.x.hd _ m0)
  · exact ⟨⟨#[], hH _ (List.mem_singleton.mpr rfl), trivial⟩, [.ro (dInts ns)], (fun d => d = .bl true), ⟨ns, rfl, by omega, rfl⟩, ⟨.ref a, [], rfl, ⟨a, ns.map V.int, rfl, hS, isVs_ints ns⟩, rfl⟩, fun v H' d rd fl e iv => by subst rd; exact iv⟩
  · obtain ⟨t1, t2, t3⟩ := hT _ (List.mem_singleton.mpr rfl)
    exact hF base ⟨t1, t2, t3⟩
end LP
open PySem PySem.W PySem.Calls PyProof.Rows
set_option maxRecDepth 100000 in
set_option maxHeartbeats 0 in
theorem PySem.Challenge.cw_linpapers_k50_whole_a_point_or_a_proof_holds : PySem.Challenge.rw_linpapers_k50_whole_a_point_or_a_proof.Holds := by
  w_on; o_law
  refine HandSHeadRun.head_any (r := OpenLaw.row PySem.Challenge.rw_linpapers_k50_whole_a_point_or_a_proof) (q := view (OpenLaw.row PySem.Challenge.rw_linpapers_k50_whole_a_point_or_a_proof).prog [84]) (H := LP.hkL) (ob := LP.obL) (M := 20000) (loose := LP.namesL) (d := HandSHeadRun.topDef (OpenLaw.row PySem.Challenge.rw_linpapers_k50_whole_a_point_or_a_proof).prog 84) (kwd := []) LP.obL_eq
    (by kernel_rfl) (fun s => by kernel_rfl) LP.run_any (by kernel_rfl) (by kernel_rfl) (by kernel_rfl) (by rfl) (by first | assumption | decide +kernel) (by decide +kernel) ⟨rfl, rfl, rfl, rfl, rfl, by decide +kernel⟩ ?hw ?hc
  case hw => w_witness2
  case hc =>
    refine LamX.walk_ofTsE (l := PySem.Challenge.rw_linpapers_k50_whole_a_point_or_a_proof) (n := 63) (k := 92) (x := "_law_script") (CX := fun _ => L2.CX0) rfl (by decide) (by kernel_rfl) ⟨rfl, by decide, by decide⟩ ?F (fun _ _ _ _ _ z => z)
    intro w mg fa h Y G hmg
    have e : (HandSHeadRun.topDef (OpenLaw.row PySem.Challenge.rw_linpapers_k50_whole_a_point_or_a_proof).prog 84).name = ("law" : PySem.Str) := by kernel_rfl
    rw [e] at hmg
    exact LP.law_at Y G hmg
#print axioms PySem.Challenge.cw_linpapers_k50_whole_a_point_or_a_proof_holds
