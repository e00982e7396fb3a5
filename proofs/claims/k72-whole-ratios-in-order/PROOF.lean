import PyProof.Rows.All
import Wide.All
import OpenK.AllK
import Wide.FinOn
import HandS.ForMost
import HandS.ForExc
import HandS.OwnEq
import HandS.Star
import HandS.ExcInit
import HandS.TryMany
import HandS.ExcField
import HandS.ExcIs
import HandS.Defaults
import HandS.Wide
import HandS.ClsMeth
import HandS.FStr
import HandS.Flow
import HandS.IsInst
import HandS.Walk
import HandS.Zip
import HandS.Conv
import HandS.Head0
import HandS.Head1
import HandS.Head2
import HandS.HeadEnd
import HandS.HeadHook1
import HandS.HeadHook2
import HandS.HeadHook3
import HandS.HeadHook4
import HandS.HeadNt
import HandS.EndBits
import HandS.StrMore
import KE.KStateDown
import PySem.Challenge.RW_switchforms_k72_whole_ratios_in_order
set_option Elab.async false
set_option linter.all false
set_option maxRecDepth 100000
set_option maxHeartbeats 1000000
namespace Dl
open PySem L2
/-! ### data: what a value is, without the heap; ref a: a thing that may change (it stands in the store), a def, a class -/
inductive D where
  | non | bl (b : Bool) | int (i : Int) | str (x : Str) | ty (n : String) | ref (a : Addr)
  | tup (xs : List D) | lst (xs : List D)
  | ins (C : Addr) (fs : List (Str × D))
  | dK (kvs : List (Key × D)) | dT (kvs : List (List Key × D))
instance : Inhabited D := ⟨.non⟩
/-- what may change -/
inductive MO where
  | lst (xs : List D)
  | ins (C : Addr) (fs : List (Str × D))
  | dK (kvs : List (Key × D)) | dT (kvs : List (List Key × D))
abbrev Mu := Addr → Option MO
def mput (μ : Mu) (a : Addr) (o : MO) : Mu := fun b => if b = a then some o else μ b
def mdel (μ : Mu) (a : Addr) : Mu := fun b => if b = a then none else μ b
theorem mput_same {μ : Mu} {a : Addr} {o : MO} : mput μ a o a = some o := if_pos rfl
theorem mput_ne {μ : Mu} {a b : Addr} {o : MO} (h : b ≠ a) : mput μ a o b = μ b := if_neg h
theorem mdel_same {μ : Mu} {a : Addr} : mdel μ a a = none := if_pos rfl
theorem mdel_ne {μ : Mu} {a b : Addr} (h : b ≠ a) : mdel μ a b = μ b := if_neg h
theorem mput_mput {μ : Mu} {a : Addr} {o u : MO} : mput (mput μ a o) a u = mput μ a u := by
  funext b; unfold mput; split <;> rfl
theorem mdel_mput {μ : Mu} {a : Addr} {o : MO} (h : μ a = none) : mdel (mput μ a o) a = μ := by
  funext b; unfold mdel mput; split
  · rename_i e; rw [e, h]
  · rfl
/-! ### what stands in the heap -/
mutual
inductive At (K : PySem.W.Frag) (G : Hp) : V → D → Prop where
  | non : At K G .non .non
  | bl (b : Bool) : At K G (.bl b) (.bl b)
  | int (i : Int) : At K G (.int i) (.int i)
  | str (x : Str) : At K G (.str x) (.str x)
  | ty (n : String) : At K G (.ty n) (.ty n)
  | ref (a : Addr) : At K G (.ref a) (.ref a)
  | tup {a : Addr} {vs : List V} {ds : List D} : SqT K G a vs → Ats K G vs ds → At K G (.ref a) (.tup ds)
  | lst {a : Addr} {vs : List V} {ds : List D} : SqL K G a vs → Ats K G vs ds → At K G (.ref a) (.lst ds)
  | ins {a C dx : Addr} {fs : List (Str × V)} {ds : List (Str × D)} : G a = some (.ins C dx fs) → Atf K G fs ds → At K G (.ref a) (.ins C ds)
  | dK {a : Addr} {kvs : List (Key × V)} {ds : List (Key × D)} : Rd G a (.dK kvs) → Atk K G kvs ds → At K G (.ref a) (.dK ds)
  | dT {a : Addr} {kvs : List (List Key × V)} {ds : List (List Key × D)} : Rd G a (.dT kvs) → Att K G kvs ds → At K G (.ref a) (.dT ds)
inductive Ats (K : PySem.W.Frag) (G : Hp) : List V → List D → Prop where
  | nil : Ats K G [] []
  | cons {v : V} {d : D} {vs : List V} {ds : List D} : At K G v d → Ats K G vs ds → Ats K G (v :: vs) (d :: ds)
inductive Atf (K : PySem.W.Frag) (G : Hp) : List (Str × V) → List (Str × D) → Prop where
  | nil : Atf K G [] []
  | cons {f : Str} {v : V} {d : D} {vs : List (Str × V)} {ds : List (Str × D)} : At K G v d → Atf K G vs ds → Atf K G ((f, v) :: vs) ((f, d) :: ds)
inductive Atk (K : PySem.W.Frag) (G : Hp) : List (Key × V) → List (Key × D) → Prop where
  | nil : Atk K G [] []
  | cons {f : Key} {v : V} {d : D} {vs : List (Key × V)} {ds : List (Key × D)} : At K G v d → Atk K G vs ds → Atk K G ((f, v) :: vs) ((f, d) :: ds)
inductive Att (K : PySem.W.Frag) (G : Hp) : List (List Key × V) → List (List Key × D) → Prop where
  | nil : Att K G [] []
  | cons {f : List Key} {v : V} {d : D} {vs : List (List Key × V)} {ds : List (List Key × D)} : At K G v d → Att K G vs ds → Att K G ((f, v) :: vs) ((f, d) :: ds)
end
theorem same_seqT {K : PySem.W.Frag} {H H' : Hp} {a : Addr} {xs : List V} (e : Same H H') (h : SqT K H a xs) : SqT K H' a xs := by
  rcases h with (h | ⟨o, h⟩) | h
  · exact .inl (.inl (e _ _ h))
  · exact .inl (.inr ⟨o, e _ _ h⟩)
  · exact .inr h
theorem same_rd {H H' : Hp} {a : Addr} {u : HO} (e : Same H H') (h : Rd H a u) : Rd H' a u := by
  rcases h with h | ⟨o, h⟩
  · exact .inl (e _ _ h)
  · exact .inr ⟨o, e _ _ h⟩
theorem same_upd {H : Hp} {p : Addr} {o : HO} (h : H p = none) : Same H (upd H p o) := fun b x e => by
  rw [upd_ne (ne_of_none e h)]
  exact e
section
variable {K : PySem.W.Frag} {G G' : Hp}
mutual
theorem At.mono (e : Same G G') : ∀ {v : V} {d : D}, At K G v d → At K G' v d
  | _, _, .non => .non
  | _, _, .bl b => .bl b
  | _, _, .int i => .int i
  | _, _, .str x => .str x
  | _, _, .ty n => .ty n
  | _, _, .ref a => .ref a
  | _, _, .tup h r => .tup (same_seqT e h) (Ats.mono e r)
  | _, _, .lst h r => .lst (e.seq h) (Ats.mono e r)
  | _, _, .ins h r => .ins (e _ _ h) (Atf.mono e r)
  | _, _, .dK h r => .dK (same_rd e h) (Atk.mono e r)
  | _, _, .dT h r => .dT (same_rd e h) (Att.mono e r)
theorem Ats.mono (e : Same G G') : ∀ {v : List V} {d : List D}, Ats K G v d → Ats K G' v d
  | _, _, .nil => .nil
  | _, _, .cons h r => .cons (At.mono e h) (Ats.mono e r)
theorem Atf.mono (e : Same G G') : ∀ {v : List (Str × V)} {d : List (Str × D)}, Atf K G v d → Atf K G' v d
  | _, _, .nil => .nil
  | _, _, .cons h r => .cons (At.mono e h) (Atf.mono e r)
theorem Atk.mono (e : Same G G') : ∀ {v : List (Key × V)} {d : List (Key × D)}, Atk K G v d → Atk K G' v d
  | _, _, .nil => .nil
  | _, _, .cons h r => .cons (At.mono e h) (Atk.mono e r)
theorem Att.mono (e : Same G G') : ∀ {v : List (List Key × V)} {d : List (List Key × D)}, Att K G v d → Att K G' v d
  | _, _, .nil => .nil
  | _, _, .cons h r => .cons (At.mono e h) (Att.mono e r)
end
theorem Ats.length : ∀ {v : List V} {d : List D}, Ats K G v d → v.length = d.length
  | _, _, .nil => rfl
  | _, _, .cons _ r => by rw [List.length_cons, List.length_cons, Ats.length r]
theorem Ats.append : ∀ {v v' : List V} {d d' : List D}, Ats K G v d → Ats K G v' d' → Ats K G (v ++ v') (d ++ d')
  | _, _, _, _, .nil, r => r
  | _, _, _, _, .cons h t, r => .cons h (Ats.append t r)
theorem Ats.get : ∀ {v : List V} {d : List D} {i : Nat} {x : D}, Ats K G v d → d[i]? = some x → ∃ y, v[i]? = some y ∧ At K G y x
  | _, _, _, _, .nil, e => by simp at e
  | _, _, 0, _, .cons h _, e => by simp at e; subst e; exact ⟨_, rfl, h⟩
  | _, _, i + 1, x, .cons _ t, e => by
    obtain ⟨u, h1, h2⟩ := Ats.get (i := i) (x := x) t (by simpa using e)
    exact ⟨u, by simpa using h1, h2⟩
theorem Ats.get' : ∀ {v : List V} {d : List D} {i : Nat} {y : V}, Ats K G v d → v[i]? = some y → ∃ x, d[i]? = some x ∧ At K G y x
  | _, _, _, _, .nil, e => by simp at e
  | _, _, 0, _, .cons h _, e => by simp at e; subst e; exact ⟨_, rfl, h⟩
  | _, _, i + 1, x, .cons _ t, e => by
    obtain ⟨u, h1, h2⟩ := Ats.get' (i := i) (y := x) t (by simpa using e)
    exact ⟨u, by simpa using h1, h2⟩
theorem Ats.take : ∀ {v : List V} {d : List D} (n : Nat), Ats K G v d → Ats K G (v.take n) (d.take n)
  | _, _, 0, _ => .nil
  | _, _, _ + 1, .nil => .nil
  | _, _, n + 1, .cons h t => .cons h (Ats.take n t)
theorem Ats.drop : ∀ {v : List V} {d : List D} (n : Nat), Ats K G v d → Ats K G (v.drop n) (d.drop n)
  | _, _, 0, r => r
  | _, _, _ + 1, .nil => .nil
  | _, _, n + 1, .cons _ t => Ats.drop n t
theorem Ats.set {x : V} {y : D} (h : At K G x y) : ∀ {v : List V} {d : List D} (n : Nat), Ats K G v d → Ats K G (v.set n x) (d.set n y)
  | _, _, _, .nil => .nil
  | _, _, 0, .cons _ t => .cons h t
  | _, _, n + 1, .cons q t => .cons q (Ats.set h n t)
theorem Atf.length : ∀ {v : List (Str × V)} {d : List (Str × D)}, Atf K G v d → v.length = d.length
  | _, _, .nil => rfl
  | _, _, .cons _ r => by rw [List.length_cons, List.length_cons, Atf.length r]
theorem Atf.look : ∀ {v : List (Str × V)} {d : List (Str × D)} {f : Str} {x : D}, Atf K G v d → d.lookup f = some x → ∃ y, v.lookup f = some y ∧ At K G y x
  | _, _, _, _, .nil, e => by simp at e
  | _, _, f, x, .cons (f := g) h t, e => by
    rw [List.lookup_cons] at e ⊢
    split at e
    · cases e; exact ⟨_, rfl, h⟩
    · exact Atf.look t e
theorem Atf.look_none : ∀ {v : List (Str × V)} {d : List (Str × D)} {f : Str}, Atf K G v d → d.lookup f = none → v.lookup f = none
  | _, _, _, .nil, _ => rfl
  | _, _, f, .cons (f := g) h t, e => by
    rw [List.lookup_cons] at e ⊢
    split at e
    · cases e
    · exact Atf.look_none t e
def putD (f : Str) (v : D) : List (Str × D) → List (Str × D)
  | [] => [(f, v)]
  | (g, w) :: r => if g = f then (f, v) :: r else (g, w) :: putD f v r
end
end Dl
namespace Dl
open PySem L2
/-! ### the store: what may change; the known part G of the heap H: what stays -/
def MAt (K : PySem.W.Frag) (G H : Hp) (a : Addr) : MO → Prop
  | .lst xs => ∃ vs, H a = some (.lst vs) ∧ Ats K G vs xs
  | .ins C fs => ∃ dx vs, H a = some (.ins C dx vs) ∧ Atf K G vs fs
  | .dK kvs => ∃ vs, H a = some (.dK vs) ∧ Atk K G vs kvs
  | .dT kvs => ∃ vs, H a = some (.dT vs) ∧ Att K G vs kvs
structure Hold (K : PySem.W.Frag) (H G F : Hp) (μ : Mu) : Prop where
  sub : Same G H
  fr : Same F H
  dis : ∀ a o, F a = some o → G a = none ∧ μ a = none
  mu : ∀ a o, μ a = some o → G a = none ∧ MAt K G H a o
abbrev SD := List (Option D)
structure Slots (K : PySem.W.Frag) (G : Hp) (σ : St) (ρ : SD) : Prop where
  len : σ.length = ρ.length
  at_ : ∀ (i : Nat) (d : D), ρ[i]? = some (some d) → ∃ v, σ[i]? = some (some v) ∧ At K G v d
abbrev KD := D → Mu → Prop
abbrev TED := SD → Mu → KD → Prop
abbrev TTD := SD → Mu → (Bool → Mu → Prop) → Prop
abbrev TAD := SD → Mu → (List D → Mu → Prop) → Prop
structure EndsD where
  nx : SD → Mu → Prop
  rt : KD
  bk : SD → Mu → Prop := fun _ _ => False
  ct : SD → Mu → Prop := fun _ _ => False
abbrev TSD := EndsD → SD → Mu → Prop
section
variable {K : PySem.W.Frag} {G G' H H' F : Hp} {μ : Mu} {σ : St} {ρ : SD}
theorem MAt.mono (e : Same G G') {a : Addr} {o : MO} (h : MAt K G H a o) : MAt K G' H a o := by
  cases o with
  | lst xs => obtain ⟨vs, h1, h2⟩ := h; exact ⟨vs, h1, h2.mono e⟩
  | ins C fs => obtain ⟨dx, vs, h1, h2⟩ := h; exact ⟨dx, vs, h1, h2.mono e⟩
  | dK kvs => obtain ⟨vs, h1, h2⟩ := h; exact ⟨vs, h1, h2.mono e⟩
  | dT kvs => obtain ⟨vs, h1, h2⟩ := h; exact ⟨vs, h1, h2.mono e⟩
theorem MAt.to {a : Addr} {o : MO} (h : MAt K G H a o) (e : H' a = H a) : MAt K G H' a o := by
  cases o with
  | lst xs => obtain ⟨vs, h1, h2⟩ := h; exact ⟨vs, e.trans h1, h2⟩
  | ins C fs => obtain ⟨dx, vs, h1, h2⟩ := h; exact ⟨dx, vs, e.trans h1, h2⟩
  | dK kvs => obtain ⟨vs, h1, h2⟩ := h; exact ⟨vs, e.trans h1, h2⟩
  | dT kvs => obtain ⟨vs, h1, h2⟩ := h; exact ⟨vs, e.trans h1, h2⟩
theorem MAt.there {a : Addr} {o : MO} (h : MAt K G H a o) : ∃ u, H a = some u := by
  cases o with
  | lst xs => obtain ⟨vs, h1, _⟩ := h; exact ⟨_, h1⟩
  | ins C fs => obtain ⟨dx, vs, h1, _⟩ := h; exact ⟨_, h1⟩
  | dK kvs => obtain ⟨vs, h1, _⟩ := h; exact ⟨_, h1⟩
  | dT kvs => obtain ⟨vs, h1, _⟩ := h; exact ⟨_, h1⟩
theorem Slots.mono (e : Same G G') (s : Slots K G σ ρ) : Slots K G' σ ρ := ⟨s.len, fun i d q => by
  obtain ⟨v, h1, h2⟩ := s.at_ i d q
  exact ⟨v, h1, h2.mono e⟩⟩
theorem Slots.set {v : V} {d : D} (s : Slots K G σ ρ) (i : Nat) (h : At K G v d) : Slots K G (σ.set i (some v)) (ρ.set i (some d)) := by
  refine ⟨by rw [List.length_set, List.length_set, s.len], fun j x q => ?_⟩
  by_cases hj : i = j
  · subst hj
    by_cases hi : i < ρ.length
    · rw [List.getElem?_set_self hi] at q
      cases q
      exact ⟨v, List.getElem?_set_self (by rw [s.len]; exact hi), h⟩
    · rw [List.getElem?_eq_none (by rw [List.length_set]; omega)] at q
      cases q
  · rw [List.getElem?_set_ne hj] at q ⊢
    exact s.at_ j x q
theorem Slots.wipe (s : Slots K G σ ρ) (i : Nat) (o : Option V) : Slots K G (σ.set i o) (ρ.set i none) := by
  refine ⟨by rw [List.length_set, List.length_set, s.len], fun j x q => ?_⟩
  by_cases hj : i = j
  · subst hj
    by_cases hi : i < ρ.length
    · rw [List.getElem?_set_self hi] at q
      cases q
    · rw [List.getElem?_eq_none (by rw [List.length_set]; omega)] at q
      cases q
  · rw [List.getElem?_set_ne hj] at q ⊢
    exact s.at_ j x q
theorem Hold.mu_none (h : Hold K H G F μ) {p : Addr} (n : H p = none) : μ p = none := by
  cases q : μ p with
  | none => rfl
  | some o =>
    obtain ⟨u, e⟩ := (h.mu p o q).2.there
    rw [n] at e; cases e
theorem Hold.g_none (h : Hold K H G F μ) {p : Addr} (n : H p = none) : G p = none := h.sub.free n
theorem Hold.f_none (h : Hold K H G F μ) {p : Addr} (n : H p = none) : F p = none := h.fr.free n
theorem Hold.f_mu (h : Hold K H G F μ) {p : Addr} {o : MO} (n : μ p = some o) : F p = none := by
  cases q : F p with
  | none => rfl
  | some u => rw [(h.dis p u q).2] at n; cases n
/-- a new thing that stays -/
theorem Hold.new (h : Hold K H G F μ) {p : Addr} (n : H p = none) (o : HO) : Hold K (upd H p o) (upd G p o) F μ := by
  refine ⟨fun b x e => ?_, fun b x e => by rw [upd_ne (ne_of_none e (h.f_none n))]; exact h.fr b x e, fun b x e => ⟨by rw [upd_ne (ne_of_none e (h.f_none n))]; exact (h.dis b x e).1, (h.dis b x e).2⟩, fun a u q => ?_⟩
  · by_cases hb : b = p
    · subst hb; rw [upd_same] at e ⊢; exact e
    · rw [upd_ne hb] at e ⊢; exact h.sub b x e
  · have hap : a ≠ p := fun z => by rw [z, h.mu_none n] at q; cases q
    obtain ⟨h1, h2⟩ := h.mu a u q
    exact ⟨by rw [upd_ne hap]; exact h1, (h2.to (upd_ne hap)).mono (same_upd (h.g_none n))⟩
/-- what H gets besides does not matter -/
theorem Hold.junk (h : Hold K H G F μ) {p : Addr} (n : H p = none) (o : HO) : Hold K (upd H p o) G F μ := by
  refine ⟨fun b x e => by rw [upd_ne (ne_of_none (h.sub b x e) n)]; exact h.sub b x e, fun b x e => by rw [upd_ne (ne_of_none e (h.f_none n))]; exact h.fr b x e, h.dis, fun a u q => ?_⟩
  have hap : a ≠ p := fun z => by rw [z, h.mu_none n] at q; cases q
  obtain ⟨h1, h2⟩ := h.mu a u q
  exact ⟨h1, h2.to (upd_ne hap)⟩
/-- a new thing that may change -/
theorem Hold.newM (h : Hold K H G F μ) {p : Addr} (n : H p = none) {o : HO} {m : MO} (hm : MAt K G (upd H p o) p m) : Hold K (upd H p o) G F (mput μ p m) := by
  have j := h.junk n o
  refine ⟨j.sub, j.fr, fun b x e => ⟨(h.dis b x e).1, by rw [mput_ne (ne_of_none e (h.f_none n))]; exact (h.dis b x e).2⟩, fun a u q => ?_⟩
  by_cases hap : a = p
  · subst hap
    rw [mput_same] at q; cases q
    exact ⟨h.g_none n, hm⟩
  · rw [mput_ne hap] at q
    exact j.mu a u q
/-- a thing of the store is changed -/
theorem Hold.write (h : Hold K H G F μ) {p : Addr} {m0 : MO} (e : μ p = some m0) {o : HO} {m : MO} (hm : MAt K G (upd H p o) p m) : Hold K (upd H p o) G F (mput μ p m) := by
  obtain ⟨g, t⟩ := h.mu p m0 e
  have nf := h.f_mu e
  refine ⟨fun b x q => ?_, fun b x q => by rw [upd_ne (ne_of_none q nf)]; exact h.fr b x q, fun b x q => ⟨(h.dis b x q).1, by rw [mput_ne (ne_of_none q nf)]; exact (h.dis b x q).2⟩, fun a u q => ?_⟩
  · rw [upd_ne (ne_of_none q g)]; exact h.sub b x q
  · by_cases hap : a = p
    · subst hap
      rw [mput_same] at q; cases q
      exact ⟨g, hm⟩
    · rw [mput_ne hap] at q
      obtain ⟨h1, h2⟩ := h.mu a u q
      exact ⟨h1, h2.to (upd_ne hap)⟩
/-- a thing of the store is from now on one that stays -/
theorem Hold.freeze (h : Hold K H G F μ) {p : Addr} {m0 : MO} (e : μ p = some m0) {o : HO} (ho : H p = some o) : Hold K H (upd G p o) F (mdel μ p) ∧ Same G (upd G p o) := by
  obtain ⟨g, t⟩ := h.mu p m0 e
  have nf := h.f_mu e
  have sm : Same G (upd G p o) := same_upd g
  refine ⟨⟨fun b x q => ?_, h.fr, fun b x q => ⟨by rw [upd_ne (ne_of_none q nf)]; exact (h.dis b x q).1, by rw [mdel_ne (ne_of_none q nf)]; exact (h.dis b x q).2⟩, fun a u q => ?_⟩, sm⟩
  · by_cases hb : b = p
    · subst hb; rw [upd_same] at q; rw [ho]; exact q
    · rw [upd_ne hb] at q; exact h.sub b x q
  · by_cases hap : a = p
    · subst hap; rw [mdel_same] at q; cases q
    · rw [mdel_ne hap] at q
      obtain ⟨h1, h2⟩ := h.mu a u q
      exact ⟨by rw [upd_ne hap]; exact h1, h2.mono sm⟩
/-- the store may forget -/
theorem Hold.forget (h : Hold K H G F μ) {μ' : Mu} (s : ∀ a o, μ' a = some o → μ a = some o) : Hold K H G F μ' := ⟨h.sub, h.fr, fun a o q => ⟨(h.dis a o q).1, by
  cases z : μ' a with
  | none => rfl
  | some u => exact absurd (h.dis a o q).2 (by rw [s a u z]; simp)⟩, fun a o q => h.mu a o (s a o q)⟩
/-- a new thing of the frame -/
theorem Hold.newF (h : Hold K H G F μ) {p : Addr} (n : H p = none) (o : HO) : Hold K (upd H p o) G (upd F p o) μ := by
  have j := h.junk n o
  refine ⟨j.sub, fun b x e => ?_, fun b x e => ?_, j.mu⟩
  · by_cases hb : b = p
    · subst hb; rw [upd_same] at e ⊢; exact e
    · rw [upd_ne hb] at e ⊢; exact h.fr b x e
  · by_cases hb : b = p
    · subst hb; exact ⟨h.g_none n, h.mu_none n⟩
    · rw [upd_ne hb] at e; exact h.dis b x e
/-- a thing of the frame is changed -/
theorem Hold.writeF (h : Hold K H G F μ) {p : Addr} {u : HO} (e : F p = some u) (o : HO) : Hold K (upd H p o) G (upd F p o) μ := by
  obtain ⟨g, m⟩ := h.dis p u e
  refine ⟨fun b x q => by rw [upd_ne (ne_of_none q g)]; exact h.sub b x q, fun b x q => ?_, fun b x q => ?_, fun a y q => ?_⟩
  · by_cases hb : b = p
    · subst hb; rw [upd_same] at q ⊢; exact q
    · rw [upd_ne hb] at q ⊢; exact h.fr b x q
  · by_cases hb : b = p
    · subst hb; exact ⟨g, m⟩
    · rw [upd_ne hb] at q; exact h.dis b x q
  · have hap : a ≠ p := fun z => by rw [z, m] at q; cases q
    obtain ⟨h1, h2⟩ := h.mu a y q
    exact ⟨h1, h2.to (upd_ne hap)⟩
/-- a thing of the frame is from now on one that stays; the frame is the one from before it -/
theorem Hold.freezeF (h : Hold K H G F μ) {F0 : Hp} {p : Addr} {o : HO} (e : F p = some o) (n : F0 p = none) (s : ∀ b x, F0 b = some x → F b = some x) : Hold K H (upd G p o) F0 μ ∧ Same G (upd G p o) := by
  obtain ⟨g, m⟩ := h.dis p o e
  have sm : Same G (upd G p o) := same_upd g
  refine ⟨⟨fun b x q => ?_, fun b x q => h.fr b x (s b x q), fun b x q => ?_, fun a y q => ?_⟩, sm⟩
  · by_cases hb : b = p
    · subst hb; rw [upd_same] at q; rw [h.fr b o e]; exact q
    · rw [upd_ne hb] at q; exact h.sub b x q
  · obtain ⟨d1, d2⟩ := h.dis b x (s b x q)
    exact ⟨by rw [upd_ne (ne_of_none q n)]; exact d1, d2⟩
  · have hap : a ≠ p := fun z => by rw [z, m] at q; cases q
    obtain ⟨h1, h2⟩ := h.mu a y q
    exact ⟨by rw [upd_ne hap]; exact h1, h2.mono sm⟩
end
/-! ### lifted readings. B: what was known at the def's entry, the frame -/
structure Bs where
  g : Hp
  f : Hp
def lE (K : PySem.W.Frag) (B : Bs) (t : TED) : TE := fun σ H Q => ∃ (G : Hp) (ρ : SD) (μ : Mu) (k : KD), Same B.g G ∧ Hold K H G B.f μ ∧ Slots K G σ ρ ∧ t ρ μ k ∧
  ∀ v H' G' d μ', Same G G' → Hold K H' G' B.f μ' → At K G' v d → k d μ' → Q v H'
def lT (K : PySem.W.Frag) (B : Bs) (t : TTD) : TT := fun σ H Q => ∃ (G : Hp) (ρ : SD) (μ : Mu) (k : Bool → Mu → Prop), Same B.g G ∧ Hold K H G B.f μ ∧ Slots K G σ ρ ∧ t ρ μ k ∧
  ∀ b H' G' μ', Same G G' → Hold K H' G' B.f μ' → k b μ' → Q b H'
def lA (K : PySem.W.Frag) (B : Bs) (t : TAD) : TA := fun σ H Q => ∃ (G : Hp) (ρ : SD) (μ : Mu) (k : List D → Mu → Prop), Same B.g G ∧ Hold K H G B.f μ ∧ Slots K G σ ρ ∧ t ρ μ k ∧
  ∀ vs H' G' ds μ', Same G G' → Hold K H' G' B.f μ' → Ats K G' vs ds → k ds μ' → Q vs H'
def lS (K : PySem.W.Frag) (B : Bs) (t : TSD) : TS := fun D σ H => ∃ (G : Hp) (ρ : SD) (μ : Mu) (E : EndsD), Same B.g G ∧ Hold K H G B.f μ ∧ Slots K G σ ρ ∧ t E ρ μ ∧
  (∀ σ' H' G' ρ' μ', Same G G' → Hold K H' G' B.f μ' → Slots K G' σ' ρ' → E.nx ρ' μ' → D.nx σ' H') ∧
  (∀ v H' G' d μ', Same G G' → Hold K H' G' B.f μ' → At K G' v d → E.rt d μ' → D.rt v H') ∧
  (∀ σ' H' G' ρ' μ', Same G G' → Hold K H' G' B.f μ' → Slots K G' σ' ρ' → E.bk ρ' μ' → D.bk σ' H') ∧
  (∀ σ' H' G' ρ' μ', Same G G' → Hold K H' G' B.f μ' → Slots K G' σ' ρ' → E.ct ρ' μ' → D.ct σ' H')
abbrev R2D := D → D → Mu → KD → Prop
abbrev R1D := D → Mu → KD → Prop
abbrev RAD := List D → Mu → KD → Prop
def l2 (K : PySem.W.Frag) (B : Bs) (r : R2D) : R2 := fun x y H Q => ∃ (G : Hp) (μ : Mu) (dx dy : D) (k : KD), Same B.g G ∧ Hold K H G B.f μ ∧ At K G x dx ∧ At K G y dy ∧ r dx dy μ k ∧
  ∀ v H' G' d μ', Same G G' → Hold K H' G' B.f μ' → At K G' v d → k d μ' → Q v H'
def l1 (K : PySem.W.Frag) (B : Bs) (r : R1D) : V → Hp → VK → Prop := fun x H Q => ∃ (G : Hp) (μ : Mu) (dx : D) (k : KD), Same B.g G ∧ Hold K H G B.f μ ∧ At K G x dx ∧ r dx μ k ∧
  ∀ v H' G' d μ', Same G G' → Hold K H' G' B.f μ' → At K G' v d → k d μ' → Q v H'
def lN (K : PySem.W.Frag) (B : Bs) (r : RAD) : List V → Hp → VK → Prop := fun xs H Q => ∃ (G : Hp) (μ : Mu) (ds : List D) (k : KD), Same B.g G ∧ Hold K H G B.f μ ∧ Ats K G xs ds ∧ r ds μ k ∧
  ∀ v H' G' d μ', Same G G' → Hold K H' G' B.f μ' → At K G' v d → k d μ' → Q v H'
abbrev PD (X : Cx) (B : Bs) (e : Expr) (t : TED) : Prop := PE X e (lE X.K B t)
abbrev PDT (X : Cx) (B : Bs) (e : Expr) (t : TTD) : Prop := PT X e (lT X.K B t)
abbrev PDW (X : Cx) (B : Bs) (e : Expr) (t : TTD) : Prop := PW X e (lT X.K B t)
abbrev PDA (X : Cx) (B : Bs) (es : List Expr) (t : TAD) : Prop := PA X es (lA X.K B t)
abbrev PDS (X : Cx) (B : Bs) (s : Stmt) (t : TSD) : Prop := PS X s (lS X.K B t)
abbrev PDB (X : Cx) (B : Bs) (s : List Stmt) (t : TSD) : Prop := PSs X s (lS X.K B t)
abbrev OpD (X : Cx) (B : Bs) (f : Value → Value → Sem Value) (r : R2D) : Prop := OpR X f (l2 X.K B r)
abbrev UnD (X : Cx) (B : Bs) (f : Value → Sem Value) (r : R1D) : Prop := UnR X f (l1 X.K B r)
abbrev CallD (X : Cx) (B : Bs) (f : Value) (r : RAD) : Prop := CallR X f (lN X.K B r)
section
variable {X : Cx} {B : Bs}
theorem imE {e : Expr} {t t' : TE} (h : PE X e t) (i : ∀ σ H Q, t' σ H Q → t σ H Q) : PE X e t' := ⟨fun pins s σ H Q I q => h.run pins s σ H Q I (i _ _ _ q)⟩
theorem imT {e : Expr} {t t' : TT} (h : PT X e t) (i : ∀ σ H Q, t' σ H Q → t σ H Q) : PT X e t' := ⟨fun pins s σ H Q I q => h.run pins s σ H Q I (i _ _ _ q)⟩
theorem imW {e : Expr} {t t' : TT} (h : PW X e t) (i : ∀ σ H Q, t' σ H Q → t σ H Q) : PW X e t' := ⟨fun wh pins s σ H Q I q => h.run wh pins s σ H Q I (i _ _ _ q)⟩
theorem imA {e : List Expr} {t t' : TA} (h : PA X e t) (i : ∀ σ H Q, t' σ H Q → t σ H Q) : PA X e t' := ⟨fun p pins s σ H Q I q => h.run p pins s σ H Q I (i _ _ _ q)⟩
theorem imS {e : Stmt} {t t' : TS} (h : PS X e t) (i : ∀ σ H Q, t' σ H Q → t σ H Q) : PS X e t' := ⟨fun pins s σ H D I q => h.run pins s σ H D I (i _ _ _ q)⟩
theorem imB {e : List Stmt} {t t' : TS} (h : PSs X e t) (i : ∀ σ H Q, t' σ H Q → t σ H Q) : PSs X e t' := ⟨fun pins s σ H D I q => h.run pins s σ H D I (i _ _ _ q)⟩
theorem imO {f : Value → Value → Sem Value} {r r' : R2} (h : OpR X f r) (i : ∀ x y H Q, r' x y H Q → r x y H Q) : OpR X f r' := fun pins s σ H x y v u Q I rx ry q => h pins s σ H x y v u Q I rx ry (i _ _ _ _ q)
theorem imU {f : Value → Sem Value} {r r' : V → Hp → VK → Prop} (h : UnR X f r) (i : ∀ x H Q, r' x H Q → r x H Q) : UnR X f r' := fun pins s σ H x v Q I rx q => h pins s σ H x v Q I rx (i _ _ _ q)
theorem imC {f : Value} {r r' : List V → Hp → VK → Prop} (h : CallR X f r) (i : ∀ x H Q, r' x H Q → r x H Q) : CallR X f r' := fun pins s σ H x v Q I rx q => h pins s σ H x v Q I rx (i _ _ _ q)
/-- one of two rules -/
theorem orO {f : Value → Value → Sem Value} {r r' : R2} (h : OpR X f r) (h' : OpR X f r') : OpR X f (fun x y H Q => r x y H Q ∨ r' x y H Q) := fun pins s σ H x y v u Q I rx ry q => by
  rcases q with q | q
  · exact h pins s σ H x y v u Q I rx ry q
  · exact h' pins s σ H x y v u Q I rx ry q
theorem orC {f : Value} {r r' : List V → Hp → VK → Prop} (h : CallR X f r) (h' : CallR X f r') : CallR X f (fun x H Q => r x H Q ∨ r' x H Q) := fun pins s σ H x v Q I rx q => by
  rcases q with q | q
  · exact h pins s σ H x v Q I rx q
  · exact h' pins s σ H x v Q I rx q
/-! ### names, constants -/
def dVar (i : Nat) : TED := fun ρ μ k => ∃ d, ρ[i]? = some (some d) ∧ k d μ
def dC (d : D) : TED := fun _ μ k => k d μ
theorem pd_var (i : Nat) {x : Str} {pos : Pos} (hN : X.N[i]? = some x := by rfl) (hv : Vis X.env.scope x := by first | exact Or.inl rfl | exact Or.inr (Or.inl rfl) | exact Or.inr (Or.inr rfl)) (hd : (x == ("__debug__" : Str)) = false := by decide)
    (hcd : (x == ("__classdict__" : Str)) = false := by decide) : PD X B (.Name x pos) (dVar i) := imE (pe_var hN hv hd hcd) fun σ H Q ⟨G, ρ, μ, k, g0, hh, sl, ⟨d, e, q⟩, kk⟩ => by
  obtain ⟨v, h1, h2⟩ := sl.at_ i d e
  exact ⟨v, h1, kk v H G d μ (Same.refl G) hh h2 q⟩
theorem pdc {e : Expr} {v : V} {d : D} (h : PE X e (tC v)) (a : ∀ G, At X.K G v d) : PD X B e (dC d) := imE h fun σ H Q ⟨G, ρ, μ, k, g0, hh, sl, q, kk⟩ => kk v H G d μ (Same.refl G) hh (a G) q
theorem pd_int {i : Int} {j pos} : PD X B (.Constant (.int i) j pos) (dC (.int i)) := pdc pe_int fun _ => .int i
theorem pd_bl {b : Bool} {j pos} : PD X B (.Constant (.bool b) j pos) (dC (.bl b)) := pdc pe_bl fun _ => .bl b
theorem pd_non {j pos} : PD X B (.Constant .none j pos) (dC .non) := pdc pe_non fun _ => .non
theorem pd_str {x : Str} {j pos} : PD X B (.Constant (.str x) j pos) (dC (.str x)) := pdc pe_str fun _ => .str x
/-- a module's constant (an int, a text, a tuple that is written), a def, a class -/
theorem pd_glob {x : Str} {v : V} {d : D} {u : Value} {pos : Pos} (hm : X.mg x = some u) (r : RelV v u) (a : ∀ G, At X.K G v d) (hg : Gl X x := by rfl) (hd : (x == ("__debug__" : Str)) = false := by decide) : PD X B (.Name x pos) (dC d) := pdc (pe_glob hg hm r hd) a
/-! ### operators -/
def dOp (r : R2D) (ta tb : TED) : TED := fun ρ μ k => ta ρ μ fun x μ1 => tb ρ μ1 fun y μ2 => r x y μ2 k
def dUn (r : R1D) (ta : TED) : TED := fun ρ μ k => ta ρ μ fun x μ1 => r x μ1 k
theorem lOp {r : R2D} {ta tb : TED} (σ : St) (H : Hp) (Q : VK) (h : lE X.K B (dOp r ta tb) σ H Q) : tOp (l2 X.K B r) (lE X.K B ta) (lE X.K B tb) σ H Q := by
  obtain ⟨G, ρ, μ, k, g0, hh, sl, q, kk⟩ := h
  refine ⟨G, ρ, μ, _, g0, hh, sl, q, fun v H1 G1 d μ1 s1 h1 a1 q1 => ?_⟩
  refine ⟨G1, ρ, μ1, _, g0.trans s1, h1, sl.mono s1, q1, fun v2 H2 G2 d2 μ2 s2 h2 a2 q2 => ?_⟩
  exact ⟨G2, μ2, d, d2, k, (g0.trans s1).trans s2, h2, a1.mono s2, a2, q2, fun v3 H3 G3 d3 μ3 s3 => kk v3 H3 G3 d3 μ3 ((s1.trans s2).trans s3)⟩
theorem pd_op {a b : Expr} {op : Operator} {r : R2D} {ta tb : TED} {pos : Pos} (ho : OpD X B (binaryOp op) r) (ha : PD X B a ta) (hb : PD X B b tb) : PD X B (.BinOp a op b pos) (dOp r ta tb) := imE (pe_op ho ha hb) lOp
theorem pd_cmp {a b : Expr} {op : CmpOp} {r : R2D} {ta tb : TED} {pos : Pos} (ho : OpD X B (compareOp op) r) (ha : PD X B a ta) (hb : PD X B b tb) (hm : behindInMarks op b = false) : PD X B (.Compare a [op] [b] pos) (dOp r ta tb) := imE (pe_cmpR ho ha hb hm) lOp
theorem pd_un {a : Expr} {op : UnaryOp} {r : R1D} {ta : TED} {pos : Pos} (ho : UnD X B (unaryOp op) r) (ha : PD X B a ta) : PD X B (.UnaryOp op a pos) (dUn r ta) := imE (pe_un ho ha) fun σ H Q h => by
  obtain ⟨G, ρ, μ, k, g0, hh, sl, q, kk⟩ := h
  refine ⟨G, ρ, μ, _, g0, hh, sl, q, fun v H1 G1 d μ1 s1 h1 a1 q1 => ?_⟩
  exact ⟨G1, μ1, d, k, g0.trans s1, h1, a1, q1, fun v3 H3 G3 d3 μ3 s3 => kk v3 H3 G3 d3 μ3 (s1.trans s3)⟩
/-- a test by a value that is True or False -/
def dTest (t : TED) : TTD := fun ρ μ k => t ρ μ fun x μ1 => ∃ b, x = .bl b ∧ k b μ1
theorem At.bl_inv {K : PySem.W.Frag} {G : Hp} {v : V} {b : Bool} (h : At K G v (.bl b)) : v = .bl b := by cases h; rfl
theorem At.int_inv {K : PySem.W.Frag} {G : Hp} {v : V} {b : Int} (h : At K G v (.int b)) : v = .int b := by cases h; rfl
theorem At.str_inv {K : PySem.W.Frag} {G : Hp} {v : V} {b : Str} (h : At K G v (.str b)) : v = .str b := by cases h; rfl
theorem At.non_inv {K : PySem.W.Frag} {G : Hp} {v : V} (h : At K G v .non) : v = .non := by cases h; rfl
theorem lTest {t : TED} (σ : St) (H : Hp) (Q : Bool → Hp → Prop) (h : lT X.K B (dTest t) σ H Q) : tTest (lE X.K B t) σ H Q := by
  obtain ⟨G, ρ, μ, k, g0, hh, sl, q, kk⟩ := h
  refine ⟨G, ρ, μ, _, g0, hh, sl, q, fun v H1 G1 d μ1 s1 h1 a1 q1 => ?_⟩
  obtain ⟨b, rfl, q1⟩ := q1
  exact ⟨b, a1.bl_inv, kk b H1 G1 μ1 s1 h1 q1⟩
theorem pdt_val {e : Expr} {t : TED} (h : PD X B e t) (he : ∀ whole, isTrue e X.env whole = (do let v ← whole; standAt e.pos; holding [v] (truthy v)) := by intro _; rfl) : PDT X B e (dTest t) := imT (pt_val h he) lTest
theorem pdt_cmp {a b : Expr} {op : CmpOp} {r : R2D} {ta tb : TED} {pos : Pos} (ho : OpD X B (compareOp op) r) (ha : PD X B a ta) (hb : PD X B b tb) (hm : behindInMarks op b = false) : PDT X B (.Compare a [op] [b] pos) (dTest (dOp r ta tb)) :=
  imT (pt_cmpR ho ha hb hm) fun σ H Q h => by
    have q := lTest (X := X) σ H Q h
    exact lOp σ H _ q
end
end Dl
namespace Dl
open PySem L2
section
variable {X : Cx} {B : Bs}
/-! ### arguments, displays -/
def dNil : TAD := fun _ μ k => k [] μ
def dCons (t : TED) (u : TAD) : TAD := fun ρ μ k => t ρ μ fun x μ1 => u ρ μ1 fun xs μ2 => k (x :: xs) μ2
theorem pda_nil : PDA X B [] dNil := imA pa_nil fun σ H Q ⟨G, ρ, μ, k, g0, hh, sl, q, kk⟩ => kk [] H G [] μ (Same.refl G) hh .nil q
theorem pda_cons {e : Expr} {es : List Expr} {t : TED} {u : TAD} (he : PD X B e t) (hr : PDA X B es u) (hs : starEach (e :: es) X.env = (false, eval e X.env) :: starEach es X.env := by rfl) : PDA X B (e :: es) (dCons t u) :=
  imA (pa_cons he hr hs) fun σ H Q ⟨G, ρ, μ, k, g0, hh, sl, q, kk⟩ => by
    refine ⟨G, ρ, μ, _, g0, hh, sl, q, fun v H1 G1 d μ1 s1 h1 a1 q1 => ?_⟩
    refine ⟨G1, ρ, μ1, _, g0.trans s1, h1, sl.mono s1, q1, fun vs H2 G2 ds μ2 s2 h2 a2 q2 => ?_⟩
    exact kk _ H2 G2 _ μ2 (s1.trans s2) h2 (.cons (a1.mono s2) a2) q2
def dTup (t : TAD) : TED := fun ρ μ k => t ρ μ fun xs μ1 => xs.length ≤ 100000 ∧ k (.tup xs) μ1
def dLst (t : TAD) : TED := fun ρ μ k => t ρ μ fun xs μ1 => xs.length ≤ 100000 ∧ k (.lst xs) μ1
/-- a list that may change -/
def dLstM (t : TAD) : TED := fun ρ μ k => t ρ μ fun xs μ1 => xs.length ≤ 100000 ∧ ∀ p, μ1 p = none → k (.ref p) (mput μ1 p (.lst xs))
theorem line_of {n : Nat} (h : n ≤ 100000) : n ≤ sizeLine := Nat.le_trans h (by decide)
theorem line_lt {n : Nat} (h : n ≤ 100000) : n < sizeLine := Nat.lt_of_le_of_lt h (by decide)
theorem pd_tup {es : List Expr} {t : TAD} {x1 pos} (h : PDA X B es t) : PD X B (.Tuple es x1 pos) (dTup t) := imE (pe_tup h) fun σ H Q ⟨G, ρ, μ, k, g0, hh, sl, q, kk⟩ => by
  refine ⟨G, ρ, μ, _, g0, hh, sl, q, fun vs H1 G1 ds μ1 s1 h1 a1 q1 => ⟨by rw [a1.length]; exact line_of q1.1, fun p np => ?_⟩⟩
  have gn := h1.g_none np
  exact kk _ _ (upd G1 p (.tup vs)) _ μ1 (s1.trans (same_upd gn)) (h1.new np _) (.tup (SqT.of upd_same) (a1.mono (same_upd gn))) q1.2
theorem pd_lst {es : List Expr} {t : TAD} {pos} (h : PDA X B es t) : PD X B (.List es pos) (dLst t) := imE (pe_lst h) fun σ H Q ⟨G, ρ, μ, k, g0, hh, sl, q, kk⟩ => by
  refine ⟨G, ρ, μ, _, g0, hh, sl, q, fun vs H1 G1 ds μ1 s1 h1 a1 q1 => ⟨by rw [a1.length]; exact line_of q1.1, fun p np => ?_⟩⟩
  have gn := h1.g_none np
  exact kk _ _ (upd G1 p (.lst vs)) _ μ1 (s1.trans (same_upd gn)) (h1.new np _) (.lst (SqL.of upd_same) (a1.mono (same_upd gn))) q1.2
theorem pd_lstM {es : List Expr} {t : TAD} {pos} (h : PDA X B es t) : PD X B (.List es pos) (dLstM t) := imE (pe_lst h) fun σ H Q ⟨G, ρ, μ, k, g0, hh, sl, q, kk⟩ => by
  refine ⟨G, ρ, μ, _, g0, hh, sl, q, fun vs H1 G1 ds μ1 s1 h1 a1 q1 => ⟨by rw [a1.length]; exact line_of q1.1, fun p np => ?_⟩⟩
  exact kk _ _ G1 _ _ s1 (h1.newM (m := .lst ds) np ⟨vs, upd_same, a1⟩) (.ref p) (q1.2 p (h1.mu_none np))
/-! ### and, or, not, if else -/
def dAndV (ta tb : TED) : TED := fun ρ μ k => ta ρ μ fun x μ1 => ∃ c, x = .bl c ∧ if c = true then tb ρ μ1 k else k (.bl false) μ1
def dOrV (ta tb : TED) : TED := fun ρ μ k => ta ρ μ fun x μ1 => ∃ c, x = .bl c ∧ if c = true then k (.bl true) μ1 else tb ρ μ1 k
def dNotV (ta : TED) : TED := fun ρ μ k => ta ρ μ fun x μ1 => ∃ c, x = .bl c ∧ k (.bl (!c)) μ1
theorem pd_and {a b : Expr} {rest : List Expr} {ta tb : TED} {pos : Pos} (ha : PD X B a ta) (hb : PD X B (.BoolOp .And (b :: rest) pos) tb) : PD X B (.BoolOp .And (a :: b :: rest) pos) (dAndV ta tb) := imE (pe_and ha hb) fun σ H Q ⟨G, ρ, μ, k, g0, hh, sl, q, kk⟩ => by
  refine ⟨G, ρ, μ, _, g0, hh, sl, q, fun v H1 G1 d μ1 s1 h1 a1 q1 => ?_⟩
  obtain ⟨c, rfl, q1⟩ := q1
  refine ⟨c, a1.bl_inv, ?_⟩
  cases c with
  | true =>
    rw [if_pos rfl] at q1 ⊢
    exact ⟨G1, ρ, μ1, k, g0.trans s1, h1, sl.mono s1, q1, fun v3 H3 G3 d3 μ3 s3 => kk v3 H3 G3 d3 μ3 (s1.trans s3)⟩
  | false =>
    rw [if_neg Bool.false_ne_true] at q1 ⊢
    exact kk _ H1 G1 _ μ1 s1 h1 (.bl false) q1
theorem pd_or {a b : Expr} {rest : List Expr} {ta tb : TED} {pos : Pos} (ha : PD X B a ta) (hb : PD X B (.BoolOp .Or (b :: rest) pos) tb) : PD X B (.BoolOp .Or (a :: b :: rest) pos) (dOrV ta tb) := imE (pe_or ha hb) fun σ H Q ⟨G, ρ, μ, k, g0, hh, sl, q, kk⟩ => by
  refine ⟨G, ρ, μ, _, g0, hh, sl, q, fun v H1 G1 d μ1 s1 h1 a1 q1 => ?_⟩
  obtain ⟨c, rfl, q1⟩ := q1
  refine ⟨c, a1.bl_inv, ?_⟩
  cases c with
  | false =>
    rw [if_neg Bool.false_ne_true] at q1 ⊢
    exact ⟨G1, ρ, μ1, k, g0.trans s1, h1, sl.mono s1, q1, fun v3 H3 G3 d3 μ3 s3 => kk v3 H3 G3 d3 μ3 (s1.trans s3)⟩
  | true =>
    rw [if_pos rfl] at q1 ⊢
    exact kk _ H1 G1 _ μ1 s1 h1 (.bl true) q1
theorem pd_one {a : Expr} {op} {t : TED} {pos : Pos} (h : PD X B a t) : PD X B (.BoolOp op [a] pos) t := pe_one h
theorem pd_not {a : Expr} {ta : TED} {pos : Pos} (ha : PD X B a ta) : PD X B (.UnaryOp .Not a pos) (dNotV ta) := imE (pe_not ha) fun σ H Q ⟨G, ρ, μ, k, g0, hh, sl, q, kk⟩ => by
  refine ⟨G, ρ, μ, _, g0, hh, sl, q, fun v H1 G1 d μ1 s1 h1 a1 q1 => ?_⟩
  obtain ⟨c, rfl, q1⟩ := q1
  exact ⟨c, a1.bl_inv, kk _ H1 G1 _ μ1 s1 h1 (.bl (!c)) q1⟩
def dAnd (t u : TTD) : TTD := fun ρ μ k => t ρ μ fun c μ1 => if c = true then u ρ μ1 k else k false μ1
def dOr (t u : TTD) : TTD := fun ρ μ k => t ρ μ fun c μ1 => if c = true then k true μ1 else u ρ μ1 k
def dNot (t : TTD) : TTD := fun ρ μ k => t ρ μ fun c μ1 => k (!c) μ1
theorem pdw_and1 {a : Expr} {t : TTD} {pos : Pos} (ha : PDT X B a t) : PDW X B (.BoolOp .And [a] pos) t := pw_and1 ha
theorem pdw_or1 {a : Expr} {t : TTD} {pos : Pos} (ha : PDT X B a t) : PDW X B (.BoolOp .Or [a] pos) t := pw_or1 ha
theorem pdw_and {a b : Expr} {rest : List Expr} {t u : TTD} {pos : Pos} (ha : PDT X B a t) (hb : PDW X B (.BoolOp .And (b :: rest) pos) u) : PDW X B (.BoolOp .And (a :: b :: rest) pos) (dAnd t u) := imW (pw_and ha hb) fun σ H Q ⟨G, ρ, μ, k, g0, hh, sl, q, kk⟩ => by
  refine ⟨G, ρ, μ, _, g0, hh, sl, q, fun c H1 G1 μ1 s1 h1 q1 => ?_⟩
  cases c with
  | true =>
    rw [if_pos rfl] at q1 ⊢
    exact ⟨G1, ρ, μ1, k, g0.trans s1, h1, sl.mono s1, q1, fun b3 H3 G3 μ3 s3 => kk b3 H3 G3 μ3 (s1.trans s3)⟩
  | false =>
    rw [if_neg Bool.false_ne_true] at q1 ⊢
    exact kk _ H1 G1 μ1 s1 h1 q1
theorem pdw_or {a b : Expr} {rest : List Expr} {t u : TTD} {pos : Pos} (ha : PDT X B a t) (hb : PDW X B (.BoolOp .Or (b :: rest) pos) u) : PDW X B (.BoolOp .Or (a :: b :: rest) pos) (dOr t u) := imW (pw_or ha hb) fun σ H Q ⟨G, ρ, μ, k, g0, hh, sl, q, kk⟩ => by
  refine ⟨G, ρ, μ, _, g0, hh, sl, q, fun c H1 G1 μ1 s1 h1 q1 => ?_⟩
  cases c with
  | false =>
    rw [if_neg Bool.false_ne_true] at q1 ⊢
    exact ⟨G1, ρ, μ1, k, g0.trans s1, h1, sl.mono s1, q1, fun b3 H3 G3 μ3 s3 => kk b3 H3 G3 μ3 (s1.trans s3)⟩
  | true =>
    rw [if_pos rfl] at q1 ⊢
    exact kk _ H1 G1 μ1 s1 h1 q1
theorem pdt_w {e : Expr} {t : TTD} (h : PDW X B e t) : PDT X B e t := h.pt
theorem pdt_not {a : Expr} {t : TTD} {pos : Pos} (ha : PDT X B a t) : PDT X B (.UnaryOp .Not a pos) (dNot t) := imT (pt_not ha) fun σ H Q ⟨G, ρ, μ, k, g0, hh, sl, q, kk⟩ =>
  ⟨G, ρ, μ, _, g0, hh, sl, q, fun c H1 G1 μ1 s1 h1 q1 => kk _ H1 G1 μ1 s1 h1 q1⟩
def dIf (t : TTD) (ta tb : TED) : TED := fun ρ μ k => t ρ μ fun c μ1 => if c = true then ta ρ μ1 k else tb ρ μ1 k
theorem pd_if {c a b : Expr} {t : TTD} {ta tb : TED} {pos : Pos} (hc : PDT X B c t) (ha : PD X B a ta) (hb : PD X B b tb) : PD X B (.IfExp c a b pos) (dIf t ta tb) := imE (pe_ifExp hc ha hb) fun σ H Q ⟨G, ρ, μ, k, g0, hh, sl, q, kk⟩ => by
  refine ⟨G, ρ, μ, _, g0, hh, sl, q, fun c H1 G1 μ1 s1 h1 q1 => ?_⟩
  cases c with
  | true =>
    rw [if_pos rfl] at q1 ⊢
    exact ⟨G1, ρ, μ1, k, g0.trans s1, h1, sl.mono s1, q1, fun v3 H3 G3 d3 μ3 s3 => kk v3 H3 G3 d3 μ3 (s1.trans s3)⟩
  | false =>
    rw [if_neg Bool.false_ne_true] at q1 ⊢
    exact ⟨G1, ρ, μ1, k, g0.trans s1, h1, sl.mono s1, q1, fun v3 H3 G3 d3 μ3 s3 => kk v3 H3 G3 d3 μ3 (s1.trans s3)⟩
/-! ### statements -/
def dNext : TSD := fun E ρ μ => E.nx ρ μ
def dSeq (t u : TSD) : TSD := fun E ρ μ => t { E with nx := u E } ρ μ
theorem lSeq {t u : TSD} (D : Ends) (σ : St) (H : Hp) (h : lS X.K B (dSeq t u) D σ H) : tSeq (lS X.K B t) (lS X.K B u) D σ H := by
  obtain ⟨G, ρ, μ, E, g0, hh, sl, q, k1, k2, k3, k4⟩ := h
  refine ⟨G, ρ, μ, _, g0, hh, sl, q, fun σ' H' G' ρ' μ' s' h' sl' q' => ?_, k2, k3, k4⟩
  exact ⟨G', ρ', μ', E, g0.trans s', h', sl', q', fun σ2 H2 G2 ρ2 μ2 s2 => k1 σ2 H2 G2 ρ2 μ2 (s'.trans s2), fun v H2 G2 d μ2 s2 => k2 v H2 G2 d μ2 (s'.trans s2), fun σ2 H2 G2 ρ2 μ2 s2 => k3 σ2 H2 G2 ρ2 μ2 (s'.trans s2), fun σ2 H2 G2 ρ2 μ2 s2 => k4 σ2 H2 G2 ρ2 μ2 (s'.trans s2)⟩
theorem pdb_nil : PDB X B [] dNext := imB pss_nil fun D σ H ⟨G, ρ, μ, E, g0, hh, sl, q, k1, k2, k3, k4⟩ => k1 σ H G ρ μ (Same.refl G) hh sl q
theorem pdb_one {s : Stmt} {t : TSD} (h : PDS X B s t) : PDB X B [s] t := pss_one h
theorem pdb_cons {s : Stmt} {r : List Stmt} {t u : TSD} (h : PDS X B s t) (hr : PDB X B r u) : PDB X B (s :: r) (dSeq t u) := imB (pss_cons h hr) lSeq
theorem pds_pass {pos : Pos} : PDS X B (.Pass pos) dNext := imS ps_pass fun D σ H ⟨G, ρ, μ, E, g0, hh, sl, q, k1, k2, k3, k4⟩ => k1 σ H G ρ μ (Same.refl G) hh sl q
def dBreak : TSD := fun E ρ μ => E.bk ρ μ
def dCont : TSD := fun E ρ μ => E.ct ρ μ
theorem pds_break {pos : Pos} : PDS X B (.Break pos) dBreak := imS ps_break fun D σ H ⟨G, ρ, μ, E, g0, hh, sl, q, k1, k2, k3, k4⟩ => k3 σ H G ρ μ (Same.refl G) hh sl q
theorem pds_cont {pos : Pos} : PDS X B (.Continue pos) dCont := imS ps_continue fun D σ H ⟨G, ρ, μ, E, g0, hh, sl, q, k1, k2, k3, k4⟩ => k4 σ H G ρ μ (Same.refl G) hh sl q
/-- a statement that is not reached -/
def dNever : TSD := fun _ _ _ => False
theorem pds_never {s : Stmt} : PDS X B s dNever := imS (ps_never (st := s)) fun D σ H ⟨G, ρ, μ, E, g0, hh, sl, q, _⟩ => q
def dRet (t : TED) : TSD := fun E ρ μ => t ρ μ E.rt
theorem pds_ret {e : Expr} {t : TED} {pos : Pos} (he : PD X B e t) : PDS X B (.Return (some e) pos) (dRet t) := imS (ps_ret he) fun D σ H ⟨G, ρ, μ, E, g0, hh, sl, q, k1, k2, k3, k4⟩ => ⟨G, ρ, μ, _, g0, hh, sl, q, k2⟩
def dRetN : TSD := fun E _ μ => E.rt .non μ
theorem pds_retN {pos : Pos} : PDS X B (.Return none pos) dRetN := imS ps_retN fun D σ H ⟨G, ρ, μ, E, g0, hh, sl, q, k1, k2, k3, k4⟩ => k2 .non H G .non μ (Same.refl G) hh .non q
def dDrop (t : TED) : TSD := fun E ρ μ => t ρ μ fun _ μ1 => E.nx ρ μ1
theorem pds_expr {e : Expr} {t : TED} {pos : Pos} (he : PD X B e t) (hs : swapsWith e none pos.line X.env = pure false := by rfl) : PDS X B (.Expr e pos) (dDrop t) := imS (ps_expr he hs) fun D σ H ⟨G, ρ, μ, E, g0, hh, sl, q, k1, k2, k3, k4⟩ =>
  ⟨G, ρ, μ, _, g0, hh, sl, q, fun v H1 G1 d μ1 s1 h1 a1 q1 => k1 σ H1 G1 ρ μ1 s1 h1 (sl.mono s1) q1⟩
def dIfS (c : TTD) (t u : TSD) : TSD := fun E ρ μ => c ρ μ fun b μ1 => if b = true then t E ρ μ1 else u E ρ μ1
theorem lS_go {t : TSD} {G : Hp} {ρ : SD} {μ1 : Mu} {E : EndsD} {D : Ends} {σ : St} {H1 G1 : Hp} (g0 : Same B.g G) (s1 : Same G G1) (h1 : Hold X.K H1 G1 B.f μ1) (sl : Slots X.K G1 σ ρ) (q : t E ρ μ1)
    (k1 : ∀ σ' H' G' ρ' μ', Same G G' → Hold X.K H' G' B.f μ' → Slots X.K G' σ' ρ' → E.nx ρ' μ' → D.nx σ' H') (k2 : ∀ v H' G' d μ', Same G G' → Hold X.K H' G' B.f μ' → At X.K G' v d → E.rt d μ' → D.rt v H')
    (k3 : ∀ σ' H' G' ρ' μ', Same G G' → Hold X.K H' G' B.f μ' → Slots X.K G' σ' ρ' → E.bk ρ' μ' → D.bk σ' H') (k4 : ∀ σ' H' G' ρ' μ', Same G G' → Hold X.K H' G' B.f μ' → Slots X.K G' σ' ρ' → E.ct ρ' μ' → D.ct σ' H') : lS X.K B t D σ H1 :=
  ⟨G1, ρ, μ1, E, g0.trans s1, h1, sl, q, fun σ2 H2 G2 ρ2 μ2 s2 => k1 σ2 H2 G2 ρ2 μ2 (s1.trans s2), fun v H2 G2 d μ2 s2 => k2 v H2 G2 d μ2 (s1.trans s2), fun σ2 H2 G2 ρ2 μ2 s2 => k3 σ2 H2 G2 ρ2 μ2 (s1.trans s2), fun σ2 H2 G2 ρ2 μ2 s2 => k4 σ2 H2 G2 ρ2 μ2 (s1.trans s2)⟩
theorem pds_if {c : Expr} {a b : List Stmt} {tc : TTD} {t u : TSD} {pos : Pos} (hc : PDT X B c tc) (ha : PDB X B a t) (hb : PDB X B b u) : PDS X B (.If c a b pos) (dIfS tc t u) := imS (ps_if hc ha hb) fun D σ H ⟨G, ρ, μ, E, g0, hh, sl, q, k1, k2, k3, k4⟩ => by
  refine ⟨G, ρ, μ, _, g0, hh, sl, q, fun c H1 G1 μ1 s1 h1 q1 => ?_⟩
  cases c with
  | true =>
    rw [if_pos rfl] at q1 ⊢
    exact lS_go g0 s1 h1 (sl.mono s1) q1 k1 k2 k3 k4
  | false =>
    rw [if_neg Bool.false_ne_true] at q1 ⊢
    exact lS_go g0 s1 h1 (sl.mono s1) q1 k1 k2 k3 k4
end
end Dl
namespace Dl
open PySem L2
/-! ### targets: a name, a row of names -/
inductive Tg where
  | nm (i : Nat)
  | tp (l : List Nat)
def gsOf : List Nat → TGs
  | [] => gNil
  | i :: r => gCons (gName i) (gsOf r)
def Tg.g (K : PySem.W.Frag) : Tg → TG
  | .nm i => gName i
  | .tp l => gTup K l.length (gsOf l)
def setAll : List Nat → List D → SD → SD
  | i :: r, x :: xs, ρ => setAll r xs (ρ.set i (some x))
  | _, _, ρ => ρ
def Tg.d : Tg → D → SD → (SD → Prop) → Prop
  | .nm i, x, ρ, k => k (ρ.set i (some x))
  | .tp l, .tup xs, ρ, k => xs.length = l.length ∧ k (setAll l xs ρ)
  | .tp _, _, _, _ => False
def Tg.slots : Tg → List Nat
  | .nm i => [i]
  | .tp l => l
def setAllV : List Nat → List V → St → St
  | i :: r, x :: xs, σ => setAllV r xs (σ.set i (some x))
  | _, _, σ => σ
theorem gsOf_go : ∀ (l : List Nat) (vs : List V) (σ : St) (H : Hp) (Q : St → Hp → Prop), vs.length = l.length → Q (setAllV l vs σ) H → gsOf l vs σ H Q
  | [], [], σ, H, Q, _, q => ⟨rfl, q⟩
  | i :: r, v :: vs, σ, H, Q, e, q => ⟨v, vs, rfl, gsOf_go r vs _ H Q (by simpa using e) q⟩
theorem slots_all {K : PySem.W.Frag} {G : Hp} : ∀ (l : List Nat) {vs : List V} {ds : List D} {σ : St} {ρ : SD}, Ats K G vs ds → Slots K G σ ρ → Slots K G (setAllV l vs σ) (setAll l ds ρ)
  | [], _, _, _, _, _, s => by
    unfold setAllV setAll
    exact s
  | i :: r, _, _, _, _, .nil, s => by
    unfold setAllV setAll
    exact s
  | i :: r, _, _, _, _, .cons h t, s => slots_all r t (s.set i h)
theorem wipe_set {σ : St} {i : Nat} {v : Option V} : ∀ {vs : List Nat}, i ∈ vs → wipe (σ.set i v) vs = wipe σ vs
  | j :: vs, h => by
    show (wipe (σ.set i v) vs).set j none = (wipe σ vs).set j none
    by_cases hm : i ∈ vs
    · rw [wipe_set hm]
    · have e : i = j := by
        rcases List.mem_cons.mp h with e | e
        · exact e
        · exact absurd e hm
      subst e
      have key : ∀ (ws : List Nat), i ∉ ws → wipe (σ.set i v) ws = (wipe σ ws).set i v := by
        intro ws
        induction ws with
        | nil => intro _; rfl
        | cons a r ih =>
          intro hn
          show (wipe (σ.set i v) r).set a none = ((wipe σ r).set a none).set i v
          rw [ih (fun z => hn (List.mem_cons_of_mem _ z)), List.set_comm]
          intro z; subst z; exact hn List.mem_cons_self
      rw [key vs hm, List.set_set]
theorem wipe_setAllV : ∀ (l : List Nat) (xs : List V) (σ : St) {vs : List Nat}, (∀ i ∈ l, i ∈ vs) → wipe (setAllV l xs σ) vs = wipe σ vs
  | [], _, σ, _, _ => by unfold setAllV; rfl
  | i :: r, [], σ, _, _ => by unfold setAllV; rfl
  | i :: r, x :: xs, σ, vs, h => by
    show wipe (setAllV r xs (σ.set i (some x))) vs = _
    rw [wipe_setAllV r xs _ (fun j hj => h j (List.mem_cons_of_mem _ hj)), wipe_set (h i List.mem_cons_self)]
theorem Tg.go {K : PySem.W.Frag} {H G F : Hp} {μ : Mu} {σ : St} {ρ : SD} {v : V} {d : D} {k : SD → Prop} {Q : St → Hp → Prop} (p : Tg) (hh : Hold K H G F μ) (sl : Slots K G σ ρ) (a : At K G v d) (h : p.d d ρ k)
    (kk : ∀ σ' ρ', Slots K G σ' ρ' → k ρ' → (∀ vs, (∀ i ∈ p.slots, i ∈ vs) → wipe σ' vs = wipe σ vs) → Q σ' H) : p.g K v σ H Q := by
  cases p with
  | nm i => exact kk _ _ (sl.set i a) h fun vs hv => wipe_set (hv i (List.mem_singleton.mpr rfl))
  | tp l =>
    cases a with
    | tup hq r =>
      obtain ⟨e, h⟩ := h
      refine ⟨_, _, rfl, same_seqT hh.sub hq, r.length.trans e, gsOf_go l _ σ H Q (r.length.trans e) (kk _ _ (slots_all l r sl) h fun vs hv => wipe_setAllV l _ σ hv)⟩
    | _ => exact h.elim
/-! ### what is walked -/
structure ItD (K : PySem.W.Frag) (J : It) (G : Hp) (ds : List D) : Prop where
  goes : ∀ i H G' F μ, i < ds.length → Same G G' → Hold K H G' F μ → J.go i H
  stops : ∀ H G' F μ, Same G G' → Hold K H G' F μ → J.stop ds.length H
  yields : ∀ i H x H' G' F μ, i < ds.length → Same G G' → Hold K H G' F μ → J.yld i H x H' → ∃ G'' d, Same G' G'' ∧ Hold K H' G'' F μ ∧ At K G'' x d ∧ ds[i]? = some d
def lI (K : PySem.W.Frag) (B : Bs) (t : TAD) : TI := fun σ H R => ∃ (G : Hp) (ρ : SD) (μ : Mu) (k : List D → Mu → Prop), Same B.g G ∧ Hold K H G B.f μ ∧ Slots K G σ ρ ∧ t ρ μ k ∧
  ∀ J H' G' ds μ', Same G G' → Hold K H' G' B.f μ' → ItD K J G' ds → k ds μ' → R J H'
abbrev PDI (X : Cx) (B : Bs) (tg iter : Expr) (t : TAD) : Prop := PI X tg iter (lI X.K B t)
theorem imI {X : Cx} {tg e : Expr} {t t' : TI} (h : PI X tg e t) (i : ∀ σ H R, t' σ H R → t σ H R) : PI X tg e t' := ⟨fun pins s σ H R I q => h.run pins s σ H R I (i _ _ _ q)⟩
section
variable {X : Cx} {B : Bs}
theorem itd_list {K : PySem.W.Frag} {G : Hp} {a : Addr} {vs : List V} {ds : List D} (h : SqL K G a vs) (r : Ats K G vs ds) : ItD K (Itl K a) G ds := by
  refine ⟨fun i H G' F μ hi s hh => ?_, fun H G' F μ s hh => ?_, fun i H x H' G' F μ hi s hh y => ?_⟩
  · obtain ⟨v, e, _⟩ := r.get (List.getElem?_eq_getElem hi)
    exact ⟨vs, v, (s.trans hh.sub).seq h, e⟩
  · exact ⟨vs, (s.trans hh.sub).seq h, by rw [r.length]; exact Nat.le_refl _⟩
  · obtain ⟨rfl, q⟩ := y
    obtain ⟨d, e, ad⟩ := r.get' (q vs ((s.trans hh.sub).seq h))
    exact ⟨G', d, Same.refl _, hh, ad.mono s, e⟩
theorem itd_tup {K : PySem.W.Frag} {G : Hp} {a : Addr} {vs : List V} {ds : List D} (h : SqT K G a vs) (r : Ats K G vs ds) : ItD K (Itt K a) G ds := by
  refine ⟨fun i H G' F μ hi s hh => ?_, fun H G' F μ s hh => ?_, fun i H x H' G' F μ hi s hh y => ?_⟩
  · obtain ⟨v, e, _⟩ := r.get (List.getElem?_eq_getElem hi)
    exact ⟨vs, v, same_seqT (s.trans hh.sub) h, e⟩
  · exact ⟨vs, same_seqT (s.trans hh.sub) h, by rw [r.length]; exact Nat.le_refl _⟩
  · obtain ⟨rfl, q⟩ := y
    obtain ⟨d, e, ad⟩ := r.get' (q vs (same_seqT (s.trans hh.sub) h))
    exact ⟨G', d, Same.refl _, hh, ad.mono s, e⟩
/-- lists and tuples alike: one of the two rules -/
theorem orI {tg e : Expr} {t t' : TI} (h : PI X tg e t) (h' : PI X tg e t') : PI X tg e (fun σ H R => t σ H R ∨ t' σ H R) := ⟨fun pins s σ H R I q => by
  rcases q with q | q
  · exact h.run pins s σ H R I q
  · exact h'.run pins s σ H R I q⟩
def dIs (f : D → Option (List D)) (t : TED) : TAD := fun ρ μ k => t ρ μ fun x μ1 => ∃ xs, f x = some xs ∧ k xs μ1
def asL : D → Option (List D)
  | .lst xs => some xs
  | _ => none
def asT : D → Option (List D)
  | .tup xs => some xs
  | _ => none
theorem pdi_list {tg e : Expr} {t : TED} (he : PD X B e t) : PDI X B tg e (dIs asL t) := imI (pi_list he) fun σ H R ⟨G, ρ, μ, k, g0, hh, sl, q, kk⟩ => by
  refine ⟨G, ρ, μ, _, g0, hh, sl, q, fun v H1 G1 d μ1 s1 h1 a1 q1 => ?_⟩
  obtain ⟨xs, e, q1⟩ := q1
  cases a1 with
  | lst hq r =>
    cases e
    exact ⟨_, rfl, ⟨_, h1.sub.seq hq⟩, kk _ H1 G1 _ μ1 s1 h1 (itd_list hq r) q1⟩
  | _ => cases e
theorem pdi_tup {tg e : Expr} {t : TED} (he : PD X B e t) : PDI X B tg e (dIs asT t) := imI (pi_tup he) fun σ H R ⟨G, ρ, μ, k, g0, hh, sl, q, kk⟩ => by
  refine ⟨G, ρ, μ, _, g0, hh, sl, q, fun v H1 G1 d μ1 s1 h1 a1 q1 => ?_⟩
  obtain ⟨xs, e, q1⟩ := q1
  cases a1 with
  | tup hq r =>
    cases e
    exact ⟨_, rfl, ⟨_, same_seqT h1.sub hq⟩, kk _ H1 G1 _ μ1 s1 h1 (itd_tup hq r) q1⟩
  | _ => cases e
/-- range -/
def rngD (lo : Int) (n : Nat) : List D := (List.range n).map fun (i : Nat) => D.int (lo + i)
theorem itd_range {K : PySem.W.Frag} {G : Hp} {lo : Int} {n : Nat} : ItD K (Itr lo n) G (rngD lo n) := by
  have hl : (rngD lo n).length = n := by unfold rngD; rw [List.length_map, List.length_range]
  refine ⟨fun i H G' F μ hi s hh => by rw [hl] at hi; exact hi, fun H G' F μ s hh => by rw [hl]; exact Nat.le_refl _, fun i H x H' G' F μ hi s hh y => ?_⟩
  obtain ⟨rfl, rfl⟩ := y
  refine ⟨G', .int (lo + i), Same.refl _, hh, .int _, ?_⟩
  rw [hl] at hi
  unfold rngD
  rw [List.getElem?_map, List.getElem?_range hi]
  rfl
def dRange1 (t : TAD) : TAD := fun ρ μ k => t ρ μ fun vs μ1 => ∃ j : Int, vs = [.int j] ∧ (-(2 ^ 62) ≤ j ∧ j < 2 ^ 62) ∧ k (rngD 0 j.toNat) μ1
def dRange2 (t : TAD) : TAD := fun ρ μ k => t ρ μ fun vs μ1 => ∃ i j : Int, vs = [.int i, .int j] ∧ (-(2 ^ 62) ≤ i ∧ i < 2 ^ 62 ∧ -(2 ^ 62) ≤ j ∧ j < 2 ^ 62) ∧ k (rngD i (j - i).toNat) μ1
theorem Ats.one {K : PySem.W.Frag} {G : Hp} {vs : List V} {d : D} (h : Ats K G vs [d]) : ∃ v, vs = [v] ∧ At K G v d := by
  cases h with
  | cons a t => cases t; exact ⟨_, rfl, a⟩
theorem Ats.two {K : PySem.W.Frag} {G : Hp} {vs : List V} {d e : D} (h : Ats K G vs [d, e]) : ∃ v w, vs = [v, w] ∧ At K G v d ∧ At K G w e := by
  cases h with
  | cons a t =>
    obtain ⟨w, rfl, b⟩ := t.one
    exact ⟨_, _, rfl, a, b⟩
theorem Ats.three {K : PySem.W.Frag} {G : Hp} {vs : List V} {d e f : D} (h : Ats K G vs [d, e, f]) : ∃ v w z, vs = [v, w, z] ∧ At K G v d ∧ At K G w e ∧ At K G z f := by
  cases h with
  | cons a t =>
    obtain ⟨w, z, rfl, b, c⟩ := t.two
    exact ⟨_, _, _, rfl, a, b, c⟩
theorem pdi_range1 {tg a : Expr} {t : TAD} {p pos : Pos} (hm : X.mg "range" = none) (ha : PDA X B [a] t) (hg : Gl X "range" := by rfl) (hs : starEach [a] X.env = [(false, eval a X.env)] := by rfl) : PDI X B tg (.Call (.Name "range" p) [a] [] pos) (dRange1 t) := imI (pi_range1 hg hm ha hs) fun σ H R ⟨G, ρ, μ, k, g0, hh, sl, q, kk⟩ => by
  refine ⟨G, ρ, μ, _, g0, hh, sl, q, fun vs H1 G1 ds μ1 s1 h1 a1 q1 => ?_⟩
  obtain ⟨j, rfl, ⟨b1, b2⟩, q1⟩ := q1
  obtain ⟨v, rfl, av⟩ := a1.one
  rw [av.int_inv]
  exact ⟨j, rfl, b1, b2, kk _ H1 G1 _ μ1 s1 h1 itd_range q1⟩
theorem pdi_range2 {tg a b : Expr} {t : TAD} {p pos : Pos} (hm : X.mg "range" = none) (ha : PDA X B [a, b] t) (hg : Gl X "range" := by rfl) (hs : starEach [a, b] X.env = [(false, eval a X.env), (false, eval b X.env)] := by rfl) (hs2 : starEach [b] X.env = [(false, eval b X.env)] := by rfl) : PDI X B tg (.Call (.Name "range" p) [a, b] [] pos) (dRange2 t) := imI (pi_range2 hg hm ha hs hs2) fun σ H R ⟨G, ρ, μ, k, g0, hh, sl, q, kk⟩ => by
  refine ⟨G, ρ, μ, _, g0, hh, sl, q, fun vs H1 G1 ds μ1 s1 h1 a1 q1 => ?_⟩
  obtain ⟨i, j, rfl, b, q1⟩ := q1
  obtain ⟨v, w, rfl, av, aw⟩ := a1.two
  rw [av.int_inv, aw.int_inv]
  exact ⟨i, j, rfl, b, kk _ H1 G1 _ μ1 s1 h1 itd_range q1⟩
/-! ### pairs: zip, enumerate -/
def zipD : List D → List D → List D
  | x :: xs, y :: ys => .tup [x, y] :: zipD xs ys
  | _, _ => []
theorem zipD_len : ∀ xs ys : List D, (zipD xs ys).length = min xs.length ys.length
  | x :: xs, y :: ys => by
    show (zipD xs ys).length + 1 = min (xs.length + 1) (ys.length + 1)
    rw [zipD_len xs ys]; omega
  | [], _ => by simp [zipD]
  | _ :: _, [] => by simp [zipD]
theorem zipD_get : ∀ (xs ys : List D) (i : Nat) (x y : D), xs[i]? = some x → ys[i]? = some y → (zipD xs ys)[i]? = some (.tup [x, y])
  | x :: xs, y :: ys, 0, a, b, h, h2 => by
    cases h; cases h2; rfl
  | x :: xs, y :: ys, i + 1, a, b, h, h2 => zipD_get xs ys i a b h h2
  | [], _, _, _, _, h, _ => by simp at h
  | _ :: _, [], _, _, _, _, h => by simp at h
theorem yld_pair {K : PySem.W.Frag} {H G F : Hp} {μ : Mu} {T : Addr} {v w : V} {x y : D} (hh : Hold K H G F μ) (n : H T = none) (a : At K G v x) (b : At K G w y) : ∃ G'', Same G G'' ∧ Hold K (upd H T (.tup [v, w])) G'' F μ ∧ At K G'' (.ref T) (.tup [x, y]) := by
  have gn := hh.g_none n
  exact ⟨upd G T (.tup [v, w]), same_upd gn, hh.new n _, .tup (SqT.of upd_same) (.cons (a.mono (same_upd gn)) (.cons (b.mono (same_upd gn)) .nil))⟩
theorem itd_zip {K : PySem.W.Frag} {G : Hp} {a b : Addr} {vs ws : List V} {ds es : List D} (h : SqL K G a vs) (h2 : SqL K G b ws) (r : Ats K G vs ds) (r2 : Ats K G ws es) : ItD K (Itz K a b) G (zipD ds es) := by
  have w := walk_zip (K := K) (a := a) (b := b) (xs := vs) (ys := ws) (n := min vs.length ws.length) rfl
  have hl : (zipD ds es).length = min vs.length ws.length := by rw [zipD_len, r.length, r2.length]
  have st : ∀ {H G' F : Hp} {μ : Mu}, Same G G' → Hold K H G' F μ → SqL K H a vs ∧ SqL K H b ws := fun s hh => ⟨(s.trans hh.sub).seq h, (s.trans hh.sub).seq h2⟩
  refine ⟨fun i H G' F μ hi s hh => w.goes i H (by omega) (st s hh), fun H G' F μ s hh => by rw [hl]; exact w.stops H (st s hh), fun i H x H' G' F μ hi s hh y => ?_⟩
  obtain ⟨T, v1, v2, rfl, nT, rfl, e1, e2⟩ := w.yields i H x H' (by omega) (st s hh) y
  obtain ⟨d1, f1, ad1⟩ := r.get' e1
  obtain ⟨d2, f2, ad2⟩ := r2.get' e2
  obtain ⟨G'', s2, h3, a3⟩ := yld_pair hh nT (ad1.mono s) (ad2.mono s)
  exact ⟨G'', _, s2, h3, a3, zipD_get _ _ _ _ _ f1 f2⟩
def dZip (t : TAD) : TAD := fun ρ μ k => t ρ μ fun vs μ1 => ∃ xs ys, vs = [.lst xs, .lst ys] ∧ k (zipD xs ys) μ1
def enumD (i : Int) : List D → List D
  | [] => []
  | x :: xs => .tup [.int i, x] :: enumD (i + 1) xs
theorem enumD_len : ∀ (i : Int) (xs : List D), (enumD i xs).length = xs.length
  | _, [] => rfl
  | i, x :: xs => by show (enumD (i + 1) xs).length + 1 = _; rw [enumD_len]; rfl
theorem enumD_get : ∀ (j : Int) (xs : List D) (i : Nat) (x : D), xs[i]? = some x → (enumD j xs)[i]? = some (.tup [.int (j + i), x])
  | j, x :: xs, 0, a, h => by
    cases h
    show some (D.tup [.int j, x]) = _
    rw [show j + ((0 : Nat) : Int) = j by omega]
  | j, x :: xs, i + 1, a, h => by
    show (enumD (j + 1) xs)[i]? = _
    rw [enumD_get (j + 1) xs i a h, show j + 1 + (i : Int) = j + ((i + 1 : Nat) : Int) by omega]
  | _, [], _, _, h => by simp at h
theorem itd_enum {K : PySem.W.Frag} {G : Hp} {a : Addr} {vs : List V} {ds : List D} (h : SqL K G a vs) (r : Ats K G vs ds) : ItD K (Ite K a) G (enumD 0 ds) := by
  have w := walk_enum (K := K) (a := a) (xs := vs)
  have hl : (enumD 0 ds).length = vs.length := by rw [enumD_len, r.length]
  have st : ∀ {H G' F : Hp} {μ : Mu}, Same G G' → Hold K H G' F μ → SqL K H a vs := fun s hh => (s.trans hh.sub).seq h
  refine ⟨fun i H G' F μ hi s hh => w.goes i H (by omega) (st s hh), fun H G' F μ s hh => by rw [hl]; exact w.stops H (st s hh), fun i H x H' G' F μ hi s hh y => ?_⟩
  obtain ⟨T, v1, v2, rfl, nT, rfl, e1, e2⟩ := w.yields i H x H' (by omega) (st s hh) y
  cases e1
  obtain ⟨d2, f2, ad2⟩ := r.get' e2
  obtain ⟨G'', s2, h3, a3⟩ := yld_pair hh nT (.int _) (ad2.mono s)
  exact ⟨G'', _, s2, h3, a3, by rw [enumD_get 0 ds i d2 f2, Int.zero_add]⟩
def dEnum (t : TAD) : TAD := fun ρ μ k => t ρ μ fun vs μ1 => ∃ xs, vs = [.lst xs] ∧ k (enumD 0 xs) μ1
theorem pdi_zip {e e2 : Expr} {t : TAD} {p pos tpos : Pos} {elts : List Expr} {kk : Nat} (hm : X.mg "zip" = none) (ha : PDA X B [e, e2] t) (hg : Gl X "zip" := by rfl) (hs : starEach [e, e2] X.env = (false, eval e X.env) :: starEach [e2] X.env := by rfl) (hpl : (backTo pos (starEach [e2] X.env)).any (·.1) = false := by rfl) : PDI X B (.Tuple elts kk tpos) (.Call (.Name "zip" p) [e, e2] [] pos) (dZip t) := imI (pi_zip hg hm ha hs hpl) fun σ H R ⟨G, ρ, μ, k, g0, hh, sl, q, kk⟩ => by
  refine ⟨G, ρ, μ, _, g0, hh, sl, q, fun vs H1 G1 ds μ1 s1 h1 a1 q1 => ?_⟩
  obtain ⟨xs, ys, rfl, q1⟩ := q1
  obtain ⟨v, w, rfl, av, aw⟩ := a1.two
  cases av with
  | lst hv rv =>
    cases aw with
    | lst hw rw_ => exact ⟨_, _, _, _, rfl, h1.sub.seq hv, h1.sub.seq hw, kk _ H1 G1 _ μ1 s1 h1 (itd_zip hv hw rv rw_) q1⟩
theorem pdi_enum {e : Expr} {t : TAD} {p pos tpos : Pos} {elts : List Expr} {kk : Nat} (hm : X.mg "enumerate" = none) (ha : PDA X B [e] t) (hg : Gl X "enumerate" := by rfl) (hs : starEach [e] X.env = [(false, eval e X.env)] := by rfl) : PDI X B (.Tuple elts kk tpos) (.Call (.Name "enumerate" p) [e] [] pos) (dEnum t) := imI (pi_enum hg hm ha hs) fun σ H R ⟨G, ρ, μ, k, g0, hh, sl, q, kk⟩ => by
  refine ⟨G, ρ, μ, _, g0, hh, sl, q, fun vs H1 G1 ds μ1 s1 h1 a1 q1 => ?_⟩
  obtain ⟨xs, rfl, q1⟩ := q1
  obtain ⟨v, rfl, av⟩ := a1.one
  cases av with
  | lst hv rv => exact ⟨_, _, rfl, h1.sub.seq hv, kk _ H1 G1 _ μ1 s1 h1 (itd_enum hv rv) q1⟩
/-! ### for, while -/
def dLoop (p : Tg) (tb : TSD) (E : EndsD) : List D → SD → Mu → Prop
  | [], ρ, μ => E.nx ρ μ
  | x :: r, ρ, μ => p.d x ρ fun ρ2 => tb { E with nx := dLoop p tb E r, ct := dLoop p tb E r, bk := E.nx } ρ2 μ
def dFor (src : TAD) (p : Tg) (tb : TSD) : TSD := fun E ρ μ => src ρ μ fun ds μ1 => dLoop p tb E ds ρ μ1
theorem drop_cons {α : Type} {l : List α} {i : Nat} {x : α} (h : l[i]? = some x) : l.drop i = x :: l.drop (i + 1) := by
  have hi : i < l.length := by
    rcases Nat.lt_or_ge i l.length with h1 | h1
    · exact h1
    · rw [List.getElem?_eq_none h1] at h; cases h
  rw [List.drop_eq_getElem_cons hi]
  rw [List.getElem?_eq_getElem hi] at h
  cases h; rfl
theorem pds_for {tg iter : Expr} {body : List Stmt} {src : TAD} {p : Tg} {tb : TSD} {pos : Pos} (hp : PassesOwn (model X.prog X.w) X.A X.env X.xe) (hc : X.calm = true) (hi : PDI X B tg iter src) (hg : PG X tg (p.g X.K)) (hb : PDB X B body tb)
    (hs : ∀ x, foldedSetIterable iter X.env x = pure x := by intro _; rfl) : PDS X B (.For tg iter body [] pos) (dFor src p tb) := imS (ps_for hp hc hi hg hb hs) fun D σ H ⟨G, ρ, μ, E, g0, hh, sl, q, k1, k2, k3, k4⟩ => by
  refine ⟨G, ρ, μ, _, g0, hh, sl, q, fun J H1 G1 ds μ1 s1 h1 it q1 => ?_⟩
  refine ⟨fun i m σ H => i + m = ds.length ∧ ∃ G2 ρ μ, Same G1 G2 ∧ Hold X.K H G2 B.f μ ∧ Slots X.K G2 σ ρ ∧ dLoop p tb E (ds.drop i) ρ μ, ⟨ds.length, by omega, G1, ρ, μ1, Same.refl _, h1, sl.mono s1, q1⟩, ?_⟩
  rintro i m σ H ⟨em, G2, ρ, μ, s2, h2, sl2, q2⟩
  by_cases hlt : i < ds.length
  · right
    refine ⟨it.goes i H G2 B.f μ hlt s2 h2, fun σ' H' => ∃ G3 ρ μ, Same G1 G3 ∧ Hold X.K H' G3 B.f μ ∧ Slots X.K G3 σ' ρ ∧ dLoop p tb E (ds.drop (i + 1)) ρ μ, fun σ' H' ⟨G3, ρ', μ', s3, h3, sl3, q3⟩ => ⟨m - 1, by omega, by omega, G3, ρ', μ', s3, h3, sl3, q3⟩, fun x H' hy => ?_⟩
    obtain ⟨G3, d, s3, h3, a3, ed⟩ := it.yields i H x H' G2 B.f μ hlt s2 h2 hy
    rw [drop_cons ed] at q2
    refine Tg.go p h3 (sl2.mono s3) a3 q2 fun σ' ρ' sl' q' _ => ?_
    have s03 : Same G G3 := (s1.trans s2).trans s3
    refine ⟨G3, ρ', μ, _, g0.trans s03, h3, sl', q', fun σ4 H4 G4 ρ4 μ4 s4 h4 sl4 q4 => ⟨G4, ρ4, μ4, (s2.trans s3).trans s4, h4, sl4, q4⟩, fun v H4 G4 d4 μ4 s4 => k2 v H4 G4 d4 μ4 (s03.trans s4), fun σ4 H4 G4 ρ4 μ4 s4 => k1 σ4 H4 G4 ρ4 μ4 (s03.trans s4), fun σ4 H4 G4 ρ4 μ4 s4 h4 sl4 q4 => ⟨G4, ρ4, μ4, (s2.trans s3).trans s4, h4, sl4, q4⟩⟩
  · left
    have e : i = ds.length := by omega
    subst e
    rw [List.drop_length] at q2
    exact ⟨it.stops H G2 B.f μ s2 h2, k1 σ H G2 ρ μ (s1.trans s2) h2 sl2 q2⟩
def dWhile (c : TTD) (tb : TSD) : TSD := fun E ρ μ => ∃ W : Nat → SD → Mu → Prop, (∃ m, W m ρ μ) ∧ ∀ m ρ μ, W m ρ μ →
  c ρ μ fun b μ1 => if b = true then ∃ N : SD → Mu → Prop, (∀ ρ' μ', N ρ' μ' → ∃ m', m' < m ∧ W m' ρ' μ') ∧ tb { E with nx := N, ct := N, bk := E.nx } ρ μ1 else E.nx ρ μ1
theorem pds_while {c : Expr} {body : List Stmt} {tc : TTD} {tb : TSD} {pos : Pos} (hp : PassesOwn (model X.prog X.w) X.A X.env X.xe) (hc : PDT X B c tc) (hb : PDB X B body tb) : PDS X B (.While c body [] pos) (dWhile tc tb) := imS (ps_while hp hc hb) fun D σ H ⟨G, ρ, μ, E, g0, hh, sl, ⟨W, ⟨m, w0⟩, hW⟩, k1, k2, k3, k4⟩ => by
  refine ⟨fun m σ H => ∃ G1 ρ μ, Same G G1 ∧ Hold X.K H G1 B.f μ ∧ Slots X.K G1 σ ρ ∧ W m ρ μ, ⟨m, G, ρ, μ, Same.refl _, hh, sl, w0⟩, ?_⟩
  rintro m σ H ⟨G1, ρ, μ, s1, h1, sl1, w1⟩
  refine ⟨G1, ρ, μ, _, g0.trans s1, h1, sl1, hW m ρ μ w1, fun b H2 G2 μ2 s2 h2 q2 => ?_⟩
  cases b with
  | true =>
    rw [if_pos rfl] at q2 ⊢
    obtain ⟨N, hN, q2⟩ := q2
    have s02 := s1.trans s2
    refine ⟨fun σ' H' => ∃ G1 ρ μ, Same G G1 ∧ Hold X.K H' G1 B.f μ ∧ Slots X.K G1 σ' ρ ∧ N ρ μ, fun σ' H' ⟨G3, ρ', μ', s3, h3, sl3, q3⟩ => ?_, ?_⟩
    · obtain ⟨m', hm, hw⟩ := hN _ _ q3
      exact ⟨m', hm, G3, ρ', μ', s3, h3, sl3, hw⟩
    · exact ⟨G2, ρ, μ2, _, g0.trans s02, h2, sl1.mono s2, q2, fun σ4 H4 G4 ρ4 μ4 s4 h4 sl4 q4 => ⟨G4, ρ4, μ4, s02.trans s4, h4, sl4, q4⟩, fun v H4 G4 d4 μ4 s4 => k2 v H4 G4 d4 μ4 (s02.trans s4), fun σ4 H4 G4 ρ4 μ4 s4 => k1 σ4 H4 G4 ρ4 μ4 (s02.trans s4), fun σ4 H4 G4 ρ4 μ4 s4 h4 sl4 q4 => ⟨G4, ρ4, μ4, s02.trans s4, h4, sl4, q4⟩⟩
  | false =>
    rw [if_neg Bool.false_ne_true] at q2 ⊢
    exact k1 σ H2 G2 ρ μ2 (s1.trans s2) h2 (sl1.mono s2) q2
end
end Dl
namespace Dl
open PySem L2
section
variable {X : Cx} {B : Bs}
/-! ### assignments -/
def dAsg (t : TED) (p : Tg) : TSD := fun E ρ μ => t ρ μ fun x μ1 => p.d x ρ fun ρ2 => E.nx ρ2 μ1
theorem lAsg {t : TED} {p : Tg} (D : Ends) (σ : St) (H : Hp) (h : lS X.K B (dAsg t p) D σ H) : tAsg (lE X.K B t) (p.g X.K) D σ H := by
  obtain ⟨G, ρ, μ, E, g0, hh, sl, q, k1, k2, k3, k4⟩ := h
  refine ⟨G, ρ, μ, _, g0, hh, sl, q, fun v H1 G1 d μ1 s1 h1 a1 q1 => ?_⟩
  exact Tg.go p h1 (sl.mono s1) a1 q1 fun σ' ρ' sl' q' _ => k1 σ' H1 G1 ρ' μ1 s1 h1 sl' q'
theorem pds_set {i : Nat} {x : Str} {e : Expr} {t : TED} {pos pos' : Pos} (hN : X.N.Nodup) (he : PD X B e t) (hi : X.N[i]? = some x := by rfl) (hx : Loc X.env.scope x := by first | exact Or.inl rfl | exact Or.inr rfl) (hs : swapsWith e (some (.Name x pos')) pos.line X.env = pure false := by rfl) (hf : X.fn x = true ∨ X.env.scope.names.lookup x = some .local := by first | exact .inl rfl | exact .inr rfl | assumption) :
    PDS X B (.Assign [.Name x pos'] e pos) (dAsg t (.nm i)) := imS (ps_set hN hi hx he hs hf) (lAsg (p := .nm i))
/-- (a, b, ..) = e, e a tuple -/
theorem pds_unp {tg e : Expr} {t : TED} {p : Tg} {pos : Pos} (he : PD X B e t) (hg : PG X tg (p.g X.K)) (hs : swapsWithSole [tg] e pos.line X.env = pure false := by rfl) (hw : swappedStores [tg] e X.env = pure none := by rfl) (h1 : (assignEach [tg] X.env).map (·.2) = [assign tg X.env] := by rfl) :
    PDS X B (.Assign [tg] e pos) (dAsg t p) := imS (ps_asg he hg hs hw h1) lAsg
/-- a, b = x, y, both local -/
def dPar (i j : Nat) (t : TAD) : TSD := fun E ρ μ => t ρ μ fun ds μ1 => ∃ x y, ds = [x, y] ∧ E.nx ((ρ.set i (some x)).set j (some y)) μ1
theorem pds_par {i j : Nat} {x y : Str} {a b : Expr} {t : TAD} {px py pt pos : Pos} {kt k2 pt2} (hc : X.calm = true) (hN : X.N.Nodup) (ha : PDA X B [a, b] t) (hi : X.N[i]? = some x := by rfl) (hj : X.N[j]? = some y := by rfl) (hij : i ≠ j := by decide)
    (hx : X.env.scope.names.lookup x = some .local := by rfl) (hy : X.env.scope.names.lookup y = some .local := by rfl)
    (hw : swappedStores [.Tuple [.Name x px, .Name y py] kt pt] (.Tuple [a, b] k2 pt2) X.env = pure (some [x, y]) := by rfl)
    (hs : swapsWithSole [.Tuple [.Name x px, .Name y py] kt pt] (.Tuple [a, b] k2 pt2) pos.line X.env = pure false := by rfl) :
    PDS X B (.Assign [.Tuple [.Name x px, .Name y py] kt pt] (.Tuple [a, b] k2 pt2) pos) (dPar i j t) := imS (ps_par hc hN hi hj hij hx hy ha hw hs) fun D σ H ⟨G, ρ, μ, E, g0, hh, sl, q, k1, k2, k3, k4⟩ => by
  refine ⟨G, ρ, μ, _, g0, hh, sl, q, fun vs H1 G1 ds μ1 s1 h1 a1 q1 => ?_⟩
  obtain ⟨x, y, rfl, q1⟩ := q1
  obtain ⟨v, w, rfl, av, aw⟩ := a1.two
  exact ⟨v, w, rfl, k1 _ H1 G1 _ μ1 s1 h1 (((sl.mono s1).set i av).set j aw) q1⟩
/-! ### comprehensions -/
def wipeD (ρ : SD) : List Nat → SD
  | [] => ρ
  | v :: vs => (wipeD ρ vs).set v none
theorem slots_wipe {K : PySem.W.Frag} {G : Hp} {σ : St} {ρ : SD} (s : Slots K G σ ρ) : ∀ vs : List Nat, Slots K G (wipe σ vs) (wipeD ρ vs)
  | [] => s
  | v :: vs => (slots_wipe s vs).wipe v none
theorem wipe_wipe (σ : St) (vs : List Nat) : wipe (wipe σ vs) vs = wipe σ vs := by
  refine List.ext_getElem? fun i => ?_
  by_cases hi : i ∈ vs
  · have key : ∀ τ : St, τ.length = σ.length → (wipe τ vs)[i]? = if i < σ.length then some none else none := by
      intro τ ht
      cases e : (wipe τ vs)[i]? with
      | none =>
        have := List.getElem?_eq_none_iff.mp e
        rw [wipe_length, ht] at this
        rw [if_neg (by omega)]
      | some o =>
        have hl : i < (wipe τ vs).length := by
          rcases Nat.lt_or_ge i (wipe τ vs).length with h | h
          · exact h
          · rw [List.getElem?_eq_none h] at e; cases e
        rw [wipe_length, ht] at hl
        rw [if_pos hl]
        cases o with
        | none => rfl
        | some v => exact absurd hi (wipe_some e).2
    rw [key _ (wipe_length σ vs), key σ rfl]
  · rw [wipe_out hi]
def lcGo (p : Tg) (tt : TTD) (te : TED) (ρ : SD) : List D → List D → Mu → (List D → Mu → Prop) → Prop
  | [], acc, μ, k => k acc μ
  | x :: r, acc, μ, k => p.d x ρ fun ρ2 => tt ρ2 μ fun b μ1 => if b = true then te ρ2 μ1 fun y μ2 => lcGo p tt te ρ r (acc ++ [y]) μ2 k else lcGo p tt te ρ r acc μ1 k
def dLc (src : TAD) (p : Tg) (tt : TTD) (te : TED) (vs : List Nat) : TED := fun ρ μ k => src ρ μ fun ds μ1 => ds.length ≤ 100000 ∧ lcGo p tt te (wipeD ρ vs) ds [] μ1 fun out μ2 => k (.lst out) μ2
def dYes : TTD := fun _ μ k => k true μ
/-- the block's readings, whatever the frame -/
def aE (K : PySem.W.Frag) (g : Hp) (t : TED) : TE := fun σ H Q => ∃ f, lE K ⟨g, f⟩ t σ H Q
def aT (K : PySem.W.Frag) (g : Hp) (t : TTD) : TT := fun σ H Q => ∃ f, lT K ⟨g, f⟩ t σ H Q
theorem allE {e : Expr} {g : Hp} {t : TED} (h : ∀ f, PD X ⟨g, f⟩ e t) : PE X e (aE X.K g t) := ⟨fun pins s σ H Q I ⟨f, q⟩ => (h f).run pins s σ H Q I q⟩
theorem allT {e : Expr} {g : Hp} {t : TTD} (h : ∀ f, PDT X ⟨g, f⟩ e t) : PT X e (aT X.K g t) := ⟨fun pins s σ H Q I ⟨f, q⟩ => (h f).run pins s σ H Q I q⟩
theorem pts_yes {g : Hp} : PTs X [] (aT X.K g dYes) := ⟨fun pins s σ H Q I ⟨f, G, ρ, μ, k, g0, hh, sl, q, kk⟩ => pts_nil.run pins s σ H Q I (kk true H G μ (Same.refl G) hh q)⟩
theorem pts_if {c : Expr} {g : Hp} {t : TTD} (h : ∀ f, PDT X ⟨g, f⟩ c t) : PTs X [c] (aT X.K g t) := pts_one (allT h)
theorem lLc {src : TAD} {p : Tg} {tt : TTD} {te : TED} {vs : List Nat} (hv : ∀ i ∈ p.slots, i ∈ vs) (σ : St) (H : Hp) (Q : VK) (h : lE X.K B (dLc src p tt te vs) σ H Q) :
    tLc (lI X.K B src) (p.g X.K) (aT X.K B.g tt) (aE X.K B.g te) vs σ H Q := by
  obtain ⟨G, ρ, μ, k, g0, hh, sl, q, kk⟩ := h
  refine ⟨G, ρ, μ, _, g0, hh, sl, q, fun J H1 G1 ds μ1 s1 h1 it q1 D nD => ?_⟩
  obtain ⟨hz, q1⟩ := q1
  have slw := slots_wipe (sl.mono s1) vs
  have fD := h1.f_none nD
  refine ⟨fun i m H => i + m = ds.length ∧ ∃ G2 μ2 acc ys, Same G1 G2 ∧ H D = some (.lst acc) ∧ acc.length ≤ i ∧ Hold X.K H G2 (upd B.f D (.lst acc)) μ2 ∧ Ats X.K G2 acc ys ∧ lcGo p tt te (wipeD ρ vs) (ds.drop i) ys μ2 fun out μ2 => k (.lst out) μ2,
    ⟨ds.length, by omega, G1, μ1, [], [], Same.refl _, upd_same, Nat.zero_le _, h1.newF nD _, .nil, q1⟩, ?_⟩
  rintro i m H ⟨em, G2, μ2, acc, ys, s2, hD, la, h2, ra, q2⟩
  by_cases hlt : i < ds.length
  · right
    refine ⟨it.goes i H G2 _ μ2 hlt s2 h2, fun H' => ∃ G3 μ3 acc ys, Same G1 G3 ∧ H' D = some (.lst acc) ∧ acc.length ≤ i + 1 ∧ Hold X.K H' G3 (upd B.f D (.lst acc)) μ3 ∧ Ats X.K G3 acc ys ∧ lcGo p tt te (wipeD ρ vs) (ds.drop (i + 1)) ys μ3 fun out μ2 => k (.lst out) μ2, fun H' ⟨G3, μ3, acc3, ys3, z⟩ => ⟨m - 1, by omega, by omega, G3, μ3, acc3, ys3, z⟩, fun x H' hy => ?_⟩
    obtain ⟨G3, d, s3, h3, a3, ed⟩ := it.yields i H x H' G2 _ μ2 hlt s2 h2 hy
    rw [drop_cons ed] at q2
    refine Tg.go p h3 (slw.mono (s2.trans s3)) a3 q2 fun σ' ρ' sl' q' hw => ⟨(hw vs hv).trans ?_, ?_⟩
    · exact wipe_wipe σ vs
    · have s13 := s2.trans s3
      refine ⟨upd B.f D (.lst acc), G3, ρ', μ2, _, g0.trans (s1.trans s13), h3, sl', q', fun b H4 G4 μ4 s4 h4 q4 => ?_⟩
      have hD4 : H4 D = some (.lst acc) := h4.fr D _ upd_same
      cases b with
      | true =>
        dsimp only at q4 ⊢
        rw [if_pos rfl] at q4 ⊢
        refine ⟨upd B.f D (.lst acc), G4, ρ', μ4, _, g0.trans ((s1.trans s13).trans s4), h4, sl'.mono s4, q4, fun y H5 G5 d5 μ5 s5 h5 a5 q5 => ?_⟩
        refine ⟨acc, h5.fr D _ upd_same, Nat.lt_of_le_of_lt la (Nat.lt_of_lt_of_le hlt (line_of hz)), G5, μ5, _, ys ++ [d5], (s13.trans s4).trans s5, upd_same, by rw [List.length_append]; simp; omega, ?_, (((ra.mono s3).mono s4).mono s5).append (.cons a5 .nil), q5⟩
        have w := h5.writeF (p := D) (u := .lst acc) upd_same (.lst (acc ++ [y]))
        rw [upd_upd] at w
        exact w
      | false =>
        dsimp only at q4 ⊢
        rw [if_neg Bool.false_ne_true] at q4 ⊢
        exact ⟨G4, μ4, acc, ys, s13.trans s4, hD4, by omega, h4, (ra.mono s3).mono s4, q4⟩
  · left
    have e : i = ds.length := by omega
    subst e
    rw [List.drop_length] at q2
    obtain ⟨h3, s3⟩ := h2.freezeF (F0 := B.f) (p := D) (o := .lst acc) upd_same fD (fun b x e => by rw [upd_ne (ne_of_none e fD)]; exact e)
    exact ⟨it.stops H G2 _ μ2 s2 h2, kk _ H _ _ μ2 ((s1.trans s2).trans s3) h3 (.lst (SqL.of upd_same) (ra.mono s3)) q2⟩
end
end Dl
namespace Dl
open PySem L2
section
variable {X : Cx} {B : Bs}
theorem pd_lc {elt tg iter : Expr} {ifs : List Expr} {scope : Scope} {own : List (Str × Nat)} {pos : Pos} {src : TAD} {p : Tg} {tt : TTD} {te : TED} (hc : X.calm = true) (hN : X.N.Nodup) (hi : PDI X B tg iter src) (ok : BlkOk X.N X.env.scope scope own)
    (hg : ∀ (s : Shared) (H : Hp) (C : Addr) (cl : List (Str × Addr)) (fp : List Addr), PG (X.blk s H scope (compEnvC scope cl C X.env) fp) tg (p.g X.K))
    (ht : ∀ (s : Shared) (H : Hp) (C : Addr) (cl : List (Str × Addr)) (fp : List Addr), PTs (X.blk s H scope (compEnvC scope cl C X.env) fp) ifs (aT X.K B.g tt))
    (he : ∀ (s : Shared) (H : Hp) (C : Addr) (cl : List (Str × Addr)) (fp : List Addr) (f : Hp), PD (X.blk s H scope (compEnvC scope cl C X.env) fp) ⟨B.g, f⟩ elt te)
    (hv : ∀ i ∈ p.slots, i ∈ own.map (·.2) := by decide) (hs : ∀ x, foldedSetIterable iter X.env x = pure x := by intro _; rfl) : PD X B (.ListComp elt [⟨tg, iter, ifs, 0⟩] scope pos) (dLc src p tt te (own.map (·.2))) :=
  imE (pe_lc hc hN hi ok hg ht (fun s H C cl fp => allE (fun f => he s H C cl fp f)) hs) (lLc hv)
theorem pds_setLc {i : Nat} {y : Str} {py : Pos} {elt tg iter : Expr} {ifs : List Expr} {scope : Scope} {own : List (Str × Nat)} {pos spos : Pos} {src : TAD} {p : Tg} {tt : TTD} {te : TED} (hc : X.calm = true) (hN : X.N.Nodup) (hi : PDI X B tg iter src) (ok : BlkOk X.N X.env.scope scope own)
    (hg : ∀ (s : Shared) (H : Hp) (C : Addr) (cl : List (Str × Addr)) (fp : List Addr), PG (X.blk s H scope (compEnvC scope cl C X.env) fp) tg (p.g X.K))
    (ht : ∀ (s : Shared) (H : Hp) (C : Addr) (cl : List (Str × Addr)) (fp : List Addr), PTs (X.blk s H scope (compEnvC scope cl C X.env) fp) ifs (aT X.K B.g tt))
    (he : ∀ (s : Shared) (H : Hp) (C : Addr) (cl : List (Str × Addr)) (fp : List Addr) (f : Hp), PD (X.blk s H scope (compEnvC scope cl C X.env) fp) ⟨B.g, f⟩ elt te)
    (hy : X.N[i]? = some y := by rfl) (hyl : X.env.scope.names.lookup y = some .local := by rfl)
    (hsw : swapsWith (.ListComp elt [⟨tg, iter, ifs, 0⟩] scope pos) (some (.Name y py)) spos.line X.env = pure true := by first | exact sw_true rfl rfl rfl (by decide +kernel) | rfl)
    (hv : ∀ i ∈ p.slots, i ∈ own.map (·.2) := by decide) (hs : ∀ x, foldedSetIterable iter X.env x = pure x := by intro _; rfl) : PDS X B (.Assign [.Name y py] (.ListComp elt [⟨tg, iter, ifs, 0⟩] scope pos) spos) (dAsg (dLc src p tt te (own.map (·.2))) (.nm i)) :=
  imS (ps_setLc hc hN hy hyl hsw hi ok hg ht (fun s H C cl fp => allE (fun f => he s H C cl fp f)) hs) fun D σ H h => by
    obtain ⟨G, ρ, μ, E, g0, hh, sl, q, k1, k2, k3, k4⟩ := h
    have z : lE X.K B (dLc src p tt te (own.map (·.2))) σ H (fun x H1 => gName i x σ H1 D.nx) := ⟨G, ρ, μ, _, g0, hh, sl, q, fun v H1 G1 d μ1 s1 h1 a1 q1 => k1 _ H1 G1 _ μ1 s1 h1 ((sl.mono s1).set i a1) q1⟩
    exact lLc hv σ H _ z
end
end Dl
namespace Dl
open PySem PySem.Spec PyProof.Rows L2
/-! ### promises over data -/
abbrev XD := Addr → List (Str × D) → Mu → Prop
abbrev SpD := List D → Mu → KD → XD → Prop
/-- what an error carries -/
def AtX (K : PySem.W.Frag) (G : Hp) : Option Addr → List (Str × D) → Prop
  | none, fs => fs = []
  | some a, fs => ∃ vs, G a = some (.xd vs) ∧ Atf K G vs fs
def lSp (K : PySem.W.Frag) (sp : SpD) : Sp := fun vs H Q E => ∃ (G F : Hp) (μ : Mu) (ds : List D) (k : KD) (ex : XD), Hold K H G F μ ∧ Ats K G vs ds ∧ sp ds μ k ex ∧
  (∀ v H' G' d μ', Same G G' → Hold K H' G' F μ' → At K G' v d → k d μ' → Q v H') ∧
  ∀ C dd H' G' fs μ', Same G G' → Hold K H' G' F μ' → AtX K G' dd fs → ex C fs μ' → E (.ref C) dd H'
/-- the wish of an error, over data -/
abbrev WD := Addr → List (Str × D) → SD → Mu → Prop
def lW (K : PySem.W.Frag) (B : Bs) (W : WD) : WX := fun cls d σ H => ∃ (G : Hp) (ρ : SD) (μ : Mu) (C : Addr) (fs : List (Str × D)), Same B.g G ∧ Hold K H G B.f μ ∧ Slots K G σ ρ ∧ AtX K G d fs ∧ cls = .ref C ∧ W C fs ρ μ
/-- no error -/
abbrev x0 : XD := fun _ _ _ => False
abbrev CXe (P : Program) (w : World) : CXT := L2.CX P w
theorem passE0 {X : Cx} : Passes (CXe X.prog X.w) X (fun _ _ _ => False) := passes_call takes0 fun _ _ _ _ h => h
section
variable {P : Program} {w : World} {K : PySem.W.Frag} {mg : Str → Option Value} {base : Heap}
def startD (N : List Str) (ds : List D) : SD := ds.map some ++ List.replicate (N.length - ds.length) none
theorem slots_start {G : Hp} {N : List Str} {vs : List V} {ds : List D} (r : Ats K G vs ds) : Slots K G (L2.start N vs) (startD N ds) := by
  refine ⟨by unfold L2.start startD; rw [List.length_append, List.length_append, List.length_map, List.length_map, r.length, List.length_replicate, List.length_replicate], fun i d e => ?_⟩
  unfold startD at e
  unfold L2.start
  by_cases hi : i < ds.length
  · rw [List.getElem?_append_left (by rw [List.length_map]; exact hi), List.getElem?_map] at e
    cases q : ds[i]? with
    | none => rw [q] at e; cases e
    | some x =>
      rw [q] at e
      cases e
      obtain ⟨v, h1, h2⟩ := r.get q
      refine ⟨v, ?_, h2⟩
      rw [List.getElem?_append_left (by rw [List.length_map, r.length]; exact hi), List.getElem?_map, h1]
      rfl
  · rw [List.getElem?_append_right (by rw [List.length_map]; omega), List.getElem?_replicate] at e
    split at e <;> cases e
/-- THE RULE for a def: its body as a term of rules, its reading over data -/
theorem okD {x qual : Str} {params : Arguments} {body : List Stmt} {scope : Scope} {dvs : List V} {kws : List (Str × V)} {f : Addr} {fd : FuncData} {N ps : List Str} {j : Nat} {sp : SpD} {t : XD → TSD}
    (F : FunD K x qual params body scope dvs kws f fd) (S : FnScope N ps scope) (len : ∀ ds μ k ex, sp ds μ k ex → ds.length = ps.length)
    (hb : ∀ (cdv : Value) (A : Around) (outer : List Env) (s : Shared) (H : Hp) (E : XK) (B : Bs) (ex : XD), Room j (A.deeper (envOfC qual scope s.heap.objs.size f cdv)) →
      Takes (cxOf (CXe P w) P w K mg base N qual scope f cdv A outer s H E) (lW K B fun C fs _ μ => ex C fs μ) → PDB (cxOf (CXe P w) P w K mg base N qual scope f cdv A outer s H E) B body (t ex))
    (h : ∀ ds μ k ex, sp ds μ k ex → t ex { nx := fun _ μ' => k .non μ', rt := k } (startD N ds) μ) : FnOk P w K mg base (CXe P w) (j + 1) f fd ps (lSp K sp) := by
  refine F.ok S (fun vs H Q E ⟨G, F, μ, ds, k, ex, _, r, q, _⟩ => r.length.trans (len ds μ k ex q)) fun cdv A outer s H vs Q E hr hsp => ?_
  obtain ⟨G, F, μ, ds, k, ex, hh, r, q, k1, k2⟩ := hsp
  refine ⟨_, hb cdv A outer s H E ⟨G, F⟩ ex hr ((takes_of (E := E) rfl rfl rfl rfl).imp ?_), ?_⟩
  · rintro cls d σ H' ⟨G', ρ, μ', C, fs, s', h', sl', a', rfl, q'⟩
    exact k2 C d H' G' fs μ' s' h' a' q'
  · exact ⟨G, _, μ, _, Same.refl _, hh, slots_start r, h ds μ k ex q, fun σ' H' G' ρ' μ' s' h' sl' q' => k1 .non H' G' .non μ' s' h' .non q', k1, fun σ' H' G' ρ' μ' s' h' sl' q' => q'.elim, fun σ' H' G' ρ' μ' s' h' sl' q' => q'.elim⟩
end
/-! ### calls -/
section
variable {X : Cx} {B : Bs} {P : Program} {w : World} {K : PySem.W.Frag} {mg : Str → Option Value} {base : Heap}
/-- a call whose callee raises nothing here -/
def dCall (sp : SpD) (t : TAD) : TED := fun ρ μ k => t ρ μ fun ds μ1 => sp ds μ1 k x0
/-- a call whose callee may raise -/
def dCallX (sp : SpD) (W : WD) (t : TAD) : TED := fun ρ μ k => t ρ μ fun ds μ1 => sp ds μ1 k fun C fs μ2 => W C fs ρ μ2
theorem lSp_go {sp : SpD} {vs : List V} {ds : List D} {H G : Hp} {μ : Mu} {k : KD} {Q : VK} (hh : Hold X.K H G B.f μ) (r : Ats X.K G vs ds) (q : sp ds μ k x0) (kk : ∀ v H' G' d μ', Same G G' → Hold X.K H' G' B.f μ' → At X.K G' v d → k d μ' → Q v H') :
    lSp X.K sp vs H Q (fun _ _ _ => False) := ⟨G, B.f, μ, ds, k, x0, hh, r, q, kk, fun _ _ _ _ _ _ _ _ _ h => h⟩
/-- a context over such a module -/
structure XIs (X : Cx) (P : Program) (w : World) (K : PySem.W.Frag) (mg : Str → Option Value) (base : Heap) : Prop where
  p : X.prog = P
  w : X.w = w
  k : X.K = K
  m : X.mg = mg
  b : X.base = base
/-- a def of the module, by its name: where it stands, its promise -/
structure FnG (P : Program) (w : World) (K : PySem.W.Frag) (mg : Str → Option Value) (base : Heap) (j : Nat) (x : Str) (ps : List Str) (sp : SpD) : Prop where
  ex : ∃ (f : Addr) (fd : FuncData), mg x = some (.ref f) ∧ PySem.W.keepIn K (.ref f) = true ∧ Binds K fd ps [] ∧ FnOk P w K mg base (CXe P w) j f fd ps (lSp K sp)
theorem pd_call {j : Nat} {x : Str} {ps : List Str} {sp : SpD} {t : TAD} {e : Expr} {es : List Expr} {p pos : Pos} (Fg : FnG P w K mg base j x ps sp) (hr : Room j X.A) (ha : PDA X B (e :: es) t) (hX : XIs X P w K mg base := by exact ⟨rfl, rfl, rfl, rfl, rfl⟩) (hg : Gl X x := by rfl) (hdb : (x == ("__debug__" : Str)) = false := by decide)
    (he : starEach (e :: es) X.env = (false, eval e X.env) :: starEach es X.env := by rfl) (hpl : (backTo pos (starEach es X.env)).any (·.1) = false := by rfl) : PD X B (.Call (.Name x p) (e :: es) [] pos) (dCall sp t) := by
  obtain ⟨rfl, rfl, rfl, rfl, rfl⟩ := hX
  obtain ⟨f, fd, hm, hk, hb, F⟩ := Fg.ex
  refine imE (pe_call F hr hg hm hk hb .nil passE0 ha hdb he hpl) fun σ H Q ⟨G, ρ, μ, k, g0, hh, sl, q, kk⟩ => ?_
  refine ⟨G, ρ, μ, _, g0, hh, sl, q, fun vs H1 G1 ds μ1 s1 h1 a1 q1 => ?_⟩
  show lSp X.K sp (vs ++ []) H1 Q _
  rw [List.append_nil]
  exact lSp_go h1 a1 q1 fun v H' G' d μ' s' => kk v H' G' d μ' (s1.trans s')
theorem pd_call0 {j : Nat} {x : Str} {sp : SpD} {p pos : Pos} (Fg : FnG P w K mg base j x [] sp) (hr : Room j X.A) (hX : XIs X P w K mg base := by exact ⟨rfl, rfl, rfl, rfl, rfl⟩) (hg : Gl X x := by rfl) (hdb : (x == ("__debug__" : Str)) = false := by decide) : PD X B (.Call (.Name x p) [] [] pos) (dCall sp dNil) := by
  obtain ⟨rfl, rfl, rfl, rfl, rfl⟩ := hX
  obtain ⟨f, fd, hm, hk, hb, F⟩ := Fg.ex
  refine imE (pe_call0 F hr hg hm hk hb .nil passE0 hdb) fun σ H Q ⟨G, ρ, μ, k, g0, hh, sl, q, kk⟩ => ?_
  exact lSp_go (ds := []) hh .nil q fun v H' G' d μ' s' => kk v H' G' d μ' s'
end
end Dl
namespace Dl
open PySem PySem.Spec PyProof.Rows L2
section
variable {X : Cx} {B : Bs} {P : Program} {w : World} {K : PySem.W.Frag} {mg : Str → Option Value} {base : Heap}
/-! ### instances: fields, methods, making -/
def insOf (μ : Mu) : D → Option (Addr × List (Str × D))
  | .ins C fs => some (C, fs)
  | .ref a => match μ a with
    | some (.ins C fs) => some (C, fs)
    | _ => none
  | _ => none
theorem insOf_at {K : PySem.W.Frag} {H G F : Hp} {μ : Mu} {v : V} {d : D} {C : Addr} {fs : List (Str × D)} (hh : Hold K H G F μ) (a : At K G v d) (e : insOf μ d = some (C, fs)) : ∃ p dx vs, v = .ref p ∧ H p = some (.ins C dx vs) ∧ Atf K G vs fs := by
  cases a with
  | ins h r =>
    have e2 : some (_, _) = some (C, fs) := e
    cases e2
    exact ⟨_, _, _, rfl, hh.sub _ _ h, r⟩
  | ref a =>
    unfold insOf at e
    dsimp only at e
    cases q : μ a with
    | none => rw [q] at e; cases e
    | some o =>
      rw [q] at e
      cases o with
      | ins C' fs' =>
        cases e
        obtain ⟨_, dx, vs, h1, h2⟩ := hh.mu a _ q
        exact ⟨a, dx, vs, rfl, h1, h2⟩
      | _ => cases e
  | _ => cases e
structure Fld (K : PySem.W.Frag) (C : Addr) (f : Str) : Prop where
  cl : Cls K C
  no : NoAttr K C f
def dFld (C : Addr) (f : Str) (t : TED) : TED := fun ρ μ k => t ρ μ fun x μ1 => ∃ fs d, insOf μ1 x = some (C, fs) ∧ fs.lookup f = some d ∧ k d μ1
theorem pd_fld {C : Addr} {f : Str} {e : Expr} {t : TED} {pos : Pos} (hf : Fld K C f) (he : PD X B e t) (hb : attributeBase e f X.env (eval e X.env) = eval e X.env := by rfl) (hK : X.K = K := by rfl) : PD X B (.Attribute e f pos) (dFld C f t) := imE (pe_fld he hb) fun σ H Q ⟨G, ρ, μ, k, g0, hh, sl, q, kk⟩ => by
  subst hK
  refine ⟨G, ρ, μ, _, g0, hh, sl, q, fun v H1 G1 d μ1 s1 h1 a1 q1 => ?_⟩
  obtain ⟨fs, y, e1, e2, q1⟩ := q1
  obtain ⟨p, dx, vs, rfl, h2, r⟩ := insOf_at h1 a1 e1
  obtain ⟨w, e3, aw⟩ := r.look e2
  exact ⟨p, C, dx, vs, w, rfl, h2, hf.cl, hf.no, e3, kk w H1 G1 y μ1 s1 h1 aw q1⟩
theorem Atf.put {K : PySem.W.Frag} {G : Hp} {f : Str} {x : V} {y : D} (h : At K G x y) : ∀ {v : List (Str × V)} {d : List (Str × D)}, Atf K G v d → Atf K G (putF f x v) (putD f y d)
  | _, _, .nil => .cons h .nil
  | _, _, .cons (f := g) q t => by
    unfold putF putD
    split
    · rename_i e; subst e; exact .cons h t
    · exact .cons q (Atf.put h t)
def dSetF (C : Addr) (f : Str) (to te : TED) : TSD := fun E ρ μ => te ρ μ fun y μ1 => to ρ μ1 fun x μ2 => ∃ a fs, x = .ref a ∧ μ2 a = some (.ins C fs) ∧ fs.length < 1000 ∧ E.nx ρ (mput μ2 a (.ins C (putD f y fs)))
theorem pds_fld {C : Addr} {f : Str} {o e : Expr} {to te : TED} {pos pos' : Pos} (hf : Fld K C f) (ho : PD X B o to) (he : PD X B e te) (hs : swapsWith e (some (.Attribute o f pos')) pos.line X.env = pure false := by rfl) (hK : X.K = K := by rfl) : PDS X B (.Assign [.Attribute o f pos'] e pos) (dSetF C f to te) := imS (ps_fld ho he hs) fun D σ H ⟨G, ρ, μ, E, g0, hh, sl, q, k1, k2, k3, k4⟩ => by
  subst hK
  refine ⟨G, ρ, μ, _, g0, hh, sl, q, fun v H1 G1 d μ1 s1 h1 a1 q1 => ?_⟩
  refine ⟨G1, ρ, μ1, _, g0.trans s1, h1, sl.mono s1, q1, fun v2 H2 G2 d2 μ2 s2 h2 a2 q2 => ?_⟩
  obtain ⟨a, fs, rfl, e1, hl, q2⟩ := q2
  obtain ⟨_, dx, vs, h3, r⟩ := h2.mu a _ e1
  cases a2
  exact ⟨a, C, dx, vs, rfl, h3, hf.cl, hf.no, by rw [r.length]; exact hl, k1 σ _ G2 ρ _ (s1.trans s2) (h2.write (m := .ins C (putD f d fs)) e1 ⟨dx, _, upd_same, r.put (a1.mono s2)⟩) ((sl.mono s1).mono s2) q2⟩
/-- a method of a class, its promise -/
structure MethG (P : Program) (w : World) (K : PySem.W.Frag) (mg : Str → Option Value) (base : Heap) (j : Nat) (C : Addr) (m : Str) (ps : List Str) (sp : SpD) : Prop where
  cl : Cls K C
  ex : ∃ (f : Addr) (fd : FuncData), Meth K C m f ∧ Binds K fd ps [] ∧ FnOk P w K mg base (CXe P w) j f fd ps (lSp K sp)
def dMeth (C : Addr) (m : Str) (sp : SpD) (to : TED) (t : TAD) : TED := fun ρ μ k => to ρ μ fun x μ1 => ∃ fs, insOf μ1 x = some (C, fs) ∧ fs.lookup m = none ∧ t ρ μ1 fun ds μ2 => sp (x :: ds) μ2 k x0
theorem pd_meth {pl : Sem Bool} {j : Nat} {C : Addr} {m : Str} {ps : List Str} {sp : SpD} {o e : Expr} {es : List Expr} {to : TED} {t : TAD} {apos pos : Pos} (M : MethG P w K mg base j C m ps sp) (hr : Room j X.A) (ho : PD X B o to) (ha : PDA X B (e :: es) t) (hX : XIs X P w K mg base := by exact ⟨rfl, rfl, rfl, rfl, rfl⟩)
    (hst : starEach (e :: es) X.env = (false, eval e X.env) :: starEach es X.env := by rfl) (hpl : (backTo pos (starEach es X.env)).any (·.1) = false := by rfl)
    (ht : eval (.Call (.Attribute o m apos) (e :: es) [] pos) X.env = (do
      let ov ← eval o X.env
      standAt apos.atName
      let (f, first) ← holding [ov] (getMethod ov m pl)
      callWith pos f first (backTo pos (starEach (e :: es) X.env)) (backToKw pos (keywordEach [] X.env))) := by rfl) : PD X B (.Call (.Attribute o m apos) (e :: es) [] pos) (dMeth C m sp to t) := by
  obtain ⟨rfl, rfl, rfl, rfl, rfl⟩ := hX
  obtain ⟨f, fd, hm, hb, F⟩ := M.ex
  refine imE (pe_meth ho M.cl hm F hr hb .nil passE0 ha hst hpl ht) fun σ H Q ⟨G, ρ, μ, k, g0, hh, sl, q, kk⟩ => ?_
  refine ⟨G, ρ, μ, _, g0, hh, sl, q, fun v H1 G1 d μ1 s1 h1 a1 q1 => ?_⟩
  obtain ⟨fs, e1, e2, q1⟩ := q1
  obtain ⟨p, dx, vs, rfl, h2, r⟩ := insOf_at h1 a1 e1
  refine ⟨p, dx, vs, rfl, h2, r.look_none e2, ?_⟩
  refine ⟨G1, ρ, μ1, _, g0.trans s1, h1, sl.mono s1, q1, fun ws H2 G2 ds μ2 s2 h2 a2 q2 => ?_⟩
  show lSp X.K sp (_ :: (ws ++ [])) H2 Q _
  rw [List.append_nil]
  exact lSp_go h2 (.cons (a1.mono s2) a2) q2 fun v H' G' d μ' s' => kk v H' G' d μ' ((s1.trans s2).trans s')
theorem pd_meth0 {pl : Sem Bool} {j : Nat} {C : Addr} {m : Str} {ps : List Str} {sp : SpD} {o : Expr} {to : TED} {apos pos : Pos} (M : MethG P w K mg base j C m ps sp) (hr : Room j X.A) (ho : PD X B o to) (hX : XIs X P w K mg base := by exact ⟨rfl, rfl, rfl, rfl, rfl⟩)
    (ht : eval (.Call (.Attribute o m apos) [] [] pos) X.env = (do
      let ov ← eval o X.env
      standAt apos.atName
      let (f, first) ← holding [ov] (getMethod ov m pl)
      callWith pos f first (backTo pos (starEach [] X.env)) (backToKw pos (keywordEach [] X.env))) := by rfl) : PD X B (.Call (.Attribute o m apos) [] [] pos) (dMeth C m sp to dNil) := by
  obtain ⟨rfl, rfl, rfl, rfl, rfl⟩ := hX
  obtain ⟨f, fd, hm, hb, F⟩ := M.ex
  refine imE (pe_meth0 ho M.cl hm F hr hb .nil passE0 ht) fun σ H Q ⟨G, ρ, μ, k, g0, hh, sl, q, kk⟩ => ?_
  refine ⟨G, ρ, μ, _, g0, hh, sl, q, fun v H1 G1 d μ1 s1 h1 a1 q1 => ?_⟩
  obtain ⟨fs, e1, e2, q1⟩ := q1
  obtain ⟨p, dx, vs, rfl, h2, r⟩ := insOf_at h1 a1 e1
  refine ⟨p, dx, vs, rfl, h2, r.look_none e2, ?_⟩
  exact lSp_go (ds := [_]) h1 (.cons a1 .nil) q1 fun v H' G' d μ' s' => kk v H' G' d μ' (s1.trans s')
/-- a class of the module, by its name; its __init__'s promise -/
structure MkG (P : Program) (w : World) (K : PySem.W.Frag) (mg : Str → Option Value) (base : Heap) (j : Nat) (x : Str) (C : Addr) (ps : List Str) (sp : SpD) : Prop where
  hg : mg x = some (.ref C)
  ex : ∃ (f : Addr) (fd : FuncData), Mk K C f ∧ Binds K fd ps [] ∧ FnOk P w K mg base (CXe P w) j f fd ps (lSp K sp)
/-- C(..) of a class whose things never change behind the making -/
def rMake (C : Addr) (sp : SpD) : RAD := fun ds μ k => ∀ x, μ x = none → sp (.ref x :: ds) (mput μ x (.ins C [])) (fun v μ2 => v = .non ∧ ∃ fs, μ2 x = some (.ins C fs) ∧ k (.ins C fs) (mdel μ2 x)) x0
/-- .. whose things may change -/
def rMakeM (C : Addr) (sp : SpD) : RAD := fun ds μ k => ∀ x, μ x = none → sp (.ref x :: ds) (mput μ x (.ins C [])) (fun v μ2 => v = .non ∧ k (.ref x) μ2) x0
def dArgs (r : RAD) (t : TAD) : TED := fun ρ μ k => t ρ μ fun ds μ1 => r ds μ1 k
theorem make_hold {K : PySem.W.Frag} {H G F : Hp} {μ : Mu} {x dx C : Addr} (h : Hold K H G F μ) (nx : H x = none) (nd : H dx = none) (ne : dx ≠ x) : Hold K (upd (upd H dx (.own x)) x (.ins C dx [])) G F (mput μ x (.ins C [])) :=
  (h.junk nd _).newM (m := .ins C []) (by rw [upd_ne ne.symm]; exact nx) ⟨dx, [], upd_same, .nil⟩
theorem lMake {C : Addr} {sp : SpD} {vs : List V} {ds : List D} {H G : Hp} {μ : Mu} {k : KD} {Q : VK} (hh : Hold X.K H G B.f μ) (r : Ats X.K G vs ds) (q : rMake C sp ds μ k) (kk : ∀ v H' G' d μ', Same G G' → Hold X.K H' G' B.f μ' → At X.K G' v d → k d μ' → Q v H')
    (x dx : Addr) (nx : H x = none) (nd : H dx = none) (ne : dx ≠ x) : lSp X.K sp (.ref x :: vs) (upd (upd H dx (.own x)) x (.ins C dx [])) (fun v H2 => v = .non ∧ Q (.ref x) H2) (fun _ _ _ => False) := by
  refine lSp_go (make_hold hh nx nd ne) (.cons (.ref x) r) (q x (hh.mu_none nx)) fun v H' G' d μ' s' h' a' ⟨e1, fs, e2, q2⟩ => ?_
  subst e1
  obtain ⟨_, dx', vs', h3, r3⟩ := h'.mu x _ e2
  obtain ⟨h4, s4⟩ := h'.freeze e2 h3
  exact ⟨a'.non_inv, kk _ H' _ _ _ (s'.trans s4) h4 (.ins upd_same (r3.mono s4)) q2⟩
theorem lMakeM {C : Addr} {sp : SpD} {vs : List V} {ds : List D} {H G : Hp} {μ : Mu} {k : KD} {Q : VK} (hh : Hold X.K H G B.f μ) (r : Ats X.K G vs ds) (q : rMakeM C sp ds μ k) (kk : ∀ v H' G' d μ', Same G G' → Hold X.K H' G' B.f μ' → At X.K G' v d → k d μ' → Q v H')
    (x dx : Addr) (nx : H x = none) (nd : H dx = none) (ne : dx ≠ x) : lSp X.K sp (.ref x :: vs) (upd (upd H dx (.own x)) x (.ins C dx [])) (fun v H2 => v = .non ∧ Q (.ref x) H2) (fun _ _ _ => False) := by
  refine lSp_go (make_hold hh nx nd ne) (.cons (.ref x) r) (q x (hh.mu_none nx)) fun v H' G' d μ' s' h' a' ⟨e1, q2⟩ => ?_
  subst e1
  exact ⟨a'.non_inv, kk _ H' G' _ _ s' h' (.ref x) q2⟩
theorem pd_make {j : Nat} {x : Str} {C : Addr} {ps : List Str} {sp : SpD} {t : TAD} {e : Expr} {es : List Expr} {p pos : Pos} (M : MkG P w K mg base j x C ps sp) (hr : Room (j + 1) X.A) (ha : PDA X B (e :: es) t) (hX : XIs X P w K mg base := by exact ⟨rfl, rfl, rfl, rfl, rfl⟩) (hg : Gl X x := by rfl) (hdb : (x == ("__debug__" : Str)) = false := by decide)
    (he : starEach (e :: es) X.env = (false, eval e X.env) :: starEach es X.env := by rfl) (hpl : (backTo pos (starEach es X.env)).any (·.1) = false := by rfl) : PD X B (.Call (.Name x p) (e :: es) [] pos) (dArgs (rMake C sp) t) := by
  obtain ⟨rfl, rfl, rfl, rfl, rfl⟩ := hX
  obtain ⟨f, fd, hm, hb, F⟩ := M.ex
  refine imE (pe_make hm F hr hg M.hg hb .nil passE0 ha hdb he hpl) fun σ H Q ⟨G, ρ, μ, k, g0, hh, sl, q, kk⟩ => ?_
  refine ⟨G, ρ, μ, _, g0, hh, sl, q, fun vs H1 G1 ds μ1 s1 h1 a1 q1 x dx nx nd ne => ?_⟩
  rw [List.append_nil]
  exact lMake h1 a1 q1 (fun v H' G' d μ' s' => kk v H' G' d μ' (s1.trans s')) x dx nx nd ne
theorem pd_makeM {j : Nat} {x : Str} {C : Addr} {ps : List Str} {sp : SpD} {t : TAD} {e : Expr} {es : List Expr} {p pos : Pos} (M : MkG P w K mg base j x C ps sp) (hr : Room (j + 1) X.A) (ha : PDA X B (e :: es) t) (hX : XIs X P w K mg base := by exact ⟨rfl, rfl, rfl, rfl, rfl⟩) (hg : Gl X x := by rfl) (hdb : (x == ("__debug__" : Str)) = false := by decide)
    (he : starEach (e :: es) X.env = (false, eval e X.env) :: starEach es X.env := by rfl) (hpl : (backTo pos (starEach es X.env)).any (·.1) = false := by rfl) : PD X B (.Call (.Name x p) (e :: es) [] pos) (dArgs (rMakeM C sp) t) := by
  obtain ⟨rfl, rfl, rfl, rfl, rfl⟩ := hX
  obtain ⟨f, fd, hm, hb, F⟩ := M.ex
  refine imE (pe_make hm F hr hg M.hg hb .nil passE0 ha hdb he hpl) fun σ H Q ⟨G, ρ, μ, k, g0, hh, sl, q, kk⟩ => ?_
  refine ⟨G, ρ, μ, _, g0, hh, sl, q, fun vs H1 G1 ds μ1 s1 h1 a1 q1 x dx nx nd ne => ?_⟩
  rw [List.append_nil]
  exact lMakeM h1 a1 q1 (fun v H' G' d μ' s' => kk v H' G' d μ' (s1.trans s')) x dx nx nd ne
/-! ### subscripts -/
def seqOf (μ : Mu) : D → Option (List D)
  | .lst xs => some xs
  | .tup xs => some xs
  | .ref a => match μ a with
    | some (.lst xs) => some xs
    | _ => none
  | _ => none
theorem seqOf_at {K : PySem.W.Frag} {H G F : Hp} {μ : Mu} {v : V} {d : D} {xs : List D} (hh : Hold K H G F μ) (a : At K G v d) (e : seqOf μ d = some xs) : ∃ p vs, v = .ref p ∧ (SqL K H p vs ∨ SqT K H p vs) ∧ Ats K G vs xs := by
  cases a with
  | tup h r =>
    have e2 : some _ = some xs := e
    cases e2
    exact ⟨_, _, rfl, .inr (same_seqT hh.sub h), r⟩
  | lst h r =>
    have e2 : some _ = some xs := e
    cases e2
    exact ⟨_, _, rfl, .inl (hh.sub.seq h), r⟩
  | ref a =>
    unfold seqOf at e
    dsimp only at e
    cases q : μ a with
    | none => rw [q] at e; cases e
    | some o =>
      rw [q] at e
      cases o with
      | lst xs =>
        cases e
        obtain ⟨_, vs, h1, h2⟩ := hh.mu a _ q
        exact ⟨a, vs, rfl, .inl (SqL.of h1), h2⟩
      | _ => cases e
  | _ => cases e
theorem Ats.atI {K : PySem.W.Frag} {G : Hp} {vs : List V} {ds : List D} {i : Int} {x : D} (r : Ats K G vs ds) (e : L2.atI ds i = some x) : ∃ v, L2.atI vs i = some v ∧ At K G v x := by
  unfold L2.atI at e ⊢
  rw [r.length]
  cases q : ixN ds.length i with
  | none => rw [q] at e; cases e
  | some j => rw [q] at e; exact r.get e
/-- xs[i], t[i], s[i] -/
def rIxD : R2D := fun x y μ k => match x, y with
  | .str z, .int i => z.length ≤ 100000 ∧ ∃ c, L2.atI z.cps.toList i = some c ∧ k (.str ⟨#[c]⟩) μ
  | x, .int i => ∃ xs v, seqOf μ x = some xs ∧ L2.atI xs i = some v ∧ k v μ
  | _, _ => False
theorem orIx {r r' : R2} (h : IxR X r) (h' : IxR X r') : IxR X (fun x y H Q => r x y H Q ∨ r' x y H Q) := fun value slice pins s σ H x y v u Q I rx ry q hs => by
  rcases q with q | q
  · exact h value slice pins s σ H x y v u Q I rx ry q hs
  · exact h' value slice pins s σ H x y v u Q I rx ry q hs
theorem pd_ix {a b : Expr} {ta tb : TED} {pos : Pos} (ha : PD X B a ta) (hb : PD X B b tb) (hs : PlainIx b := by exact fun _ _ => rfl) : PD X B (.Subscript a b pos) (dOp rIxD ta tb) := imE (pe_ix (orIx (orIx ix_list ix_tup) ix_str) ha hb hs) fun σ H Q h => by
  refine (fun z => ?_ : ∀ z : tOp (l2 X.K B rIxD) (lE X.K B ta) (lE X.K B tb) σ H Q, _) (lOp σ H Q h)
  obtain ⟨G, ρ, μ, k, g0, hh, sl, q, kk⟩ := z
  refine ⟨G, ρ, μ, k, g0, hh, sl, q, fun v H1 G1 d μ1 s1 h1 a1 q1 => ?_⟩
  obtain ⟨G2, ρ2, μ2, k2, g2, hh2, sl2, q2, kk2⟩ := kk v H1 G1 d μ1 s1 h1 a1 q1
  refine ⟨G2, ρ2, μ2, k2, g2, hh2, sl2, q2, fun v2 H2 G3 d2 μ3 s3 h3 a3 q3 => ?_⟩
  obtain ⟨G4, μ4, dx, dy, k4, g4, h4, ax, ay, r4, kk4⟩ := kk2 v2 H2 G3 d2 μ3 s3 h3 a3 q3
  cases dy with
  | int i =>
    have ei := ay.int_inv
    subst ei
    cases dx with
    | str z =>
      obtain ⟨hz, c, e, r4⟩ := r4
      rw [ax.str_inv]
      exact .inr ⟨z, i, c, rfl, rfl, line_of hz, e, kk4 _ H2 G4 _ μ4 (Same.refl _) h4 (.str _) r4⟩
    | _ =>
      obtain ⟨xs, w, e1, e2, r4⟩ := r4
      obtain ⟨p, vs, rfl, hq, rr⟩ := seqOf_at h4 ax e1
      obtain ⟨y, e3, ay2⟩ := rr.atI e2
      rcases hq with hq | hq
      · exact .inl (.inl ⟨p, vs, i, y, rfl, rfl, hq, e3, kk4 _ H2 G4 _ μ4 (Same.refl _) h4 ay2 r4⟩)
      · exact .inl (.inr ⟨p, vs, i, y, rfl, rfl, hq, e3, kk4 _ H2 G4 _ μ4 (Same.refl _) h4 ay2 r4⟩)
  | _ => cases dx <;> exact r4.elim
end
end Dl
namespace Dl
open PySem PySem.Spec PyProof.Rows L2
section
variable {X : Cx} {B : Bs}
/-! ### ints -/
theorem opd_int {f : Value → Value → Sem Value} {C : Int → Int → Prop} {g : Int → Int → V} {gd : Int → Int → D} (h : OpR X f (rI C g)) (e : ∀ i j G, At X.K G (g i j) (gd i j)) :
    OpD X B f (fun a b μ k => match a, b with
      | .int i, .int j => C i j ∧ k (gd i j) μ
      | _, _ => False) := imO h fun x y H Q ⟨G, μ, dx, dy, k, g0, hh, ax, ay, r, kk⟩ => by
  cases dx with
  | int i =>
    cases dy with
    | int j =>
      obtain ⟨c, r⟩ := r
      exact ⟨i, j, ax.int_inv, ay.int_inv, c, kk _ H G _ μ (Same.refl _) hh (e i j G) r⟩
    | _ => exact r.elim
  | _ => cases dy <;> exact r.elim
theorem opd_int0 {f : Value → Value → Sem Value} {g : Int → Int → V} {gd : Int → Int → D} (h : OpR X f (rI0 g)) (e : ∀ i j G, At X.K G (g i j) (gd i j)) :
    OpD X B f (fun a b μ k => match a, b with
      | .int i, .int j => k (gd i j) μ
      | _, _ => False) := imO h fun x y H Q ⟨G, μ, dx, dy, k, g0, hh, ax, ay, r, kk⟩ => by
  cases dx with
  | int i =>
    cases dy with
    | int j => exact ⟨i, j, ax.int_inv, ay.int_inv, kk _ H G _ μ (Same.refl _) hh (e i j G) r⟩
    | _ => exact r.elim
  | _ => cases dy <;> exact r.elim
/-- an int's work as a reading -/
def rII (C : Int → Int → Prop) (g : Int → Int → D) : R2D := fun a b μ k => match a, b with
  | .int i, .int j => C i j ∧ k (g i j) μ
  | _, _ => False
def rI2 (g : Int → Int → D) : R2D := fun a b μ k => match a, b with
  | .int i, .int j => k (g i j) μ
  | _, _ => False
def CMulD (i j : Int) : Prop := ((-(2 ^ 64) < i ∧ i < 2 ^ 64) ∨ (-(2 ^ 64) < j ∧ j < 2 ^ 64)) ∨ i.natAbs.log2 + j.natAbs.log2 < 1000000
def CDivD (i j : Int) : Prop := j ≠ 0 ∧ j.natAbs.log2 < 9000
abbrev rSubD : R2D := rI2 fun i j => .int (i - j)
abbrev rMulD : R2D := rII CMulD fun i j => .int (i * j)
abbrev rFdivD : R2D := rII CDivD fun i j => .int (i.fdiv j)
abbrev rModD : R2D := rII (fun _ j => j ≠ 0) fun i j => .int (i.fmod j)
abbrev rPowD : R2D := rII CPow fun i j => .int (i ^ j.toNat)
abbrev rLtD : R2D := rI2 fun i j => .bl (decide (i < j))
abbrev rLeD : R2D := rI2 fun i j => .bl (decide (i ≤ j))
abbrev rGtD : R2D := rI2 fun i j => .bl (decide (j < i))
abbrev rGeD : R2D := rI2 fun i j => .bl (decide (j ≤ i))
theorem od_sub : OpD X B (binaryOp .Sub) rSubD := opd_int0 op_sub fun i j _ => .int _
theorem op_mulD : OpR X (binaryOp .Mult) (rI CMulD fun i j => .int (i * j)) := opI fun i j _ _ _ _ _ hc q => by
  rcases hc with hc | hc
  · exact mul_int q (CMul.ok hc)
  · exact mul_int q (CMulW.ok hc)
theorem od_mul : OpD X B (binaryOp .Mult) rMulD := opd_int op_mulD fun i j _ => .int _
theorem op_fdivD : OpR X (binaryOp .FloorDiv) (rI CDivD fun i j => .int (i.fdiv j)) := opI fun i j _ _ _ _ _ hc q => floordiv_int hc.1 q (.inl (PyProof.noPylong_of_log2 hc.2))
theorem od_fdiv : OpD X B (binaryOp .FloorDiv) rFdivD := opd_int op_fdivD fun i j _ => .int _
theorem od_mod : OpD X B (binaryOp .Mod) rModD := opd_int op_modN fun i j _ => .int _
theorem od_pow : OpD X B (binaryOp .Pow) rPowD := opd_int op_pow fun i j _ => .int _
theorem od_lt : OpD X B (compareOp .Lt) rLtD := opd_int0 op_lt fun i j _ => .bl _
theorem od_le : OpD X B (compareOp .LtE) rLeD := opd_int0 op_le fun i j _ => .bl _
theorem od_gt : OpD X B (compareOp .Gt) rGtD := opd_int0 op_gt fun i j _ => .bl _
theorem od_ge : OpD X B (compareOp .GtE) rGeD := opd_int0 op_ge fun i j _ => .bl _
def rU1 (g : Int → D) : R1D := fun a μ k => match a with
  | .int i => k (g i) μ
  | _ => False
theorem ud_neg : UnD X B (unaryOp .USub) (rU1 fun i => .int (-i)) := imU un_neg fun x H Q ⟨G, μ, dx, k, g0, hh, ax, r, kk⟩ => by
  cases dx with
  | int i => exact ⟨i, ax.int_inv, kk _ H G _ μ (Same.refl _) hh (.int _) r⟩
  | _ => exact r.elim
/-! ### +: ints, texts, lists, tuples -/
def rAddD : R2D := fun a b μ k => match a, b with
  | .int i, .int j => k (.int (i + j)) μ
  | .str x, .str y => x.length + y.length ≤ 100000 ∧ k (.str (x ++ y)) μ
  | _, _ => False
theorem od_add : OpD X B (binaryOp .Add) rAddD := imO (orO op_add op_add_str) fun x y H Q ⟨G, μ, dx, dy, k, g0, hh, ax, ay, r, kk⟩ => by
  cases dx with
  | int i =>
    cases dy with
    | int j => exact .inl ⟨i, j, ax.int_inv, ay.int_inv, kk _ H G _ μ (Same.refl _) hh (.int _) r⟩
    | _ => exact r.elim
  | str i =>
    cases dy with
    | str j => exact .inr ⟨i, j, ax.str_inv, ay.str_inv, line_of r.1, kk _ H G _ μ (Same.refl _) hh (.str _) r.2⟩
    | _ => exact r.elim
  | _ => cases dy <;> exact r.elim
/-! ### == of data -/
mutual
def toP : D → Option PyData
  | .non => some .none
  | .bl b => some (.bool b)
  | .int i => some (.int i)
  | .str x => some (.str x)
  | .tup xs => (toPs xs).map .tuple
  | .lst xs => (toPs xs).map .list
  | _ => none
def toPs : List D → Option (List PyData)
  | [] => some []
  | x :: xs => match toP x, toPs xs with
    | some p, some ps => some (p :: ps)
    | _, _ => none
end
mutual
theorem toP_dp {K : PySem.W.Frag} {G : Hp} : ∀ {v : V} {d : D} {p : PyData}, At K G v d → toP d = some p → Dp K G v p
  | _, _, _, .non, e => by cases e; exact .non
  | _, _, _, .bl b, e => by cases e; exact .bl b
  | _, _, _, .int i, e => by cases e; exact .int i
  | _, _, _, .str x, e => by cases e; exact .str x
  | _, _, _, .ty n, e => by cases e
  | _, _, _, .ref a, e => by cases e
  | _, _, _, .tup h r, e => by
    obtain ⟨ps, e1, rfl⟩ := Option.map_eq_some_iff.mp (show (toPs _).map PyData.tuple = some _ from e)
    exact .tup h (toPs_dp r e1)
  | _, _, _, .lst h r, e => by
    obtain ⟨ps, e1, rfl⟩ := Option.map_eq_some_iff.mp (show (toPs _).map PyData.list = some _ from e)
    exact .lst h (toPs_dp r e1)
  | _, _, _, .ins h r, e => by cases e
  | _, _, _, .dK h r, e => by cases e
  | _, _, _, .dT h r, e => by cases e
theorem toPs_dp {K : PySem.W.Frag} {G : Hp} : ∀ {v : List V} {d : List D} {p : List PyData}, Ats K G v d → toPs d = some p → DpAll K G v p
  | _, _, _, .nil, e => by cases e; exact .nil
  | _, _, _, .cons (d := d) (ds := ds) h r, e => by
    have e2 : (match toP d, toPs ds with
      | some p, some ps => some (p :: ps)
      | _, _ => none) = some _ := e
    split at e2
    · rename_i p ps h1 h2
      cases e2
      exact .cons (toP_dp h h1) (toPs_dp r h2)
    · cases e2
end
mutual
theorem dp_mono {K : PySem.W.Frag} {G G' : Hp} (e : Same G G') : ∀ {v : V} {p : PyData}, Dp K G v p → Dp K G' v p
  | _, _, .non => .non
  | _, _, .bl b => .bl b
  | _, _, .int i => .int i
  | _, _, .str x => .str x
  | _, _, .lst h r => .lst (e.seq h) (dps_mono e r)
  | _, _, .tup h r => .tup (same_seqT e h) (dps_mono e r)
theorem dps_mono {K : PySem.W.Frag} {G G' : Hp} (e : Same G G') : ∀ {v : List V} {p : List PyData}, DpAll K G v p → DpAll K G' v p
  | _, _, .nil => .nil
  | _, _, .cons h r => .cons (dp_mono e h) (dps_mono e r)
end
def toPm (μ : Mu) : D → Option PyData
  | .ref a => match μ a with
    | some (.lst xs) => (toPs xs).map .list
    | _ => none
  | d => toP d
theorem toPm_dp {K : PySem.W.Frag} {H G F : Hp} {μ : Mu} {v : V} {d : D} {p : PyData} (hh : Hold K H G F μ) (a : At K G v d) (e : toPm μ d = some p) : Dp K H v p := by
  cases d with
  | ref b =>
    cases a
    unfold toPm at e
    dsimp only at e
    cases q : μ b with
    | none => rw [q] at e; cases e
    | some o =>
      rw [q] at e
      cases o with
      | lst xs =>
        obtain ⟨_, vs, h1, h2⟩ := hh.mu b _ q
        obtain ⟨ps, e1, rfl⟩ := Option.map_eq_some_iff.mp e
        exact .lst (SqL.of h1) (dps_mono hh.sub (toPs_dp h2 e1))
      | _ => cases e
  | _ => exact dp_mono hh.sub (toP_dp a e)
/-- == (neg: !=) of data -/
def rEqB (neg : Bool) : R2D := fun a b μ k => match a, b with
  | .int i, .int j => k (.bl (decide (i = j) ^^ neg)) μ
  | .str x, .str y => k (.bl (decide (x = y) ^^ neg)) μ
  | a, b => ∃ p q, toPm μ a = some p ∧ toPm μ b = some q ∧ SeqAt.shaped p = true ∧ SeqAt.shaped q = true ∧ k (.bl (PyData.eqv p q ^^ neg)) μ
theorem beqd_int {i j : Int} : decide (V.int i = V.int j) = decide (i = j) := by simp
theorem beqd_str {i j : Str} : decide (V.str i = V.str j) = decide (i = j) := by simp
theorem od_eq (hu : X.A.units + 64 < cLine) : OpD X B (compareOp .Eq) (rEqB false) := imO (orO op_eq (op_eqD hu)) fun x y H Q ⟨G, μ, dx, dy, k, g0, hh, ax, ay, r, kk⟩ => by
  unfold rEqB at r
  split at r
  · rename_i i j
    rw [ax.int_inv, ay.int_inv]
    refine .inl ⟨rfl, ?_⟩
    rw [beqd_int]
    rw [Bool.xor_false] at r
    exact kk _ H G _ μ (Same.refl _) hh (.bl _) r
  · rename_i i j
    rw [ax.str_inv, ay.str_inv]
    refine .inl ⟨rfl, ?_⟩
    rw [beqd_str]
    rw [Bool.xor_false] at r
    exact kk _ H G _ μ (Same.refl _) hh (.bl _) r
  · obtain ⟨p, q, e1, e2, s1, s2, r⟩ := r
    rw [Bool.xor_false] at r
    exact .inr ⟨p, q, toPm_dp hh ax e1, toPm_dp hh ay e2, s1, s2, kk _ H G _ μ (Same.refl _) hh (.bl _) r⟩
theorem od_ne (hu : X.A.units + 64 < cLine) : OpD X B (compareOp .NotEq) (rEqB true) := imO (orO op_ne (op_neD hu)) fun x y H Q ⟨G, μ, dx, dy, k, g0, hh, ax, ay, r, kk⟩ => by
  unfold rEqB at r
  split at r
  · rename_i i j
    rw [ax.int_inv, ay.int_inv]
    refine .inl ⟨rfl, ?_⟩
    rw [beqd_int]
    rw [Bool.xor_true] at r
    exact kk _ H G _ μ (Same.refl _) hh (.bl _) r
  · rename_i i j
    rw [ax.str_inv, ay.str_inv]
    refine .inl ⟨rfl, ?_⟩
    rw [beqd_str]
    rw [Bool.xor_true] at r
    exact kk _ H G _ μ (Same.refl _) hh (.bl _) r
  · obtain ⟨p, q, e1, e2, s1, s2, r⟩ := r
    rw [Bool.xor_true] at r
    exact .inr ⟨p, q, toPm_dp hh ax e1, toPm_dp hh ay e2, s1, s2, kk _ H G _ μ (Same.refl _) hh (.bl _) r⟩
/-- is None, is not None -/
def isNonD : D → Bool
  | .non => true
  | _ => false
def rIsB (neg : Bool) : R2D := fun a b μ k => match b with
  | .non => k (.bl (isNonD a ^^ neg)) μ
  | _ => False
theorem isNonD_at {K : PySem.W.Frag} {G : Hp} {v : V} {d : D} (a : At K G v d) : decide (v = .non) = isNonD d := by
  cases a <;> simp [isNonD]
theorem od_is : OpD X B (compareOp .Is) (rIsB false) := imO op_isN fun x y H Q ⟨G, μ, dx, dy, k, g0, hh, ax, ay, r, kk⟩ => by
  cases dy with
  | non =>
    refine ⟨ay.non_inv, ?_⟩
    rw [isNonD_at ax]
    have r2 : k (.bl (isNonD dx ^^ false)) μ := r
    rw [Bool.xor_false] at r2
    exact kk _ H G _ μ (Same.refl _) hh (.bl _) r2
  | _ => exact r.elim
theorem od_isnot : OpD X B (compareOp .IsNot) (rIsB true) := imO op_notN fun x y H Q ⟨G, μ, dx, dy, k, g0, hh, ax, ay, r, kk⟩ => by
  cases dy with
  | non =>
    refine ⟨ay.non_inv, ?_⟩
    rw [isNonD_at ax]
    have r2 : k (.bl (isNonD dx ^^ true)) μ := r
    rw [Bool.xor_true] at r2
    exact kk _ H G _ μ (Same.refl _) hh (.bl _) r2
  | _ => exact r.elim
end
end Dl
namespace Dl
open PySem PySem.Spec PyProof.Rows L2
open PySem.W (Frag InstAt Looks findIn isFn subIn typeIn notFirst CmpBack looks_findIn looks_typeIn looks_subIn check_slot clsIn)
/-! ### != by object.__ne__ over an own __eq__ -/
section
variable {prog : Program} {w : World} {A : Around} {E : Value → Shared → Prop} {s : Shared} {K : Frag} {x C L f : Addr} {h₀ : Heap} {m : Str → Option Value} {ox : Obj} {od : Option Obj} {b tb : Value}
theorem ne_entry {Q : PySem.Fin → Shared → Prop} (X : K.In s.heap) (I : InstAt s.heap x ox C od) (hs : findIn K (.ref C) "__eq__" = some (some (.ref f))) (hf : isFn K (.ref f) = true) (hu : A.units < cLine)
    (h : wpAny (model prog w) A (call (.ref f) [.ref x, b]) (fun v s' => ∃ c, v = .bool c ∧ Q (.done (.ret (.bool (!c)))) s') E s) :
    wpAny (model prog w) A (Builtin.«object.__ne__» ⟨[.ref x, b], []⟩) Q E s := by
  obtain ⟨hp, g, d, tk, os⟩ := s
  unfold Builtin.«object.__ne__»
  repeat (first
    | with_reducible refine wpAny_cRoomFor hu ?_
    | (refine wpAny_bind (m := callSpecialIfBound? (.ref x) (Str.ofString "__eq__") [b])
        (PySem.W.ifBound_K X I hs hf (wpAny_mono h (fun r s' hr => by
          obtain ⟨b, rfl, hq⟩ := hr
          repeat (first | exact hq | exact wpAny_pure hq | exact wpAny_truthy_bool hq | (refine wpAny_bind (m := truthy (.bool _)) (wpAny_truthy_bool ?_)) | wp_step)) fun _ _ e => e)))
    | wp_step)
theorem ne_try {Q : Value → Shared → Prop} (hu : A.units + 1 < cLine) (F : Fr h₀ L s.heap m) (X₀ : K.In h₀) (I : InstAt s.heap x ox C od)
    (hne : findIn K (.ref C) "__ne__" = some (some (.builtin "object.__ne__"))) (hob : subIn K (.ref C) (.type "object") = some true) (hs : findIn K (.ref C) "__eq__" = some (some (.ref f))) (hf : isFn K (.ref f) = true)
    (h : wpAny (model prog w) A.in1 (call (.ref f) [.ref x, b]) (fun v s' => ∃ c, v = .bool c ∧ Q (.bool (!c)) s') E s) : wpAny (model prog w) A (tryCompare (.ref x) "__ne__" b) (fun r s' => ∃ v, r = some v ∧ Q v s') E s := by
  have X := X₀.keeps F.keep
  have sub : Looks (model prog w) s.heap (isInstance (.ref x) (.type "object")) true := I.type.andThen (looks_subIn X hob)
  unfold tryCompare
  have bc : wpAny (model prog w) A (callSpecialIfBound? (.ref x) "__ne__" [b]) (fun r s' => ∃ c, r = some (.bool c) ∧ Q (.bool c) s') E s := by
    have cl : wpAny (model prog w) A (call (.builtin "object.__ne__") [.ref x, b]) (fun v s' => ∃ c, v = .bool c ∧ Q (.bool c) s') E s := by
      refine wpAny_call (codeAny_call_builtin PySem.F.cmp_object.ne.plain PySem.F.cmpEntry_ne (@check_slot (model prog w) _ _ s "object.__ne__" "object" "__ne__" (.ref x) [b] [] _ PySem.F.cmpKind_ne PySem.F.cmpSplit_ne sub (PySem.F.cmpArgs_ne _ _) ?_))
      refine ne_entry (A := A.in1) X I hs hf hu (wpAny_mono h (fun v s' hv => ?_) fun _ _ e => e)
      obtain ⟨c, rfl, hq⟩ := hv
      exact ⟨c, rfl, !c, rfl, hq⟩
    simp only [callSpecialIfBound?, bindSpecialIfBound?]
    refine wpAny_holding (wpAny_bind (wpAny_bind (wpAny_bind (I.type.here ((looks_findIn X hne).here ?_)))))
    refine wpAny_bind (wpAny_askSetting (wpAny_ite ?_))
    have fin : wpAny (model prog w) A (call (.builtin "object.__ne__") ([.ref x] ++ [b]) >>= fun v => pure (some v)) (fun r s' => ∃ c, r = some (.bool c) ∧ Q (.bool c) s') E s := wpAny_bind (wpAny_mono cl (fun v s' ⟨c, e, q⟩ => wpAny_pure ⟨c, by rw [e], q⟩) fun _ _ h' => h')
    have bd : bindSpecial (.builtin "object.__ne__") (.ref x) = pure (.builtin "object.__ne__", [.ref x]) := by kernel_rfl
    rw [bd]
    split
    · exact wpAny_bind (wpAny_pure (wpAny_pure (by exact fin)))
    · exact wpAny_tryCatch (wpAny_bind (wpAny_pure (wpAny_pure (by exact fin))))
  refine wpAny_bind (wpAny_mono bc (fun r s' hr => ?_) fun _ _ e => e)
  obtain ⟨c, rfl, hq⟩ := hr
  exact wpAny_pure ⟨_, rfl, hq⟩
/-- a comparison whose left one is an instance, by what its first try gives -/
theorem left_K {op : CmpOp} {Q : Value → Shared → Prop} (hu : A.units < cLine) (X : K.In s.heap) (I : InstAt s.heap x ox C od) (hb : Looks (model prog w) s.heap (typeOf b) tb) (hn : notFirst K C tb = true)
    (one : wpAny (model prog w) A (tryCompare (.ref x) (cmpInfo op).2.1 b) (fun r s' => ∃ v, r = some v ∧ Q v s') E s) : wpAny (model prog w) A (richCompare op (.ref x) b) Q E s := by
  unfold richCompare
  simp only [oneThing_ref]
  refine wpAny_holding (wpAny_bind (wpAny_cRoomFor hu ?_))
  refine wpAny_bind (I.type.here (wpAny_bind (hb.here ?_)))
  split
  · rename_i q
    have e : subIn K tb (.ref C) = some false := by
      rcases Bool.or_eq_true_iff.mp hn with e | e
      · rw [beq_iff_eq.mp e] at q; simp at q
      · exact beq_iff_eq.mp e
    refine wpAny_bind ((looks_subIn X e).here ?_)
    simp only [Bool.false_eq_true, if_false]
    refine wpAny_bind (wpAny_mono one (fun r s' z => ?_) fun _ _ e => e)
    obtain ⟨v, rfl, hq⟩ := z
    exact wpAny_pure hq
  · refine wpAny_bind (wpAny_pure ?_)
    simp only [Bool.false_eq_true, if_false]
    refine wpAny_bind (wpAny_mono one (fun r s' z => ?_) fun _ _ e => e)
    obtain ⟨v, rfl, hq⟩ := z
    exact wpAny_pure hq
theorem ne_K {Q : Value → Shared → Prop} (hu : A.units + 1 < cLine) (F : Fr h₀ L s.heap m) (X₀ : K.In h₀) (I : InstAt s.heap x ox C od) (hb : Looks (model prog w) s.heap (typeOf b) tb) (hn : notFirst K C tb = true)
    (hne : findIn K (.ref C) "__ne__" = some (some (.builtin "object.__ne__"))) (hob : subIn K (.ref C) (.type "object") = some true) (hs : findIn K (.ref C) "__eq__" = some (some (.ref f))) (hf : isFn K (.ref f) = true)
    (h : wpAny (model prog w) A.in1 (call (.ref f) [.ref x, b]) (fun v s' => ∃ c, v = .bool c ∧ Q (.bool (!c)) s') E s) : wpAny (model prog w) A (richCompare .NotEq (.ref x) b) Q E s :=
  left_K (op := .NotEq) (by omega) (X₀.keeps F.keep) I hb hn (by rw [cmpInfo_NotEq]; exact ne_try hu F X₀ I hne hob hs hf h)
end
/-! ### the types of data -/
def tyD (μ : Mu) : D → Option Value
  | .non => some (.type "NoneType")
  | .bl _ => some (.type "bool")
  | .int _ => some (.type "int")
  | .str _ => some (.type "str")
  | .tup _ => some (.type "tuple")
  | .lst _ => some (.type "list")
  | .ins C _ => some (.ref C)
  | .dK _ => some (.type "dict")
  | .dT _ => some (.type "dict")
  | .ref a => match μ a with
    | some (.lst _) => some (.type "list")
    | some (.ins C _) => some (.ref C)
    | some (.dK _) => some (.type "dict")
    | some (.dT _) => some (.type "dict")
    | none => none
  | .ty _ => none
/-- what isinstance asks of a class of one's own -/
structure InsC (K : Frag) (C : Addr) : Prop where
  cl : Cls K C
  ha : findIn K (.ref C) "__class__" = some (some (.builtin "object.__class__"))
  hn : PySem.W.specialIn K (.builtin "object.__class__") "__get__" = some (some (.builtin "getset_descriptor.__get__"))
  tk : PySem.W.takesIn K (.builtin "object.__class__") = some true
  mr : PySem.W.mroIn K C (.type "object") = some true
theorem tyD_ins {K : Frag} {H : Hp} {a C dx : Addr} {fs : List (Str × V)} (e : H a = some (.ins C dx fs)) (c : InsC K C) : TyX K H (.ref a) (.ref C) := .base (.ins e c.cl c.ha c.hn c.tk c.mr)
theorem sqT_ty {K : Frag} {H : Hp} {a : Addr} {xs : List V} (h : SqT K H a xs) : TyX K H (.ref a) (.type "tuple") := by
  rcases h with (h | ⟨o, h⟩) | ⟨o, its, n, h1, h2, _⟩
  · exact .base (.tup h)
  · exact .fTuple h
  · exact .kTuple h1 h2
theorem sqL_ty {K : Frag} {H : Hp} {a : Addr} {xs : List V} (h : SqL K H a xs) : TyX K H (.ref a) (.type "list") := by
  rcases h with (h | ⟨o, h⟩) | ⟨o, its, n, h1, h2, _⟩
  · exact .base (.lst h)
  · exact .base (.frz h)
  · exact .kList h1 h2
theorem tyD_at {K : Frag} {H G F : Hp} {μ : Mu} {v : V} {d : D} {t : Value} (hh : Hold K H G F μ) (a : At K G v d) (e : tyD μ d = some t) (hi : ∀ C, t = .ref C → InsC K C) (hd : ∀ kvs, d ≠ .dT kvs) : TyX K H v t := by
  cases a with
  | non => cases e; exact .base .non
  | bl b => cases e; exact .base (.bl b)
  | int b => cases e; exact .base (.int b)
  | str b => cases e; exact .base (.str b)
  | ty n => cases e
  | tup h r => cases e; exact sqT_ty (same_seqT hh.sub h)
  | lst h r => cases e; exact sqL_ty (hh.sub.seq h)
  | ins h r => cases e; exact tyD_ins (hh.sub _ _ h) (hi _ rfl)
  | dK h r =>
    cases e
    rcases same_rd hh.sub h with h | ⟨o, h⟩
    · exact .base (.dK h)
    · exact .fDict h
  | dT h r => exact absurd rfl (hd _)
  | ref a =>
    unfold tyD at e
    dsimp only at e
    cases q : μ a with
    | none => rw [q] at e; cases e
    | some o =>
      rw [q] at e
      obtain ⟨_, m⟩ := hh.mu a o q
      cases o with
      | lst xs => cases e; obtain ⟨vs, h1, _⟩ := m; exact .base (.lst h1)
      | ins C fs => cases e; obtain ⟨dx, vs, h1, _⟩ := m; exact tyD_ins h1 (hi _ rfl)
      | dK xs => cases e; obtain ⟨vs, h1, _⟩ := m; exact .base (.dK h1)
      | dT xs => cases e; obtain ⟨vs, h1, _⟩ := m; exact .base (.dT h1)
section
variable {X : Cx} {B : Bs} {P : Program} {w : World} {K : Frag} {mg : Str → Option Value} {base : Heap}
theorem looks_ty {pins : List (Addr × Obj)} {σ : L2.St} {H : Hp} {s : Shared} {x : V} {u t : Value} {M : Model} (I : Inv X pins σ H s) (rx : RelV x u) (ty : TyX X.K H x t) : Looks M s.heap (typeOf u) t := by
  obtain ⟨P, k, p, _⟩ := kit_of I rx ty
  exact k.ty M _ I.kIn p
/-! ### comparisons by own methods -/
/-- an instance of the class at C, what stands beside it, the method's promise: a truth value -/
def rOwn (K : Frag) (C : Addr) (neg : Bool) (sp : SpD) : R2D := fun a b μ k => (∃ fs, insOf μ a = some (C, fs)) ∧ (∃ t, tyD μ b = some t ∧ notFirst K C t = true ∧ (∀ D, t = .ref D → InsC K D) ∧ ∀ kvs, b ≠ .dT kvs) ∧
  sp [a, b] μ (fun v μ' => ∃ c, v = .bl c ∧ k (.bl (c ^^ neg)) μ') x0
theorem run_own {CX : CXT} {j : Nat} {f : Addr} {fd : FuncData} {ps : List Str} {sp : Sp} {pins : List (Addr × Obj)} {σ : L2.St} {H : Hp} {s : Shared} {A : Around} {vs : List V} {us : List Value} {Q : VK} {E : XK} {Qs : Value → Shared → Prop}
    (F : FnOk X.prog X.w X.K X.mg X.base CX j f fd ps sp) (hr : Room j A) (hfr : A.frames = X.A.frames) (hb : Binds X.K fd ps []) (hx : Passes CX X E) (I : Inv X pins σ H s) (r : Vals vs us) (h : sp vs H Q E)
    (hq : ∀ u s', EP X pins σ Q u s' → Qs u s') : wpAny (model X.prog X.w) A (call (.ref f) us) Qs X.xe s := by
  have hl := F.len _ _ _ _ h
  have e0 : Env0 X.prog X.w X.K X.mg X.base A X.stack s H := by
    have e := I.env0
    exact ⟨by rw [hfr]; exact e.frames, e.mod, e.bs, e.bsz, e.funs, e.frf, e.hok, e.bare⟩
  refine wpAny_call (codeAny_mono (F.run A X.stack s H ⟨us, []⟩ us vs Q E hr e0 (by
    have := hb s us I.kIn (by rw [List.append_nil, ← r.length]; exact hl)
    rw [List.append_nil] at this
    exact this) r h) fun r s' hq' => ?_)
  cases r with
  | error e => exact hx pins σ H s e s' I hq'
  | ok fl =>
    cases fl with
    | ret w => exact hq w s' (I.after hq')
    | next => exact False.elim hq'
    | brk => exact False.elim hq'
    | cont => exact False.elim hq'
/-- a method of a class as an operator's: where it stands, its promise -/
structure OpG (P : Program) (w : World) (K : Frag) (mg : Str → Option Value) (base : Heap) (j : Nat) (C : Addr) (m : Str) (sp : SpD) : Prop where
  ex : ∃ (f : Addr) (fd : FuncData) (ps : List Str), findIn K (.ref C) m = some (some (.ref f)) ∧ isFn K (.ref f) = true ∧ Binds K fd ps [] ∧ FnOk P w K mg base (CXe P w) j f fd ps (lSp K sp)
theorem od_own {op : CmpOp} {j : Nat} {C : Addr} {m : Str} {sp : SpD} (M : OpG P w K mg base j C m sp) (hr : Room j X.A) (hm : (cmpInfo op).2.1 = m := by rfl) (hX : XIs X P w K mg base := by exact ⟨rfl, rfl, rfl, rfl, rfl⟩) (hop : ∀ a b, compareOp op a b = richCompare op a b := by intro _ _; rfl) : OpD X B (compareOp op) (rOwn K C false sp) := by
  subst hm
  obtain ⟨rfl, rfl, rfl, rfl, rfl⟩ := hX
  obtain ⟨f, fd, ps, hs, hf, hb, F⟩ := M.ex
  rintro pins s σ H x y u v Q I rx ry ⟨G, μ, dx, dy, k, g0, hh, ax, ay, ⟨⟨fs, e1⟩, ⟨t, e2, nf, hi, hd⟩, q⟩, kk⟩
  obtain ⟨p, dxx, vs, rfl, hH, _⟩ := insOf_at hh ax e1
  have ty := tyD_at hh ay e2 hi hd
  cases rx
  obtain ⟨mA, J, _⟩ := ins_get I.hok hH
  obtain ⟨od, J, _⟩ := J.look
  obtain ⟨m, hF⟩ := I.fr
  rw [hop]
  refine PySem.W.cmp_K (op := op) (tb := t) hr.units0 hF I.ok.mod.kin J (looks_ty I ry ty) nf hs hf ?_
  refine run_own F hr rfl hb passE0 I (.cons (show L2.RelV (.ref p) (.ref p) from rfl) (.cons ry .nil)) (lSp_go (Q := fun z H' => ∃ c, z = .bl c ∧ Q (.bl c) H') hh (.cons ax (.cons ay .nil)) q fun z H' G' d μ' s' h' a' ⟨c, e, q'⟩ => ?_) fun z s' hz => ?_
  · subst e
    rw [Bool.xor_false] at q'
    exact ⟨c, a'.bl_inv, kk _ H' G' _ μ' s' h' (.bl c) q'⟩
  · obtain ⟨z, H', I', rz, c, ez, q'⟩ := hz
    subst ez
    cases rz
    exact ⟨.bl c, H', I', rfl, q'⟩
/-- != over an own __eq__ -/
structure NeC (K : Frag) (C : Addr) : Prop where
  ne : findIn K (.ref C) "__ne__" = some (some (.builtin "object.__ne__"))
  ob : subIn K (.ref C) (.type "object") = some true
theorem od_ownNe {j : Nat} {C : Addr} {sp : SpD} (M : OpG P w K mg base j C "__eq__" sp) (N : NeC K C) (hr : Room (j + 1) X.A) (hX : XIs X P w K mg base := by exact ⟨rfl, rfl, rfl, rfl, rfl⟩) : OpD X B (compareOp .NotEq) (rOwn K C true sp) := by
  obtain ⟨rfl, rfl, rfl, rfl, rfl⟩ := hX
  obtain ⟨f, fd, ps, hs, hf, hb, F⟩ := M.ex
  rintro pins s σ H x y u v Q I rx ry ⟨G, μ, dx, dy, k, g0, hh, ax, ay, ⟨⟨fs, e1⟩, ⟨t, e2, nf, hi, hd⟩, q⟩, kk⟩
  obtain ⟨p, dxx, vs, rfl, hH, _⟩ := insOf_at hh ax e1
  have ty := tyD_at hh ay e2 hi hd
  cases rx
  obtain ⟨mA, J, _⟩ := ins_get I.hok hH
  obtain ⟨od, J, _⟩ := J.look
  obtain ⟨m, hF⟩ := I.fr
  show wpAny _ _ (richCompare .NotEq (.ref p) v) _ _ _
  refine ne_K (tb := t) (by have := hr.units; omega) hF I.ok.mod.kin J (looks_ty I ry ty) nf N.ne N.ob hs hf ?_
  refine run_own F hr.in1 rfl hb passE0 I (.cons (show L2.RelV (.ref p) (.ref p) from rfl) (.cons ry .nil)) (lSp_go (Q := fun z H' => ∃ c, z = .bl c ∧ Q (.bl (!c)) H') hh (.cons ax (.cons ay .nil)) q fun z H' G' d μ' s' h' a' ⟨c, e, q'⟩ => ?_) fun z s' hz => ?_
  · subst e
    rw [Bool.xor_true] at q'
    exact ⟨c, a'.bl_inv, kk _ H' G' _ μ' s' h' (.bl _) q'⟩
  · obtain ⟨z, H', I', rz, c, ez, q'⟩ := hz
    subst ez
    cases rz
    exact ⟨c, rfl, .bl (!c), H', I', rfl, q'⟩
/-! ### isinstance -/
theorem pd_fnB {id : String} {r : RAD} {x : Str} {e : Expr} {es : List Expr} {t : TAD} {p pos : Pos} (hc : CallD X B (.builtin id) r) (hm : X.mg x = none) (ha : PDA X B (e :: es) t) (hv : bootBuiltins x = some (.builtin id) := by decide +kernel) (hg : Gl X x := by rfl) (hn : x ≠ "__name__" := by decide) (hdb : (x == ("__debug__" : Str)) = false := by decide)
    (he : starEach (e :: es) X.env = (false, eval e X.env) :: starEach es X.env := by rfl) (hpl : (backTo pos (starEach es X.env)).any (·.1) = false := by rfl) : PD X B (.Call (.Name x p) (e :: es) [] pos) (dArgs r t) := imE (pe_callB hc hg hm hv ha hn hdb he hpl) fun σ H Q ⟨G, ρ, μ, k, g0, hh, sl, q, kk⟩ =>
  ⟨G, ρ, μ, _, g0, hh, sl, q, fun vs H1 G1 ds μ1 s1 h1 a1 q1 => ⟨G1, μ1, ds, k, g0.trans s1, h1, a1, q1, fun v3 H3 G3 d3 μ3 s3 => kk v3 H3 G3 d3 μ3 (s1.trans s3)⟩⟩
theorem pd_fnT {T : String} {r : RAD} {x : Str} {e : Expr} {es : List Expr} {t : TAD} {p pos : Pos} (hc : CallD X B (.type T) r) (hm : X.mg x = none) (ha : PDA X B (e :: es) t) (hv : bootBuiltins x = some (.type T) := by decide +kernel) (hg : Gl X x := by rfl) (hn : x ≠ "__name__" := by decide) (hdb : (x == ("__debug__" : Str)) = false := by decide)
    (he : starEach (e :: es) X.env = (false, eval e X.env) :: starEach es X.env := by rfl) (hpl : (backTo pos (starEach es X.env)).any (·.1) = false := by rfl) : PD X B (.Call (.Name x p) (e :: es) [] pos) (dArgs r t) := imE (pe_callTy hc hg hm hv ha hn hdb he hpl) fun σ H Q ⟨G, ρ, μ, k, g0, hh, sl, q, kk⟩ =>
  ⟨G, ρ, μ, _, g0, hh, sl, q, fun vs H1 G1 ds μ1 s1 h1 a1 q1 => ⟨G1, μ1, ds, k, g0.trans s1, h1, a1, q1, fun v3 H3 G3 d3 μ3 s3 => kk v3 H3 G3 d3 μ3 (s1.trans s3)⟩⟩
def clsV : D → Option Value
  | .ty n => some (.type n)
  | .ref C => some (.ref C)
  | _ => none
def rIsiD (K : Frag) : RAD := fun ds μ k => ∃ x c t u b, ds = [x, c] ∧ clsV c = some u ∧ tyD μ x = some t ∧ (∀ D, t = .ref D → InsC K D) ∧ (∀ kvs, x ≠ .dT kvs) ∧ PySem.W.kitOne K t u = some b ∧ k (.bl b) μ
theorem cd_isi (hK : X.K = K := by rfl) : CallD X B (.builtin "isinstance") (rIsiD K) := imC call_isi fun vs H Q ⟨G, μ, ds, k, g0, hh, a, ⟨x, c, t, u, b, e, e1, e2, hi, hd, e3, q⟩, kk⟩ => by
  subst hK
  subst e
  obtain ⟨v, w, rfl, av, aw⟩ := a.two
  refine ⟨v, w, t, u, b, rfl, ?_, tyD_at hh av e2 hi hd, e3, kk _ H G _ μ (Same.refl _) hh (.bl b) q⟩
  cases aw with
  | ty n => cases e1; exact .ty n
  | ref C => cases e1; exact .own C
  | _ => cases e1
/-! ### static methods of a class -/
structure SmG (P : Program) (w : World) (K : Frag) (mg : Str → Option Value) (base : Heap) (j : Nat) (x : Str) (C : Addr) (m : Str) (ps : List Str) (sp : SpD) : Prop where
  hg : mg x = some (.ref C)
  rd : ClX.CRead K C (.type "type")
  ex : ∃ (p f : Addr) (fd : FuncData), PySem.W.findCls K (.ref C) (.type "type") m = some (.get (.builtin "staticmethod.__get__") (.ref p) .none (.ref C)) ∧ (∃ rest, PySem.W.recIn K p "staticmethod" = some (.ref f :: rest)) ∧ PySem.W.keepIn K (.ref f) = true ∧
    Binds K fd ps [] ∧ FnOk P w K mg base (CXe P w) j f fd ps (lSp K sp)
theorem pd_sm {pl : Sem Bool} {j : Nat} {x : Str} {C : Addr} {m : Str} {ps : List Str} {sp : SpD} {t : TAD} {e : Expr} {es : List Expr} {p apos pos : Pos} (S : SmG P w K mg base j x C m ps sp) (hr : Room j X.A) (ha : PDA X B (e :: es) t) (hX : XIs X P w K mg base := by exact ⟨rfl, rfl, rfl, rfl, rfl⟩) (hg : Gl X x := by rfl) (hdb : (x == ("__debug__" : Str)) = false := by decide)
    (hst : starEach (e :: es) X.env = (false, eval e X.env) :: starEach es X.env := by rfl) (hpl : (backTo pos (starEach es X.env)).any (·.1) = false := by rfl)
    (ht : eval (.Call (.Attribute (.Name x p) m apos) (e :: es) [] pos) X.env = (do
      let ov ← eval (.Name x p) X.env
      standAt apos.atName
      let (f, first) ← holding [ov] (getMethod ov m pl)
      callWith pos f first (backTo pos (starEach (e :: es) X.env)) (backToKw pos (keywordEach [] X.env))) := by rfl) : PD X B (.Call (.Attribute (.Name x p) m apos) (e :: es) [] pos) (dCall sp t) := by
  obtain ⟨rfl, rfl, rfl, rfl, rfl⟩ := hX
  obtain ⟨q, f, fd, hc, ⟨rest, hrec⟩, hk, hb, F⟩ := S.ex
  refine ⟨fun pins s σ H Q I h => ?_⟩
  refine PySem.W.methodCall_KW (pl := pl) (ld_glob I hg S.hg ?_ hdb) ht
  refine PySem.W.method_cls I.kIn S.rd.ga ?_
  refine PySem.W.cls_bind I.kIn S.rd.rd hc ?_
  refine wpAny_call (PySem.W.sm_get (s := { s with toks := s.toks + 1 }) I.kIn hrec (PySem.W.handed_on rfl ?_))
  have I2 : Inv X pins σ H { s with toks := s.toks + 1 } := I.tok _
  obtain ⟨G, ρ, μ, k, g0, hh, sl, q1, kk⟩ := h
  refine PySem.W.callWith_K (h₀ := X.base) I2.ok.mod.kin hk (thn (ha.run pos pins _ σ H _ I2 ⟨G, ρ, μ, _, g0, hh, sl, q1, fun vs H1 G1 ds μ1 s1 h1 a1 q2 => (lSp_go h1 a1 q2 fun v H' G' d μ' s' => kk v H' G' d μ' (s1.trans s') : lSp X.K sp vs H1 Q _)⟩) fun us s1 ⟨vs, H1, I1, r, q⟩ => ⟨I1.kIn, ?_⟩) hst hpl
  exact run_fn F hr hb .nil passE0 I1 r (by rw [List.append_nil]; exact q)
/-! ### lists that grow; things that stay from now on -/
def dAppend (i : Nat) (t : TED) : TED := fun ρ μ k => ∃ p, ρ[i]? = some (some (.ref p)) ∧ t ρ μ fun x μ1 => ∃ xs, μ1 p = some (.lst xs) ∧ xs.length ≤ 100000 ∧ k .non (mput μ1 p (.lst (xs ++ [x])))
/-- the list in slot i is from here on data -/
def dFrz (i : Nat) (t : TSD) : TSD := fun E ρ μ => ∃ p xs, ρ[i]? = some (some (.ref p)) ∧ μ p = some (.lst xs) ∧ t E (ρ.set i (some (.lst xs))) (mdel μ p)
theorem slots_put {K : Frag} {G : Hp} {σ : L2.St} {ρ : SD} {i : Nat} {v : V} {d : D} (s : Slots K G σ ρ) (e : σ[i]? = some (some v)) (a : At K G v d) : Slots K G σ (ρ.set i (some d)) := by
  have h := s.set i a
  have z : σ.set i (some v) = σ := by
    refine List.ext_getElem? fun j => ?_
    by_cases hj : i = j
    · subst hj
      rw [e]
      exact List.getElem?_set_self (by
        rcases Nat.lt_or_ge i σ.length with h | h
        · exact h
        · rw [List.getElem?_eq_none h] at e; cases e)
    · rw [List.getElem?_set_ne hj]
  rw [z] at h
  exact h
theorem pds_frz {st : Stmt} {t : TSD} (i : Nat) (h : PDS X B st t) : PDS X B st (dFrz i t) := imS h fun D σ H ⟨G, ρ, μ, E, g0, hh, sl, ⟨p, xs, e1, e2, q⟩, k1, k2, k3, k4⟩ => by
  obtain ⟨_, vs, h1, r⟩ := hh.mu p _ e2
  obtain ⟨h2, s2⟩ := hh.freeze e2 h1
  obtain ⟨v, ev, av⟩ := sl.at_ i _ e1
  cases av
  exact lS_go g0 s2 h2 (slots_put (sl.mono s2) ev (.lst (SqL.of upd_same) (r.mono s2))) q k1 k2 k3 k4
end
end Dl
namespace Dl
open PySem PySem.Spec PyProof.Rows L2
section
variable {X : Cx} {B : Bs}
/-! ### built-in functions -/
def rLenD : RAD := fun ds μ k => match ds with
  | [.str z] => z.length ≤ 100000 ∧ k (.int z.length) μ
  | [d] => ∃ xs, seqOf μ d = some xs ∧ k (.int xs.length) μ
  | _ => False
theorem cd_len : CallD X B (.builtin "len") rLenD := imC call_len fun vs H Q ⟨G, μ, ds, k, g0, hh, a, q, kk⟩ => by
  cases a with
  | nil => exact q.elim
  | @cons v d _ _ a1 t =>
    cases t with
    | cons _ _ => exact (show False by unfold rLenD at q; split at q <;> simp_all).elim
    | nil =>
      by_cases hs : ∃ z, d = .str z
      · obtain ⟨z, rfl⟩ := hs
        have q2 : z.length ≤ 100000 ∧ k (.int z.length) μ := q
        rw [a1.str_inv]
        exact ⟨.str z, z.length, rfl, ⟨line_of q2.1, rfl⟩, kk _ H G _ μ (Same.refl _) hh (.int _) q2.2⟩
      · have q2 : ∃ xs, seqOf μ d = some xs ∧ k (.int xs.length) μ := by
          unfold rLenD at q
          split at q
          · rename_i z e; cases e; exact absurd ⟨z, rfl⟩ hs
          · rename_i d' _ e; cases e; exact q
          · exact q.elim
        obtain ⟨xs, e, q2⟩ := q2
        obtain ⟨p, ws, rfl, hq, r⟩ := seqOf_at hh a1 e
        refine ⟨.ref p, ws.length, rfl, ?_, by rw [r.length]; exact kk _ H G _ μ (Same.refl _) hh (.int _) q2⟩
        rcases hq with hq | hq
        · exact .inl ⟨ws, hq, rfl⟩
        · exact .inr ⟨ws, hq, rfl⟩
def rInt1 (g : Int → D) : RAD := fun ds μ k => match ds with
  | [.int i] => k (g i) μ
  | _ => False
theorem cd_abs : CallD X B (.builtin "abs") (rInt1 fun i => .int (if i < 0 then -i else i)) := imC call_abs fun vs H Q ⟨G, μ, ds, k, g0, hh, a, q, kk⟩ => by
  unfold rInt1 at q
  split at q
  · rename_i i
    obtain ⟨v, rfl, av⟩ := a.one
    rw [av.int_inv]
    exact ⟨i, rfl, kk _ H G _ μ (Same.refl _) hh (.int _) q⟩
  · exact q.elim
def rIntD : RAD := fun ds μ k => match ds with
  | [.int i] => k (.int i) μ
  | [.bl b] => k (.int (if b then 1 else 0)) μ
  | _ => False
theorem cd_int : CallD X B (.type "int") rIntD := imC call_int1 fun vs H Q ⟨G, μ, ds, k, g0, hh, a, q, kk⟩ => by
  unfold rIntD at q
  split at q
  · rename_i i
    obtain ⟨v, rfl, av⟩ := a.one
    rw [av.int_inv]
    exact .inl ⟨i, rfl, kk _ H G _ μ (Same.refl _) hh (.int _) q⟩
  · rename_i i
    obtain ⟨v, rfl, av⟩ := a.one
    rw [av.bl_inv]
    exact .inr ⟨i, rfl, kk _ H G _ μ (Same.refl _) hh (.int _) q⟩
  · exact q.elim
def rInt2 (g : Int → Int → D) : RAD := fun ds μ k => match ds with
  | [.int i, .int j] => k (g i j) μ
  | _ => False
theorem cd_max2 (hc : X.calm = true) : CallD X B (.builtin "max") (rInt2 fun i j => .int (if j > i then j else i)) := imC (call_max2 hc) fun vs H Q ⟨G, μ, ds, k, g0, hh, a, q, kk⟩ => by
  unfold rInt2 at q
  split at q
  · rename_i i j
    obtain ⟨v, w, rfl, av, aw⟩ := a.two
    rw [av.int_inv, aw.int_inv]
    exact ⟨i, j, rfl, kk _ H G _ μ (Same.refl _) hh (.int _) q⟩
  · exact q.elim
theorem cd_min2 (hc : X.calm = true) : CallD X B (.builtin "min") (rInt2 fun i j => .int (if j < i then j else i)) := imC (call_min2 hc) fun vs H Q ⟨G, μ, ds, k, g0, hh, a, q, kk⟩ => by
  unfold rInt2 at q
  split at q
  · rename_i i j
    obtain ⟨v, w, rfl, av, aw⟩ := a.two
    rw [av.int_inv, aw.int_inv]
    exact ⟨i, j, rfl, kk _ H G _ μ (Same.refl _) hh (.int _) q⟩
  · exact q.elim
/-- repr of what is flat -/
def reprD : D → Option Str
  | .non => some "None"
  | .bl b => some (if b then "True" else "False")
  | .int i => if i.natAbs.log2 < 1920 then some (toString i : String) else none
  | _ => none
def rRepr : RAD := fun ds μ k => ∃ d z, ds = [d] ∧ reprD d = some z ∧ k (.str z) μ
theorem call_repr : CallR X (.builtin "repr") (fun xs H Q => xs = [.non] ∧ Q (.str "None") H ∨ (∃ b, xs = [.bl b] ∧ Q (.str (if b then "True" else "False")) H) ∨ ∃ i, xs = [.int i] ∧ i.natAbs.log2 < 1920 ∧ Q (.str (toString i : String)) H) := by
  intro pins s σ H xs us Q I r h
  rcases h with ⟨rfl, q⟩ | ⟨b, rfl, q⟩ | ⟨i, rfl, hz, q⟩
  · cases r with
    | cons r1 r2 =>
      cases r2
      obtain rfl : _ = Value.none := r1
      exact PySem.P.repr_of_none ⟨.str _, H, I.tok _, ⟨_, rfl⟩, q⟩
  · cases r with
    | cons r1 r2 =>
      cases r2
      obtain rfl : _ = Value.bool b := r1
      refine PySem.P.repr_of_bool ⟨.str (if b then "True" else "False"), H, I.tok _, ?_, q⟩
      cases b <;> exact ⟨_, rfl⟩
  · cases r with
    | cons r1 r2 =>
      cases r2
      obtain ⟨t, rfl⟩ := r1
      exact PySem.P.repr_of_int hz ⟨.str _, H, I.tok _, ⟨_, rfl⟩, q⟩
theorem cd_repr : CallD X B (.builtin "repr") rRepr := imC call_repr fun vs H Q ⟨G, μ, ds, k, g0, hh, a, ⟨d, z, e0, e, q⟩, kk⟩ => by
  subst e0
  obtain ⟨v, rfl, av⟩ := a.one
  cases av with
  | non => cases e; exact .inl ⟨rfl, kk _ H G _ μ (Same.refl _) hh (.str _) q⟩
  | bl b => cases e; exact .inr (.inl ⟨b, rfl, kk _ H G _ μ (Same.refl _) hh (.str _) q⟩)
  | int i =>
    unfold reprD at e
    dsimp only at e
    split at e
    · rename_i hz
      cases e
      exact .inr (.inr ⟨i, rfl, hz, kk _ H G _ μ (Same.refl _) hh (.str _) q⟩)
    · cases e
  | _ => cases e
/-! ### append -/
def dApp (to : TED) (t : TAD) : TED := fun ρ μ k => to ρ μ fun o μ0 => ∃ p, o = .ref p ∧ (∃ ys, μ0 p = some (.lst ys)) ∧ t ρ μ0 fun ds μ1 => ∃ x xs, ds = [x] ∧ μ1 p = some (.lst xs) ∧ xs.length ≤ 100000 ∧ k .non (mput μ1 p (.lst (xs ++ [x])))
theorem pd_app {o e : Expr} {to : TED} {t : TAD} {apos cpos : Pos} (ho : PD X B o to) (ha : PDA X B [e] t)
    (hbase : attributeBase o "append" X.env (eval o X.env) = eval o X.env := by rfl)
    (hfew : ((backTo cpos (starEach [e] X.env)).all (fun x => !x.1) && (backToKw cpos (keywordEach [] X.env)).all (fun x => x.1.isSome)
      && decide ([e].length + ([] : List Keyword).length + (if ([] : List Keyword).isEmpty then 0 else 1) < 30)) = true := by rfl)
    (hline : (apos.endLine == cpos.line) = true := by rfl) (hs : starEach [e] X.env = (false, eval e X.env) :: starEach [] X.env := by rfl) (hplain : (backTo cpos (starEach [] X.env)).any (·.1) = false := by rfl) : PD X B (.Call (.Attribute o "append" apos) [e] [] cpos) (dApp to t) :=
  imE (pe_bm PySem.F.plainAttrs_list PySem.F.slot_list_append PySem.F.type_list_append mt_append ho ha hbase hfew hline hs hplain) fun σ H Q ⟨G, ρ, μ, k, g0, hh, sl, q, kk⟩ => by
    refine ⟨G, ρ, μ, _, g0, hh, sl, q, fun v H1 G1 d μ1 s1 h1 a1 q1 => ?_⟩
    obtain ⟨p, rfl, ⟨ys, e1⟩, q1⟩ := q1
    cases a1
    obtain ⟨_, ws, h2, _⟩ := h1.mu p _ e1
    refine ⟨.inl ⟨rfl, ws, SqL.of h2⟩, ?_⟩
    refine ⟨G1, ρ, μ1, _, g0.trans s1, h1, sl.mono s1, q1, fun vs H2 G2 ds μ2 s2 h2 a2 q2 => ?_⟩
    obtain ⟨x, xs, rfl, e2, hz, q2⟩ := q2
    obtain ⟨v, rfl, av⟩ := a2.one
    obtain ⟨_, zs, h3, r3⟩ := h2.mu p _ e2
    exact ⟨p, zs, v, rfl, rfl, h3, by rw [r3.length]; exact line_lt hz, kk _ _ G2 _ _ (s1.trans s2) (h2.write (m := .lst (xs ++ [x])) e2 ⟨_, upd_same, r3.append (.cons av .nil)⟩) .non q2⟩
/-- o[i] = e, o a list of the store -/
def dSetI (to ti te : TED) : TSD := fun E ρ μ => te ρ μ fun v μ1 => to ρ μ1 fun o μ2 => ti ρ μ2 fun i μ3 => ∃ p xs j n, o = .ref p ∧ i = .int j ∧ μ3 p = some (.lst xs) ∧ ixN xs.length j = some n ∧ E.nx ρ (mput μ3 p (.lst (xs.set n v)))
theorem pds_setI {o i e : Expr} {to ti te : TED} {p pos : Pos} (ho : PD X B o to) (hi : PD X B i ti) (he : PD X B e te)
    (hs : swapsWithSole [.Subscript o i p] e pos.line X.env = pure false := by rfl) (hw : swappedStores [.Subscript o i p] e X.env = pure none := by rfl) (h1 : (assignEach [.Subscript o i p] X.env).map (·.2) = [assign (.Subscript o i p) X.env] := by rfl)
    (ha : ∀ v, assign (.Subscript o i p) X.env v = (do
      let ov ← holding [v] (eval o X.env)
      let iv ← holding [v, ov] (eval i X.env)
      standAt p
      holding [v, ov, iv] (setItem ov iv v)
      release [v, ov, iv] []) := by intro _; rfl) : PDS X B (.Assign [.Subscript o i p] e pos) (dSetI to ti te) := imS (ps_asg he (pg_sub ho hi set_list ha) hs hw h1) fun D σ H ⟨G, ρ, μ, E, g0, hh, sl, q, k1, k2, k3, k4⟩ => by
  refine ⟨G, ρ, μ, _, g0, hh, sl, q, fun v H1 G1 d μ1 s1 h1 a1 q1 => ?_⟩
  refine ⟨G1, ρ, μ1, _, g0.trans s1, h1, sl.mono s1, q1, fun v2 H2 G2 d2 μ2 s2 h2 a2 q2 => ?_⟩
  refine ⟨G2, ρ, μ2, _, (g0.trans s1).trans s2, h2, (sl.mono s1).mono s2, q2, fun v3 H3 G3 d3 μ3 s3 h3 a3 q3 => ?_⟩
  obtain ⟨p, xs, j, n, e1, e2, e3, e4, q3⟩ := q3
  subst e1 e2
  cases a2
  obtain ⟨_, zs, h4, r4⟩ := h3.mu p _ e3
  rw [a3.int_inv]
  have s13 := (s1.trans s2).trans s3
  exact ⟨p, zs, j, n, rfl, rfl, h4, by rw [r4.length]; exact e4, k1 σ _ G3 ρ _ s13 (h3.write (m := .lst (xs.set n d)) e3 ⟨_, upd_same, r4.set ((a1.mono s2).mono s3) n⟩) (sl.mono s13) q3⟩
end
end Dl
namespace Dl
open PySem PySem.Spec PyProof.Rows L2
section
variable {X : Cx} {B : Bs}
/-- a built-in class as a value -/
theorem pd_ty {x : Str} {T : String} {pos : Pos} (hm : X.mg x = none) (hv : bootBuiltins x = some (.type T) := by decide +kernel) (hg : Gl X x := by rfl) (hn : x ≠ "__name__" := by decide) (hd : (x == ("__debug__" : Str)) = false := by decide) : PD X B (.Name x pos) (dC (.ty T)) :=
  pdc (pe_bltn (v := .ty T) hg hm hv rfl hn hd) fun _ => .ty T
theorem pd_gint {x : Str} {i : Int} {pos : Pos} (hm : ∃ t, X.mg x = some (.int i t)) (hg : Gl X x := by rfl) (hd : (x == ("__debug__" : Str)) = false := by decide) : PD X B (.Name x pos) (dC (.int i)) := by
  obtain ⟨t, hm⟩ := hm
  exact pd_glob (v := .int i) hm ⟨t, rfl⟩ (fun _ => .int i) hg hd
theorem pd_gstr {x z : Str} {pos : Pos} (hm : ∃ t, X.mg x = some (.str z t)) (hg : Gl X x := by rfl) (hd : (x == ("__debug__" : Str)) = false := by decide) : PD X B (.Name x pos) (dC (.str z)) := by
  obtain ⟨t, hm⟩ := hm
  exact pd_glob (v := .str z) hm ⟨t, rfl⟩ (fun _ => .str z) hg hd
end
/-! ### readings at data that is known: equations for simp -/
section
variable {μ : Mu} {k : KD}
theorem q_ixl {xs : List D} {i : Int} : rIxD (.lst xs) (.int i) μ k = ∃ v, L2.atI xs i = some v ∧ k v μ := by
  show (∃ ys v, some xs = some ys ∧ L2.atI ys i = some v ∧ k v μ) = _
  simp
theorem q_ixt {xs : List D} {i : Int} : rIxD (.tup xs) (.int i) μ k = ∃ v, L2.atI xs i = some v ∧ k v μ := by
  show (∃ ys v, some xs = some ys ∧ L2.atI ys i = some v ∧ k v μ) = _
  simp
theorem q_ixr {p : Addr} {i : Int} : rIxD (.ref p) (.int i) μ k = ∃ xs v, μ p = some (.lst xs) ∧ L2.atI xs i = some v ∧ k v μ := by
  show (∃ ys v, (match μ p with | some (.lst xs) => some xs | _ => none) = some ys ∧ L2.atI ys i = some v ∧ k v μ) = _
  apply propext
  constructor
  · rintro ⟨ys, v, e, e2, q⟩
    cases h : μ p with
    | none => rw [h] at e; cases e
    | some o =>
      rw [h] at e
      cases o with
      | lst zs => cases e; exact ⟨_, v, rfl, e2, q⟩
      | _ => cases e
  · rintro ⟨ys, v, e, e2, q⟩
    exact ⟨ys, v, by rw [e], e2, q⟩
theorem q_ixs {z : Str} {i : Int} : rIxD (.str z) (.int i) μ k = (z.length ≤ 100000 ∧ ∃ c, L2.atI z.cps.toList i = some c ∧ k (.str ⟨#[c]⟩) μ) := rfl
theorem q_at0 {α : Type} {x : α} {xs : List α} : L2.atI (x :: xs) 0 = some x := by
  unfold L2.atI ixN
  rw [if_pos (Int.le_refl 0), if_pos (by rw [List.length_cons]; omega)]
  rfl
theorem q_at1 {α : Type} {x y : α} {xs : List α} : L2.atI (x :: y :: xs) 1 = some y := by
  unfold L2.atI ixN
  rw [if_pos (by decide), if_pos (by rw [List.length_cons, List.length_cons]; omega)]
  rfl
theorem q_at2 {α : Type} {x y z : α} {xs : List α} : L2.atI (x :: y :: z :: xs) 2 = some z := by
  unfold L2.atI ixN
  rw [if_pos (by decide), if_pos (by rw [List.length_cons, List.length_cons, List.length_cons]; omega)]
  rfl
theorem q_at3 {α : Type} {x y z u : α} {xs : List α} : L2.atI (x :: y :: z :: u :: xs) 3 = some u := by
  unfold L2.atI ixN
  rw [if_pos (by decide), if_pos (by rw [List.length_cons, List.length_cons, List.length_cons, List.length_cons]; omega)]
  rfl
theorem q_ixn0 {n : Nat} : ixN (n + 1) 0 = some 0 := by
  unfold ixN
  rw [if_pos (Int.le_refl 0), if_pos (by omega)]
  rfl
theorem q_ixn1 {n : Nat} : ixN (n + 2) 1 = some 1 := by
  unfold ixN
  rw [if_pos (by decide), if_pos (by omega)]
  rfl
theorem q_i2 {g : Int → Int → D} {i j : Int} : rI2 g (.int i) (.int j) μ k = k (g i j) μ := rfl
theorem q_ii {C : Int → Int → Prop} {g : Int → Int → D} {i j : Int} : rII C g (.int i) (.int j) μ k = (C i j ∧ k (g i j) μ) := rfl
theorem q_u1 {g : Int → D} {i : Int} : rU1 g (.int i) μ k = k (g i) μ := rfl
theorem q_addi {i j : Int} : rAddD (.int i) (.int j) μ k = k (.int (i + j)) μ := rfl
theorem q_adds {x y : Str} : rAddD (.str x) (.str y) μ k = (x.length + y.length ≤ 100000 ∧ k (.str (x ++ y)) μ) := rfl
theorem q_eqi {i j : Int} {n : Bool} : rEqB n (.int i) (.int j) μ k = k (.bl (decide (i = j) ^^ n)) μ := rfl
theorem q_eqs {i j : Str} {n : Bool} : rEqB n (.str i) (.str j) μ k = k (.bl (decide (i = j) ^^ n)) μ := rfl
theorem q_isn {n : Bool} : rIsB n .non .non μ k = k (.bl (true ^^ n)) μ := rfl
theorem q_isb {b n : Bool} : rIsB n (.bl b) .non μ k = k (.bl (false ^^ n)) μ := rfl
theorem q_isi {i : Int} {n : Bool} : rIsB n (.int i) .non μ k = k (.bl (false ^^ n)) μ := rfl
theorem q_iss {x : Str} {n : Bool} : rIsB n (.str x) .non μ k = k (.bl (false ^^ n)) μ := rfl
theorem q_ist {xs : List D} {n : Bool} : rIsB n (.tup xs) .non μ k = k (.bl (false ^^ n)) μ := rfl
theorem q_isl {xs : List D} {n : Bool} : rIsB n (.lst xs) .non μ k = k (.bl (false ^^ n)) μ := rfl
theorem q_isx {C : Addr} {fs : List (Str × D)} {n : Bool} : rIsB n (.ins C fs) .non μ k = k (.bl (false ^^ n)) μ := rfl
theorem q_isr {a : Addr} {n : Bool} : rIsB n (.ref a) .non μ k = k (.bl (false ^^ n)) μ := rfl
theorem q_lenl {xs : List D} : rLenD [.lst xs] μ k = k (.int xs.length) μ := by
  show (∃ ys, some xs = some ys ∧ k (.int ys.length) μ) = _
  simp
theorem q_lent {xs : List D} : rLenD [.tup xs] μ k = k (.int xs.length) μ := by
  show (∃ ys, some xs = some ys ∧ k (.int ys.length) μ) = _
  simp
theorem q_lens {z : Str} : rLenD [.str z] μ k = (z.length ≤ 100000 ∧ k (.int z.length) μ) := rfl
theorem q_lenr {p : Addr} : rLenD [.ref p] μ k = ∃ xs, μ p = some (.lst xs) ∧ k (.int xs.length) μ := by
  show (∃ ys, (match μ p with | some (.lst xs) => some xs | _ => none) = some ys ∧ k (.int ys.length) μ) = _
  apply propext
  constructor
  · rintro ⟨ys, e, q⟩
    cases h : μ p with
    | none => rw [h] at e; cases e
    | some o =>
      rw [h] at e
      cases o with
      | lst zs => cases e; exact ⟨_, rfl, q⟩
      | _ => cases e
  · rintro ⟨ys, e, q⟩
    exact ⟨ys, by rw [e], q⟩
theorem q_int1 {g : Int → D} {i : Int} : rInt1 g [.int i] μ k = k (g i) μ := rfl
theorem q_inti {i : Int} : rIntD [.int i] μ k = k (.int i) μ := rfl
theorem q_intb {b : Bool} : rIntD [.bl b] μ k = k (.int (if b then 1 else 0)) μ := rfl
theorem q_int2 {g : Int → Int → D} {i j : Int} : rInt2 g [.int i, .int j] μ k = k (g i j) μ := rfl
theorem q_insi {C : Addr} {fs : List (Str × D)} : insOf μ (.ins C fs) = some (C, fs) := rfl
theorem q_insr {a C : Addr} {fs : List (Str × D)} (h : μ a = some (.ins C fs)) : insOf μ (.ref a) = some (C, fs) := by
  unfold insOf
  dsimp only
  rw [h]
theorem q_nm {i : Nat} {x : D} {ρ : SD} {k : SD → Prop} : (Tg.nm i).d x ρ k = k (ρ.set i (some x)) := rfl
theorem q_tp {l : List Nat} {xs : List D} {ρ : SD} {k : SD → Prop} : (Tg.tp l).d (.tup xs) ρ k = (xs.length = l.length ∧ k (setAll l xs ρ)) := rfl
theorem q_rl {xs : List D} : asL (.lst xs) = some xs := rfl
theorem q_rt {xs : List D} : asT (.tup xs) = some xs := rfl
end
end Dl
namespace Dl
open PySem PySem.Spec PyProof.Rows L2
section
variable {X : Cx} {B : Bs}
/-! ### a < b < c -/
def dChain (r r' : R2D) (ta tb tc : TED) : TED := fun ρ μ k => ta ρ μ fun x μ1 => tb ρ μ1 fun y μ2 => r x y μ2 fun z μ3 => ∃ c, z = .bl c ∧ if c = true then tc ρ μ3 fun w μ4 => r' y w μ4 k else k (.bl false) μ3
theorem pd_chain {a b c : Expr} {op op' : CmpOp} {r r' : R2D} {ta tb tc : TED} {pos : Pos} (ho : OpD X B (compareOp op) r) (ho' : OpD X B (compareOp op') r') (ha : PD X B a ta) (hb : PD X B b tb) (hc : PD X B c tc)
    (hm : lastMarks [op, op'] [b, c] = false := by with_unfolding_all rfl) : PD X B (.Compare a [op, op'] [b, c] pos) (dChain r r' ta tb tc) := imE (pe_chain ho ho' ha hb hc hm) fun σ H Q ⟨G, ρ, μ, k, g0, hh, sl, q, kk⟩ => by
  refine ⟨G, ρ, μ, _, g0, hh, sl, q, fun v H1 G1 d μ1 s1 h1 a1 q1 => ?_⟩
  refine ⟨G1, ρ, μ1, _, g0.trans s1, h1, sl.mono s1, q1, fun v2 H2 G2 d2 μ2 s2 h2 a2 q2 => ?_⟩
  have s12 := s1.trans s2
  refine ⟨G2, μ2, d, d2, _, g0.trans s12, h2, a1.mono s2, a2, q2, fun v3 H3 G3 d3 μ3 s3 h3 a3 ⟨c, e3, q3⟩ => ?_⟩
  subst e3
  have s13 := s12.trans s3
  refine ⟨c, a3.bl_inv, ?_⟩
  cases c with
  | true =>
    rw [if_pos rfl] at q3 ⊢
    refine ⟨G3, ρ, μ3, _, g0.trans s13, h3, sl.mono s13, q3, fun v4 H4 G4 d4 μ4 s4 h4 a4 q4 => ?_⟩
    exact ⟨G4, μ4, d2, d4, k, g0.trans (s13.trans s4), h4, (a2.mono s3).mono s4, a4, q4, fun v5 H5 G5 d5 μ5 s5 => kk v5 H5 G5 d5 μ5 ((s13.trans s4).trans s5)⟩
  | false =>
    rw [if_neg Bool.false_ne_true] at q3 ⊢
    exact kk _ H3 G3 _ μ3 s13 h3 (.bl false) q3
/-! ### methods of texts -/
abbrev RMD := D → List D → Mu → KD → Prop
def lM (K : PySem.W.Frag) (B : Bs) (r : RMD) : V → List V → Hp → VK → Prop := fun x xs H Q => ∃ (G : Hp) (μ : Mu) (d : D) (ds : List D) (k : KD), Same B.g G ∧ Hold K H G B.f μ ∧ At K G x d ∧ Ats K G xs ds ∧ r d ds μ k ∧
  ∀ v H' G' d μ', Same G G' → Hold K H' G' B.f μ' → At K G' v d → k d μ' → Q v H'
theorem imM {id : String} {r r' : V → List V → Hp → VK → Prop} (h : MtR X id r) (i : ∀ x xs H Q, r' x xs H Q → r x xs H Q) : MtR X id r' := fun pins s σ H x xs v us Q I rx rv q => h pins s σ H x xs v us Q I rx rv (i _ _ _ _ q)
/-- s.m(..), s a text -/
def dStr (r : RMD) (to : TED) (t : TAD) : TED := fun ρ μ k => to ρ μ fun x μ1 => ∃ z, x = .str z ∧ t ρ μ1 fun ds μ2 => r (.str z) ds μ2 k
theorem pd_str1 {name : Str} {id : String} {r : RMD} {o e : Expr} {es : List Expr} {to : TED} {t : TAD} {apos cpos : Pos} (slot : Slot "str" name id) (hty : typeOf (.builtin id) = pure (.type "method_descriptor")) (hm : MtR X id (lM X.K B r)) (ho : PD X B o to) (ha : PDA X B (e :: es) t)
    (hbase : attributeBase o name X.env (eval o X.env) = eval o X.env := by rfl)
    (hfew : ((backTo cpos (starEach (e :: es) X.env)).all (fun x => !x.1) && (backToKw cpos (keywordEach [] X.env)).all (fun x => x.1.isSome)
      && decide ((e :: es).length + ([] : List Keyword).length + (if ([] : List Keyword).isEmpty then 0 else 1) < 30)) = true := by rfl)
    (hline : (apos.endLine == cpos.line) = true := by rfl) (hs : starEach (e :: es) X.env = (false, eval e X.env) :: starEach es X.env := by rfl) (hplain : (backTo cpos (starEach es X.env)).any (·.1) = false := by rfl) : PD X B (.Call (.Attribute o name apos) (e :: es) [] cpos) (dStr r to t) :=
  imE (pe_bm PySem.F.plainAttrs_str slot hty hm ho ha hbase hfew hline hs hplain) fun σ H Q ⟨G, ρ, μ, k, g0, hh, sl, q, kk⟩ => by
    refine ⟨G, ρ, μ, _, g0, hh, sl, q, fun v H1 G1 d μ1 s1 h1 a1 q1 => ?_⟩
    obtain ⟨z, rfl, q1⟩ := q1
    have e := a1.str_inv
    subst e
    refine ⟨rfl, ?_⟩
    refine ⟨G1, ρ, μ1, _, g0.trans s1, h1, sl.mono s1, q1, fun vs H2 G2 ds μ2 s2 h2 a2 q2 => ?_⟩
    exact ⟨G2, μ2, _, ds, k, (g0.trans s1).trans s2, h2, .str z, a2, q2, fun v3 H3 G3 d3 μ3 s3 => kk v3 H3 G3 d3 μ3 ((s1.trans s2).trans s3)⟩
def rS1 (C : Str → Str → Prop) (g : Str → Str → D) : RMD := fun d ds μ k => match d, ds with
  | .str a, [.str b] => C a b ∧ k (g a b) μ
  | _, _ => False
theorem md_strip : MtR X "str.strip" (lM X.K B (rS1 (fun a _ => a.length ≤ 100000) fun a b => .str (Txt.stripChars a b))) := imM mt_stripChars fun x xs H Q ⟨G, μ, d, ds, k, g0, hh, ax, as, q, kk⟩ => by
  unfold rS1 at q
  split at q
  · rename_i a b
    obtain ⟨v, rfl, av⟩ := as.one
    exact ⟨a, b, ax.str_inv, by rw [av.str_inv], line_of q.1, kk _ H G _ μ (Same.refl _) hh (.str _) q.2⟩
  · exact q.elim
theorem q_s1 {C : Str → Str → Prop} {g : Str → Str → D} {a b : Str} {μ : Mu} {k : KD} : rS1 C g (.str a) [.str b] μ k = (C a b ∧ k (g a b) μ) := rfl
end
/-! ### isinstance by data -/
def Isi (K : PySem.W.Frag) (μ : Mu) (d : D) (c : Value) (b : Bool) : Prop := ∃ t, tyD μ d = some t ∧ (∀ D, t = .ref D → InsC K D) ∧ (∀ kvs, d ≠ .dT kvs) ∧ PySem.W.kitOne K t c = some b
section
variable {K : PySem.W.Frag} {μ : Mu} {P : Bool → Prop}
theorem q_isid {x c : D} {k : KD} : rIsiD K [x, c] μ k = ∃ u, clsV c = some u ∧ ∃ b, Isi K μ x u b ∧ k (.bl b) μ := by
  apply propext
  constructor
  · rintro ⟨x', c', t, u, b, e, h1, h2, h3, h4, h5, q⟩
    cases e
    exact ⟨u, h1, b, ⟨t, h2, h3, h4, h5⟩, q⟩
  · rintro ⟨u, h1, b, ⟨t, h2, h3, h4, h5⟩, q⟩
    exact ⟨x, c, t, u, b, rfl, h1, h2, h3, h4, h5, q⟩
theorem q_clsT {n : String} : clsV (.ty n) = some (.type n) := rfl
theorem q_clsR {C : Addr} : clsV (.ref C) = some (.ref C) := rfl
theorem isi_eq {d : D} {t c : Value} {r : Bool} (h1 : tyD μ d = some t) (h2 : ∀ D, t = .ref D → InsC K D) (h3 : ∀ kvs, d ≠ .dT kvs) (h4 : PySem.W.kitOne K t c = some r) : (∃ b, Isi K μ d c b ∧ P b) = P r := by
  apply propext
  constructor
  · rintro ⟨b, ⟨t', e1, _, _, e4⟩, q⟩
    rw [h1] at e1
    cases e1
    rw [h4] at e4
    cases e4
    exact q
  · intro q
    exact ⟨r, ⟨t, h1, h2, h3, h4⟩, q⟩
theorem isi_ty {d : D} {T n : String} {r : Bool} (h1 : tyD μ d = some (.type T)) (h3 : ∀ kvs, d ≠ .dT kvs) (h4 : kitB T n = some r) : (∃ b, Isi K μ d (.type n) b ∧ P b) = P r := isi_eq h1 (fun _ e => by cases e) h3 (kit_ty h4)
theorem q_isi_non_int : (∃ b, Isi K μ .non (.type "int") b ∧ P b) = P false := isi_ty rfl (fun _ e => by cases e) (by decide +kernel)
theorem q_isi_non_bool : (∃ b, Isi K μ .non (.type "bool") b ∧ P b) = P false := isi_ty rfl (fun _ e => by cases e) (by decide +kernel)
theorem q_isi_non_str : (∃ b, Isi K μ .non (.type "str") b ∧ P b) = P false := isi_ty rfl (fun _ e => by cases e) (by decide +kernel)
theorem q_isi_non_tuple : (∃ b, Isi K μ .non (.type "tuple") b ∧ P b) = P false := isi_ty rfl (fun _ e => by cases e) (by decide +kernel)
theorem q_isi_non_list : (∃ b, Isi K μ .non (.type "list") b ∧ P b) = P false := isi_ty rfl (fun _ e => by cases e) (by decide +kernel)
theorem q_isi_non_dict : (∃ b, Isi K μ .non (.type "dict") b ∧ P b) = P false := isi_ty rfl (fun _ e => by cases e) (by decide +kernel)
theorem q_isi_bl_int {b0 : Bool} : (∃ b, Isi K μ (.bl b0) (.type "int") b ∧ P b) = P true := isi_ty rfl (fun _ e => by cases e) (by decide +kernel)
theorem q_isi_bl_bool {b0 : Bool} : (∃ b, Isi K μ (.bl b0) (.type "bool") b ∧ P b) = P true := isi_ty rfl (fun _ e => by cases e) (by decide +kernel)
theorem q_isi_bl_str {b0 : Bool} : (∃ b, Isi K μ (.bl b0) (.type "str") b ∧ P b) = P false := isi_ty rfl (fun _ e => by cases e) (by decide +kernel)
theorem q_isi_bl_tuple {b0 : Bool} : (∃ b, Isi K μ (.bl b0) (.type "tuple") b ∧ P b) = P false := isi_ty rfl (fun _ e => by cases e) (by decide +kernel)
theorem q_isi_bl_list {b0 : Bool} : (∃ b, Isi K μ (.bl b0) (.type "list") b ∧ P b) = P false := isi_ty rfl (fun _ e => by cases e) (by decide +kernel)
theorem q_isi_bl_dict {b0 : Bool} : (∃ b, Isi K μ (.bl b0) (.type "dict") b ∧ P b) = P false := isi_ty rfl (fun _ e => by cases e) (by decide +kernel)
theorem q_isi_int_int {i0 : Int} : (∃ b, Isi K μ (.int i0) (.type "int") b ∧ P b) = P true := isi_ty rfl (fun _ e => by cases e) (by decide +kernel)
theorem q_isi_int_bool {i0 : Int} : (∃ b, Isi K μ (.int i0) (.type "bool") b ∧ P b) = P false := isi_ty rfl (fun _ e => by cases e) (by decide +kernel)
theorem q_isi_int_str {i0 : Int} : (∃ b, Isi K μ (.int i0) (.type "str") b ∧ P b) = P false := isi_ty rfl (fun _ e => by cases e) (by decide +kernel)
theorem q_isi_int_tuple {i0 : Int} : (∃ b, Isi K μ (.int i0) (.type "tuple") b ∧ P b) = P false := isi_ty rfl (fun _ e => by cases e) (by decide +kernel)
theorem q_isi_int_list {i0 : Int} : (∃ b, Isi K μ (.int i0) (.type "list") b ∧ P b) = P false := isi_ty rfl (fun _ e => by cases e) (by decide +kernel)
theorem q_isi_int_dict {i0 : Int} : (∃ b, Isi K μ (.int i0) (.type "dict") b ∧ P b) = P false := isi_ty rfl (fun _ e => by cases e) (by decide +kernel)
theorem q_isi_str_int {x0 : Str} : (∃ b, Isi K μ (.str x0) (.type "int") b ∧ P b) = P false := isi_ty rfl (fun _ e => by cases e) (by decide +kernel)
theorem q_isi_str_bool {x0 : Str} : (∃ b, Isi K μ (.str x0) (.type "bool") b ∧ P b) = P false := isi_ty rfl (fun _ e => by cases e) (by decide +kernel)
theorem q_isi_str_str {x0 : Str} : (∃ b, Isi K μ (.str x0) (.type "str") b ∧ P b) = P true := isi_ty rfl (fun _ e => by cases e) (by decide +kernel)
theorem q_isi_str_tuple {x0 : Str} : (∃ b, Isi K μ (.str x0) (.type "tuple") b ∧ P b) = P false := isi_ty rfl (fun _ e => by cases e) (by decide +kernel)
theorem q_isi_str_list {x0 : Str} : (∃ b, Isi K μ (.str x0) (.type "list") b ∧ P b) = P false := isi_ty rfl (fun _ e => by cases e) (by decide +kernel)
theorem q_isi_str_dict {x0 : Str} : (∃ b, Isi K μ (.str x0) (.type "dict") b ∧ P b) = P false := isi_ty rfl (fun _ e => by cases e) (by decide +kernel)
theorem q_isi_tup_int {xs0 : List D} : (∃ b, Isi K μ (.tup xs0) (.type "int") b ∧ P b) = P false := isi_ty rfl (fun _ e => by cases e) (by decide +kernel)
theorem q_isi_tup_bool {xs0 : List D} : (∃ b, Isi K μ (.tup xs0) (.type "bool") b ∧ P b) = P false := isi_ty rfl (fun _ e => by cases e) (by decide +kernel)
theorem q_isi_tup_str {xs0 : List D} : (∃ b, Isi K μ (.tup xs0) (.type "str") b ∧ P b) = P false := isi_ty rfl (fun _ e => by cases e) (by decide +kernel)
theorem q_isi_tup_tuple {xs0 : List D} : (∃ b, Isi K μ (.tup xs0) (.type "tuple") b ∧ P b) = P true := isi_ty rfl (fun _ e => by cases e) (by decide +kernel)
theorem q_isi_tup_list {xs0 : List D} : (∃ b, Isi K μ (.tup xs0) (.type "list") b ∧ P b) = P false := isi_ty rfl (fun _ e => by cases e) (by decide +kernel)
theorem q_isi_tup_dict {xs0 : List D} : (∃ b, Isi K μ (.tup xs0) (.type "dict") b ∧ P b) = P false := isi_ty rfl (fun _ e => by cases e) (by decide +kernel)
theorem q_isi_lst_int {xs0 : List D} : (∃ b, Isi K μ (.lst xs0) (.type "int") b ∧ P b) = P false := isi_ty rfl (fun _ e => by cases e) (by decide +kernel)
theorem q_isi_lst_bool {xs0 : List D} : (∃ b, Isi K μ (.lst xs0) (.type "bool") b ∧ P b) = P false := isi_ty rfl (fun _ e => by cases e) (by decide +kernel)
theorem q_isi_lst_str {xs0 : List D} : (∃ b, Isi K μ (.lst xs0) (.type "str") b ∧ P b) = P false := isi_ty rfl (fun _ e => by cases e) (by decide +kernel)
theorem q_isi_lst_tuple {xs0 : List D} : (∃ b, Isi K μ (.lst xs0) (.type "tuple") b ∧ P b) = P false := isi_ty rfl (fun _ e => by cases e) (by decide +kernel)
theorem q_isi_lst_list {xs0 : List D} : (∃ b, Isi K μ (.lst xs0) (.type "list") b ∧ P b) = P true := isi_ty rfl (fun _ e => by cases e) (by decide +kernel)
theorem q_isi_lst_dict {xs0 : List D} : (∃ b, Isi K μ (.lst xs0) (.type "dict") b ∧ P b) = P false := isi_ty rfl (fun _ e => by cases e) (by decide +kernel)
theorem q_isi_dK_int {xs0 : List (Key × D)} : (∃ b, Isi K μ (.dK xs0) (.type "int") b ∧ P b) = P false := isi_ty rfl (fun _ e => by cases e) (by decide +kernel)
theorem q_isi_dK_bool {xs0 : List (Key × D)} : (∃ b, Isi K μ (.dK xs0) (.type "bool") b ∧ P b) = P false := isi_ty rfl (fun _ e => by cases e) (by decide +kernel)
theorem q_isi_dK_str {xs0 : List (Key × D)} : (∃ b, Isi K μ (.dK xs0) (.type "str") b ∧ P b) = P false := isi_ty rfl (fun _ e => by cases e) (by decide +kernel)
theorem q_isi_dK_tuple {xs0 : List (Key × D)} : (∃ b, Isi K μ (.dK xs0) (.type "tuple") b ∧ P b) = P false := isi_ty rfl (fun _ e => by cases e) (by decide +kernel)
theorem q_isi_dK_list {xs0 : List (Key × D)} : (∃ b, Isi K μ (.dK xs0) (.type "list") b ∧ P b) = P false := isi_ty rfl (fun _ e => by cases e) (by decide +kernel)
theorem q_isi_dK_dict {xs0 : List (Key × D)} : (∃ b, Isi K μ (.dK xs0) (.type "dict") b ∧ P b) = P true := isi_ty rfl (fun _ e => by cases e) (by decide +kernel)
end
section
variable {X : Cx} {B : Bs}
theorem pd_gcls {x : Str} {C : Addr} {pos : Pos} (hm : X.mg x = some (.ref C)) (hg : Gl X x := by rfl) (hd : (x == ("__debug__" : Str)) = false := by decide) : PD X B (.Name x pos) (dC (.ref C)) := pd_glob (v := .ref C) hm rfl (fun _ => .ref C) hg hd
end
/-! ### == of rows -/
section
variable {μ : Mu} {k : KD}
theorem q_eqt {xs ys : List D} {n : Bool} : rEqB n (.tup xs) (.tup ys) μ k = ∃ ps qs, toPs xs = some ps ∧ toPs ys = some qs ∧ SeqAt.shaped (.tuple ps) = true ∧ SeqAt.shaped (.tuple qs) = true ∧ k (.bl (PyData.eqvAll ps qs ^^ n)) μ := by
  apply propext
  constructor
  · rintro ⟨p, q, e1, e2, s1, s2, r⟩
    obtain ⟨ps, f1, rfl⟩ := Option.map_eq_some_iff.mp (show (toPs xs).map PyData.tuple = some p from e1)
    obtain ⟨qs, f2, rfl⟩ := Option.map_eq_some_iff.mp (show (toPs ys).map PyData.tuple = some q from e2)
    refine ⟨ps, qs, f1, f2, s1, s2, ?_⟩
    rw [PyData.eqv] at r
    exact r
  · rintro ⟨ps, qs, f1, f2, s1, s2, r⟩
    refine ⟨.tuple ps, .tuple qs, ?_, ?_, s1, s2, ?_⟩
    · show (toPs xs).map PyData.tuple = _
      rw [f1] <;> rfl
    · show (toPs ys).map PyData.tuple = _
      rw [f2] <;> rfl
    · rw [PyData.eqv]
      exact r
theorem q_eql {xs ys : List D} {n : Bool} : rEqB n (.lst xs) (.lst ys) μ k = ∃ ps qs, toPs xs = some ps ∧ toPs ys = some qs ∧ SeqAt.shaped (.list ps) = true ∧ SeqAt.shaped (.list qs) = true ∧ k (.bl (PyData.eqvAll ps qs ^^ n)) μ := by
  apply propext
  constructor
  · rintro ⟨p, q, e1, e2, s1, s2, r⟩
    obtain ⟨ps, f1, rfl⟩ := Option.map_eq_some_iff.mp (show (toPs xs).map PyData.list = some p from e1)
    obtain ⟨qs, f2, rfl⟩ := Option.map_eq_some_iff.mp (show (toPs ys).map PyData.list = some q from e2)
    refine ⟨ps, qs, f1, f2, s1, s2, ?_⟩
    rw [PyData.eqv] at r
    exact r
  · rintro ⟨ps, qs, f1, f2, s1, s2, r⟩
    refine ⟨.list ps, .list qs, ?_, ?_, s1, s2, ?_⟩
    · show (toPs xs).map PyData.list = _
      rw [f1] <;> rfl
    · show (toPs ys).map PyData.list = _
      rw [f2] <;> rfl
    · rw [PyData.eqv]
      exact r
theorem dec_beq {i j : Int} : (i == j) = decide (i = j) := by
  by_cases h : i = j
  · subst h; simp
  · rw [decide_eq_false h]; exact beq_eq_false_iff_ne.mpr h
theorem q_eqt2 {a b c d : Int} {n : Bool} : rEqB n (.tup [.int a, .int b]) (.tup [.int c, .int d]) μ k = k (.bl ((decide (a = c) && decide (b = d)) ^^ n)) μ := by
  rw [q_eqt]
  have e : PyData.eqvAll [.int a, .int b] [.int c, .int d] = (decide (a = c) && decide (b = d)) := by
    simp only [PyData.eqvAll, PyData.eqv, dec_beq, Bool.and_true]
  apply propext
  constructor
  · rintro ⟨ps, qs, e1, e2, _, _, r⟩
    cases e1; cases e2
    rw [e] at r
    exact r
  · intro r
    exact ⟨_, _, rfl, rfl, rfl, rfl, by rw [e]; exact r⟩
theorem q_eqnn {n : Bool} : rEqB n .non .non μ k = k (.bl (true ^^ n)) μ := by
  apply propext
  constructor
  · rintro ⟨p, q, e1, e2, s1, s2, r⟩
    cases e1; cases e2
    exact r
  · intro r
    exact ⟨.none, .none, rfl, rfl, rfl, rfl, r⟩
end
theorem isi_own {K : PySem.W.Frag} {μ : Mu} {C : Addr} {fs : List (Str × D)} (h : InsC K C) : Isi K μ (.ins C fs) (.ref C) true := by
  refine ⟨.ref C, rfl, fun D e => ?_, fun _ e => ?_, ?_⟩
  · cases e; exact h
  · cases e
  · show (if (Value.ref C == Value.ref C) = true then some true else _) = some true
    rw [if_pos (by simp)]
theorem q_loopn {p : Tg} {tb : TSD} {E : EndsD} {ρ : SD} {μ : Mu} : dLoop p tb E [] ρ μ = E.nx ρ μ := rfl
theorem q_loopc {p : Tg} {tb : TSD} {E : EndsD} {x : D} {r : List D} {ρ : SD} {μ : Mu} : dLoop p tb E (x :: r) ρ μ = p.d x ρ fun ρ2 => tb { E with nx := dLoop p tb E r, ct := dLoop p tb E r, bk := E.nx } ρ2 μ := rfl
/-! ### an own comparison, by what stands beside -/
section
variable {K : PySem.W.Frag} {C : Addr} {neg : Bool} {sp : SpD} {μ : Mu} {k : KD} {fs gs : List (Str × D)} {b : D}
theorem nf_self : PySem.W.notFirst K C (.ref C) = true := by
  unfold PySem.W.notFirst
  simp
theorem own_self (h : InsC K C) (hs : sp [.ins C fs, .ins C gs] μ (fun v μ' => ∃ c, v = .bl c ∧ k (.bl (c ^^ neg)) μ') x0) : rOwn K C neg sp (.ins C fs) (.ins C gs) μ k :=
  ⟨⟨fs, rfl⟩, ⟨.ref C, rfl, nf_self, fun D e => by cases e; exact h, fun _ e => by cases e⟩, hs⟩
theorem own_cls {E : Addr} (h : InsC K E) (hn : PySem.W.subIn K (.ref E) (.ref C) = some false) (hs : sp [.ins C fs, .ins E gs] μ (fun v μ' => ∃ c, v = .bl c ∧ k (.bl (c ^^ neg)) μ') x0) : rOwn K C neg sp (.ins C fs) (.ins E gs) μ k :=
  ⟨⟨fs, rfl⟩, ⟨.ref E, rfl, by unfold PySem.W.notFirst; rw [hn]; simp, fun D e => by cases e; exact h, fun _ e => by cases e⟩, hs⟩
theorem nf_ty {T : String} {l : List Value} (h : PySem.fastBuiltinMro T = some l) (hc : l.contains (.ref C) = false) : PySem.W.notFirst K C (.type T) = true := by
  have e : PySem.W.subIn K (.type T) (.ref C) = some false := by
    show (PySem.fastBuiltinMro T).map (·.contains (Value.ref C)) = some false
    rw [h, Option.map_some, hc]
  unfold PySem.W.notFirst
  rw [e]
  simp
theorem nf_none : PySem.W.notFirst K C (.type "NoneType") = true := nf_ty (l := [.type "NoneType", .type "object"]) (by decide +kernel) (by simp)
theorem nf_bool : PySem.W.notFirst K C (.type "bool") = true := nf_ty (l := [.type "bool", .type "int", .type "object"]) (by decide +kernel) (by simp)
theorem nf_int : PySem.W.notFirst K C (.type "int") = true := nf_ty (l := [.type "int", .type "object"]) (by decide +kernel) (by simp)
theorem nf_str : PySem.W.notFirst K C (.type "str") = true := nf_ty (l := [.type "str", .type "object"]) (by decide +kernel) (by simp)
theorem nf_tuple : PySem.W.notFirst K C (.type "tuple") = true := nf_ty (l := [.type "tuple", .type "object"]) (by decide +kernel) (by simp)
theorem nf_list : PySem.W.notFirst K C (.type "list") = true := nf_ty (l := [.type "list", .type "object"]) (by decide +kernel) (by simp)
theorem own_ty {T : String} (h1 : tyD μ b = some (.type T)) (h2 : PySem.W.notFirst K C (.type T) = true) (h3 : ∀ kvs, b ≠ .dT kvs) (hs : sp [.ins C fs, b] μ (fun v μ' => ∃ c, v = .bl c ∧ k (.bl (c ^^ neg)) μ') x0) : rOwn K C neg sp (.ins C fs) b μ k :=
  ⟨⟨fs, rfl⟩, ⟨_, h1, h2, fun D e => (by cases e), h3⟩, hs⟩
theorem isi_no {d : D} {T : String} (h1 : tyD μ d = some (.type T)) (h3 : ∀ kvs, d ≠ .dT kvs) (h4 : PySem.W.kitOne K (.type T) (.ref C) = some false) : Isi K μ d (.ref C) false := ⟨_, h1, fun D e => (by cases e), h3, h4⟩
theorem isi_cls {E : Addr} (h : InsC K E) (h4 : PySem.W.kitOne K (.ref E) (.ref C) = some false) : Isi K μ (.ins E gs) (.ref C) false := ⟨_, rfl, fun D e => (by cases e; exact h), fun _ e => (by cases e), h4⟩
end
theorem rng_succ {lo : Int} {n : Nat} : rngD lo (n + 1) = .int lo :: rngD (lo + 1) n := by
  unfold rngD
  rw [List.range_succ_eq_map, List.map_cons, List.map_map]
  congr 1
  · show D.int (lo + ((0 : Nat) : Int)) = _
    rw [show lo + ((0 : Nat) : Int) = lo by omega]
  · refine List.map_congr_left fun x _ => ?_
    show D.int (lo + ((x + 1 : Nat) : Int)) = D.int (lo + 1 + (x : Int))
    rw [show lo + ((x + 1 : Nat) : Int) = lo + 1 + (x : Int) by omega]
theorem rng_zero {lo : Int} : rngD lo 0 = [] := rfl
end Dl
namespace Dl
open PySem PySem.Spec PyProof.Rows L2
open He (Fa FnW Dv dflB kwdB dflB_ok kwdB_ok ba eqO eqO_ok frG asD frG_in)
/-! ### the head's facts: a Bool over the written part, and the defs -/
structure DefA where
  ad : PySem.W.Frag → Addr
  name : Str
  qual : Str
  params : Arguments
  body : List Stmt
  scope : Scope
  dfl : List Dv := []
  kwd : List (Str × Dv) := []
def fnWA (K : PySem.W.Frag) (a : Addr) : FnW := match K.lookup a with
  | some ⟨_, _, .func fd, _⟩ => some (fd.name, fd.qualname, fd.params, fd.body, fd.scope, fd.globals, fd.closure, fd.builtins)
  | _ => none
def DefA.val (d : DefA) : FnW := some (d.name, d.qual, d.params, .stmts d.body, d.scope, mainGlobals, [], builtinsNs)
def DefA.dvs (K : PySem.W.Frag) (d : DefA) : List V := d.dfl.map (Dv.v K)
def DefA.kws (K : PySem.W.Frag) (d : DefA) : List (Str × V) := d.kwd.map fun q => (q.1, q.2.v K)
def DefA.ok (K : PySem.W.Frag) (d : DefA) : Bool := PySem.W.keepIn K (.ref (d.ad K)) && (match K.lookup (d.ad K) with
  | some ⟨_, _, .func fd, _⟩ => PySem.W.codeIn K fd.code d.qual && (dflB K fd.defaults (d.dvs K) && kwdB K fd.kwdefaults (d.kws K))
  | _ => false)
theorem DefA.funD {K : PySem.W.Frag} {d : DefA} (e : fnWA K (d.ad K) = d.val) (c : d.ok K = true) : ∃ fd, FunD K d.name d.qual d.params d.body d.scope (d.dvs K) (d.kws K) (d.ad K) fd := by
  obtain ⟨kp, c2⟩ := ba c
  unfold fnWA at e
  cases q : K.lookup (d.ad K) with
  | none =>
    rw [q] at c2
    cases c2
  | some o =>
    obtain ⟨oc, od, dt, osl⟩ := o
    rw [q] at c2 e
    cases dt with
    | func fd =>
      obtain ⟨n1, n2, n3, n4, n5, n6, n7, n8, n9, n10, n11, n12, n13, n14, n15⟩ := fd
      have e2 : (some (n1, n2, n3, n4, n5, n6, n7, n15) : FnW) = some (d.name, d.qual, d.params, .stmts d.body, d.scope, mainGlobals, [], builtinsNs) := e
      simp only [Option.some.injEq, Prod.mk.injEq] at e2
      obtain ⟨h1, h2, h3, h4, h5, h6, h7, h8⟩ := e2
      subst h1 h2 h3 h4 h5 h6 h7 h8
      have c3 : (PySem.W.codeIn K n13 d.qual && (dflB K n8 (d.dvs K) && kwdB K n9 (d.kws K))) = true := c2
      obtain ⟨k1, k2⟩ := ba c3
      obtain ⟨k3, k4⟩ := ba k2
      exact ⟨_, ⟨oc, od, n8, n9, n10, n11, n12, n13, n14, osl, rfl, q, k1, dflB_ok k3, kwdB_ok k4⟩, kp⟩
    | _ => cases c2
/-- one more fact of the written part -/
inductive Fb where
  | fa (f : Fa)
  | ne (x : Str)
  | cread (x : Str)
  | wrap (x m : Str)
  | insc (x : Str)
  | kit (x y : Str) (b : Bool)
  | kitT (t : String) (y : Str) (b : Bool)
  | sub (x y : Str) (b : Bool)
  | subT (x : Str) (t : String) (b : Bool)
  | kitO (x : Str) (t : String) (b : Bool)
def Fb.ok (K : PySem.W.Frag) : Fb → Bool
  | .fa f => f.ok K
  | .ne x => eqO (PySem.W.findIn K (.ref (He.ga K x)) "__ne__") (some (some (.builtin "object.__ne__"))) && decide (PySem.W.subIn K (.ref (He.ga K x)) (.type "object") = some true)
  | .cread x => PySem.W.readsIn K (He.ga K x) (.type "type") && eqO (PySem.W.specialIn K (.ref (He.ga K x)) "__getattribute__") (some (some (.builtin "type.__getattribute__")))
  | .wrap x m => He5.wrapB K (He.ga K x) "staticmethod" "staticmethod.__get__" m
  | .insc x => (Fa.cls x).ok K && (eqO (PySem.W.findIn K (.ref (He.ga K x)) "__class__") (some (some (.builtin "object.__class__"))) && (eqO (PySem.W.specialIn K (.builtin "object.__class__") "__get__") (some (some (.builtin "getset_descriptor.__get__"))) && (decide (PySem.W.takesIn K (.builtin "object.__class__") = some true) && decide (PySem.W.mroIn K (He.ga K x) (.type "object") = some true))))
  | .kit x y b => decide (PySem.W.kitOne K (.ref (He.ga K x)) (.ref (He.ga K y)) = some b)
  | .kitT t y b => decide (PySem.W.kitOne K (.type t) (.ref (He.ga K y)) = some b)
  | .sub x y b => decide (PySem.W.subIn K (.ref (He.ga K x)) (.ref (He.ga K y)) = some b)
  | .subT x t b => decide (PySem.W.subIn K (.ref (He.ga K x)) (.type t) = some b)
  | .kitO x t b => decide (PySem.W.kitOne K (.ref (He.ga K x)) (.type t) = some b)
section
variable {K : PySem.W.Frag} {x y m : Str} {b : Bool} {t : String}
theorem ne_ok (c : (Fb.ne x).ok K = true) : NeC K (He.ga K x) := by
  obtain ⟨c1, c2⟩ := ba c
  exact ⟨eqO_ok c1, of_decide_eq_true c2⟩
theorem cread_ok (c : (Fb.cread x).ok K = true) : ClX.CRead K (He.ga K x) (.type "type") := by
  obtain ⟨c1, c2⟩ := ba c
  exact ⟨c1, eqO_ok c2⟩
theorem wrap_ok (c : (Fb.wrap x m).ok K = true) : PySem.W.findCls K (.ref (He.ga K x)) (.type "type") m = some (.get (.builtin "staticmethod.__get__") (.ref (He.ma K (He.ga K x) m)) .none (.ref (He.ga K x))) ∧
    ∃ rest, PySem.W.recIn K (He.ma K (He.ga K x) m) "staticmethod" = some (.ref (He5.wf K (He.ga K x) "staticmethod" m) :: rest) := He5.wrapB_ok c
theorem insc_ok (c : (Fb.insc x).ok K = true) : InsC K (He.ga K x) := by
  obtain ⟨c1, c⟩ := ba c
  obtain ⟨c2, c⟩ := ba c
  obtain ⟨c3, c⟩ := ba c
  obtain ⟨c4, c5⟩ := ba c
  exact ⟨He.cls_ok c1, eqO_ok c2, eqO_ok c3, of_decide_eq_true c4, of_decide_eq_true c5⟩
theorem kit_ok (c : (Fb.kit x y b).ok K = true) : PySem.W.kitOne K (.ref (He.ga K x)) (.ref (He.ga K y)) = some b := of_decide_eq_true c
theorem kitT_ok (c : (Fb.kitT t y b).ok K = true) : PySem.W.kitOne K (.type t) (.ref (He.ga K y)) = some b := of_decide_eq_true c
theorem subT_ok (c : (Fb.subT x t b).ok K = true) : PySem.W.subIn K (.ref (He.ga K x)) (.type t) = some b := of_decide_eq_true c
theorem kitO_ok (c : (Fb.kitO x t b).ok K = true) : PySem.W.kitOne K (.ref (He.ga K x)) (.type t) = some b := of_decide_eq_true c
theorem sub_ok (c : (Fb.sub x y b).ok K = true) : PySem.W.subIn K (.ref (He.ga K x)) (.ref (He.ga K y)) = some b := of_decide_eq_true c
end
abbrev AlZ : Type := Bool × List FnW
def obsZ (fb : List Fb) (fn : List DefA) (K : PySem.W.Frag) : AlZ := ((fb.all fun f => f.ok K) && fn.all fun d => d.ok K, fn.map fun d => fnWA K (d.ad K))
def valZ (fn : List DefA) : AlZ := (true, fn.map DefA.val)
def SaysZ (fb : List Fb) (fn : List DefA) (K : PySem.W.Frag) : Prop := obsZ fb fn K = valZ fn
def obsZG (n : Nat) (fb : List Fb) (fn : List DefA) (g : Addr → Option Obj) : AlZ := obsZ fb fn (frG g (cStatics :: asD g n))
def hookZ (n : Nat) (fb : List Fb) (fn : List DefA) : PySem.W.Hook where
  α := AlZ
  obs := fun s => obsZG n fb fn s.heap.get?
  val := fun _ => valZ fn
  says := fun _ h => ∃ K : PySem.W.Frag, K.In h ∧ SaysZ fb fn K
  of := fun _ _ e => ⟨_, frG_in, e⟩
  keeps := fun _ _ _ ⟨K, hK, c⟩ k => ⟨K, PySem.W.Frag.In.keeps hK k, c⟩
theorem obsZG_eq {n : Nat} {fb : List Fb} {fn : List DefA} {g : Addr → Option Obj} {s : Shared} (h : ∀ a, g a = s.heap.get? a) : obsZG n fb fn g = (hookZ n fb fn).obs s := by
  have e : g = s.heap.get? := funext h
  rw [e] <;> rfl
section
variable {fb : List Fb} {fn : List DefA} {K : PySem.W.Frag}
theorem SaysZ.fact (c : SaysZ fb fn K) (i : Nat) {f : Fb} (h : fb[i]? = some f := by rfl) : f.ok K = true := by
  have c1 := (ba (show ((fb.all fun f => f.ok K) && fn.all fun d => d.ok K) = true from congrArg (fun z : AlZ => z.1) c)).1
  exact List.all_eq_true.mp c1 f (List.mem_of_getElem? h)
theorem SaysZ.def_ (c : SaysZ fb fn K) (i : Nat) {d : DefA} (h : fn[i]? = some d := by rfl) : ∃ fd, FunD K d.name d.qual d.params d.body d.scope (d.dvs K) (d.kws K) (d.ad K) fd := by
  have c2 := (ba (show ((fb.all fun f => f.ok K) && fn.all fun d => d.ok K) = true from congrArg (fun z : AlZ => z.1) c)).2
  have e : fn.map (fun d => fnWA K (d.ad K)) = fn.map DefA.val := congrArg (fun z : AlZ => z.2) c
  have e2 : (fn.map fun d => fnWA K (d.ad K))[i]? = (fn.map DefA.val)[i]? := by rw [e]
  rw [List.getElem?_map, List.getElem?_map, h] at e2
  exact DefA.funD (Option.some.inj e2) (List.all_eq_true.mp c2 d (List.mem_of_getElem? h))
end
/-- a law's end: from a promise over data -/
theorem end_sp {K : PySem.W.Frag} {sp : SpD} {H : Hp} {a : Addr} {ns : List Int} (hS : SqL K H a (ns.map V.int)) (h : ∀ μ : Mu, sp [.lst (ns.map D.int)] μ (fun d _ => d = .bl true) x0) :
    lSp K sp [.ref a] H (fun v _ => v = .bl true) fun _ _ _ => False := by
  have r : ∀ (G : Hp) (ms : List Int), Ats K G (ms.map V.int) (ms.map D.int) := fun G ms => by
    induction ms with
    | nil => exact .nil
    | cons m r ih => exact .cons (.int m) ih
  refine ⟨H, fun _ => none, fun _ => none, _, _, x0, ⟨Same.refl _, fun _ _ e => (by cases e), fun _ _ e => (by cases e), fun _ _ e => (by cases e)⟩, .cons (.lst hS (r H ns)) .nil, h _, fun v H' G' d μ' _ _ a' e => ?_, fun _ _ _ _ _ _ _ _ _ e => e⟩
  subst e
  exact a'.bl_inv
theorem cxe_none {P : Program} {w : World} {outer : List Env} {H : Hp} {s : Shared} {e : Value} {s' : Shared} (h : CXe P w outer H s (fun _ _ _ => False) e s') : False := by
  obtain ⟨_, _, _, _, _, _, _, _, _, _, _, _, h⟩ := h
  exact h
/-- the def at an address is one -/
theorem fd_same {K : PySem.W.Frag} {x qual : Str} {params : Arguments} {body : List Stmt} {scope : Scope} {dvs dvs' : List V} {kws kws' : List (Str × V)} {f : Addr} {fd fd' : FuncData} (F : FunD K x qual params body scope dvs kws f fd) (F' : FunD K x qual params body scope dvs' kws' f fd') : fd = fd' := by
  obtain ⟨oc, od, a1, a2, a3, a4, a5, a6, a7, osl, e, l, _⟩ := F.ex
  obtain ⟨oc', od', b1, b2, b3, b4, b5, b6, b7, osl', e', l', _⟩ := F'.ex
  rw [l] at l'
  cases l'
  rfl
end Dl
namespace L2
open PySem PySem.Spec PyProof.Rows
/-- a law's end, errors as the world has them -/
theorem walk_ofE2 {l : PySem.W.OpenLaw} {n k : Nat} {q : Program} {loose : List Str} {XP : (Str → Option Value) → Heap → Prop} {YP : World → Heap → Prop} {d : DefRec} {CX : World → CXT} {x : Str}
    (hn : l.most = some n) (hn2 : n ≤ sizeLine) (hdf : d.params.defaults = []) (hr : Room k callerA)
    (F : ∀ (w : World) (mg : Str → Option Value) (fa : Addr) (h : Heap), YP w h → h.Ns mainGlobals mg → mg d.name = some (.ref fa) →
      ∃ (K : PySem.W.Frag) (fd : FuncData) (sp : Sp), K.In h ∧ (∀ (s : Shared) (u : Value), BindsTo s fd ⟨[u], []⟩ [(x, u)]) ∧
        (∀ (H : Hp) (a : Addr) (ns : List Int), ns.length ≤ n → Only H → SqL K H a (ns.map V.int) → sp [.ref a] H (fun v _ => v = .bl true) fun _ _ _ => False) ∧
        ∀ base : Heap, K.In base → base.Ns mainGlobals mg → FnOk l.prog w K mg base (CX w) k fa fd [x] sp)
    (hCX : ∀ (w : World) (H : Hp) (s : Shared) (e : Value) (s' : Shared), CX w [] H s (fun _ _ _ => False) e s' → False) :
    PySem.W.WalkO q loose XP YP l.row.toRowW d [] (fun f vs => PySem.call f vs) := by
  refine Att.attach_call hn hdf fun w s₀ s₁ mg mb fa o pm cd doc a vs ns G Y ho hd hcd hmg hobj hints hlen hg => ?_
  obtain ⟨K, fd, sp, KX, hb, hsp, hF⟩ := F w mg fa _ Y G.T.g hmg
  exact law_call KX G.T.g G.T.b G.T.builtins G.T.nolimit hg hobj hints (Nat.le_trans hlen hn2) hr hF hb (fun H hO hS => hsp H a ns hlen hO hS) fun H e s' => hCX w H s₁ e s'
end L2
namespace Dl
open PySem PySem.Spec PyProof.Rows L2
open PySem.W (Frag InstAt Looks findIn isFn subIn typeIn notFirst CmpBack looks_findIn looks_typeIn looks_subIn check_slot clsIn)
/-! ### an int beside an own thing: the reflected method -/
section
variable {prog : Program} {w : World} {A : Around} {E : Value → Shared → Prop} {s : Shared} {K : Frag} {x C L f dx : Addr} {h₀ : Heap} {m : Str → Option Value} {ox : Obj} {od : Option Obj} {i : Int} {t : Tok}
theorem int_bin_ni {M : Model} {name : String} {g : Int → Int → Sem PySem.Fin} {Q : PySem.Fin → Shared → Prop} (hx : s.heap.get? x = some (PySem.W.instObj C dx)) (h : Q (.done (.ret .notImplemented)) s) :
    wpAny M A (Builtin.Int.intBinary name g false ⟨[.int i t, .ref x], []⟩) Q E s := by
  obtain ⟨hp, gg, d, tk, os⟩ := s
  unfold Builtin.Int.intBinary
  wp_walk using AutoSeq1.wpAny_loadPart' hx
  exact h
theorem lt_ni {Q : Value → Shared → Prop} (hx : s.heap.get? x = some (PySem.W.instObj C dx)) (h : Q .notImplemented s) : wpAny (model prog w) A (call (.builtin "int.__lt__") [.int i t, .ref x]) Q E s := by
  refine wpAny_call (codeAny_call_builtin PySem.F.slot_int_lt.plain PySem.F.entry_int_lt (PySem.F.slot_int_lt.check _ _ _ _ _ _ _ _ (typeIs_int s i t) (PySem.F.args_int_lt_2 _ _) ?_))
  exact int_bin_ni (M := model prog w) (name := "__lt__") hx h
theorem le_ni {Q : Value → Shared → Prop} (hx : s.heap.get? x = some (PySem.W.instObj C dx)) (h : Q .notImplemented s) : wpAny (model prog w) A (call (.builtin "int.__le__") [.int i t, .ref x]) Q E s := by
  refine wpAny_call (codeAny_call_builtin PySem.F.slot_int_le.plain PySem.F.entry_int_le (PySem.F.slot_int_le.check _ _ _ _ _ _ _ _ (typeIs_int s i t) (PySem.F.args_int_le_2 _ _) ?_))
  exact int_bin_ni (M := model prog w) (name := "__le__") hx h
theorem gt_ni {Q : Value → Shared → Prop} (hx : s.heap.get? x = some (PySem.W.instObj C dx)) (h : Q .notImplemented s) : wpAny (model prog w) A (call (.builtin "int.__gt__") [.int i t, .ref x]) Q E s := by
  refine wpAny_call (codeAny_call_builtin PySem.F.slot_int_gt.plain PySem.F.entry_int_gt (PySem.F.slot_int_gt.check _ _ _ _ _ _ _ _ (typeIs_int s i t) (PySem.F.args_int_gt_2 _ _) ?_))
  exact int_bin_ni (M := model prog w) (name := "__gt__") hx h
theorem ge_ni {Q : Value → Shared → Prop} (hx : s.heap.get? x = some (PySem.W.instObj C dx)) (h : Q .notImplemented s) : wpAny (model prog w) A (call (.builtin "int.__ge__") [.int i t, .ref x]) Q E s := by
  refine wpAny_call (codeAny_call_builtin PySem.F.slot_int_ge.plain PySem.F.entry_int_ge (PySem.F.slot_int_ge.check _ _ _ _ _ _ _ _ (typeIs_int s i t) (PySem.F.args_int_ge_2 _ _) ?_))
  exact int_bin_ni (M := model prog w) (name := "__ge__") hx h
theorem eq_ni {Q : Value → Shared → Prop} (hx : s.heap.get? x = some (PySem.W.instObj C dx)) (h : Q .notImplemented s) : wpAny (model prog w) A (call (.builtin "int.__eq__") [.int i t, .ref x]) Q E s := by
  refine wpAny_call (codeAny_call_builtin PySem.F.slot_int_eq.plain PySem.F.entry_int_eq (PySem.F.slot_int_eq.check _ _ _ _ _ _ _ _ (typeIs_int s i t) (PySem.F.args_int_eq_2 _ _) ?_))
  exact int_bin_ni (M := model prog w) (name := "__eq__") hx h
theorem ne_ni {Q : Value → Shared → Prop} (hx : s.heap.get? x = some (PySem.W.instObj C dx)) (h : Q .notImplemented s) : wpAny (model prog w) A (call (.builtin "int.__ne__") [.int i t, .ref x]) Q E s := by
  refine wpAny_call (codeAny_call_builtin PySem.F.slot_int_ne.plain PySem.F.entry_int_ne (PySem.F.slot_int_ne.check _ _ _ _ _ _ _ _ (typeIs_int s i t) (PySem.F.args_int_ne_2 _ _) ?_))
  exact int_bin_ni (M := model prog w) (name := "__ne__") hx h
/-- what int says to a comparison with an own thing -/
structure IntNi (op : CmpOp) : Prop where
  ex : ∃ id, Slot "int" (cmpInfo op).2.1 id ∧ ∀ (prog : Program) (w : World) (A : Around) (E : Value → Shared → Prop) (s : Shared) (x C dx : Addr) (i : Int) (t : Tok) (Q : Value → Shared → Prop), s.heap.get? x = some (PySem.W.instObj C dx) → Q .notImplemented s → wpAny (model prog w) A (call (.builtin id) [.int i t, .ref x]) Q E s
theorem ni_lt : IntNi .Lt := ⟨_, PySem.F.slot_int_lt, fun _ _ _ _ _ _ _ _ _ _ _ hx h => lt_ni hx h⟩
theorem ni_le : IntNi .LtE := ⟨_, PySem.F.slot_int_le, fun _ _ _ _ _ _ _ _ _ _ _ hx h => le_ni hx h⟩
theorem ni_gt : IntNi .Gt := ⟨_, PySem.F.slot_int_gt, fun _ _ _ _ _ _ _ _ _ _ _ hx h => gt_ni hx h⟩
theorem ni_ge : IntNi .GtE := ⟨_, PySem.F.slot_int_ge, fun _ _ _ _ _ _ _ _ _ _ _ hx h => ge_ni hx h⟩
theorem ni_eq : IntNi .Eq := ⟨_, PySem.F.slot_int_eq, fun _ _ _ _ _ _ _ _ _ _ _ hx h => eq_ni hx h⟩
theorem ni_ne : IntNi .NotEq := ⟨_, PySem.F.slot_int_ne, fun _ _ _ _ _ _ _ _ _ _ _ hx h => ne_ni hx h⟩
theorem refl_K {op : CmpOp} {Q : Value → Shared → Prop} (N : IntNi op) (hu : A.units < cLine) (X : K.In s.heap) (I : InstAt s.heap x ox C od) (hx : s.heap.get? x = some (PySem.W.instObj C dx)) (hsub : subIn K (.ref C) (.type "int") = some false)
    (one : wpAny (model prog w) A (tryCompare (.ref x) (cmpInfo op).2.2 (.int i t)) (fun r s' => ∃ v, r = some v ∧ Q v s') E s) : wpAny (model prog w) A (richCompare op (.int i t) (.ref x)) Q E s := by
  obtain ⟨id, slot, ni⟩ := N.ex
  rcases hi : cmpInfo op with ⟨sym, f, r⟩
  rw [hi] at slot one
  simp only [richCompare, hi, (typeIs_int s i t).oneThing_none]
  refine wpAny_holding (wpAny_bind (wpAny_cRoomFor hu ?_))
  refine wpAny_bind (wpAny_typeOf (typeIs_int s i t) (wpAny_bind (I.type.here ?_)))
  split
  · refine wpAny_bind ((looks_subIn X hsub).here ?_)
    simp only [Bool.false_eq_true, if_false, Bool.not_false, if_true]
    refine wpAny_bind (m := tryCompare (.int i t) _ (.ref x)) (wpAny_tryCompare_declines (typeIs_int s i t) slot (ni prog w A E s x C dx i t _ hx ⟨rfl, ?_⟩))
    refine wpAny_bind (m := tryCompare (.ref x) _ (.int i t)) (wpAny_mono one (fun r s' z => ?_) fun _ _ e => e)
    obtain ⟨v, rfl, hq⟩ := z
    exact wpAny_pure hq
  · rename_i q
    simp at q
end
section
variable {X : Cx} {B : Bs} {P : Program} {w : World} {K : Frag} {mg : Str → Option Value} {base : Heap}
/-- one of two readings -/
def rOr (r1 r2 : R2D) : R2D := fun a b μ k => r1 a b μ k ∨ r2 a b μ k
theorem orD {f : Value → Value → Sem Value} {r1 r2 : R2D} (h1 : OpD X B f r1) (h2 : OpD X B f r2) : OpD X B f (rOr r1 r2) := imO (orO h1 h2) fun x y H Q ⟨G, μ, dx, dy, k, g0, hh, ax, ay, r, kk⟩ => by
  rcases r with r | r
  · exact .inl ⟨G, μ, dx, dy, k, g0, hh, ax, ay, r, kk⟩
  · exact .inr ⟨G, μ, dx, dy, k, g0, hh, ax, ay, r, kk⟩
/-- an int on the left, an instance of the class at C on the right; the method's promise -/
def rRefl (C : Addr) (neg : Bool) (sp : SpD) : R2D := fun a b μ k => (∃ i, a = .int i) ∧ (∃ fs, insOf μ b = some (C, fs)) ∧ sp [b, a] μ (fun v μ' => ∃ c, v = .bl c ∧ k (.bl (c ^^ neg)) μ') x0
theorem od_refl {op : CmpOp} {j : Nat} {C : Addr} {m : Str} {sp : SpD} (N : IntNi op) (M : OpG P w K mg base j C m sp) (hsub : subIn K (.ref C) (.type "int") = some false) (hr : Room j X.A) (hm : (cmpInfo op).2.2 = m := by rfl) (hX : XIs X P w K mg base := by exact ⟨rfl, rfl, rfl, rfl, rfl⟩)
    (hop : ∀ a b, compareOp op a b = richCompare op a b := by intro _ _; rfl) : OpD X B (compareOp op) (rRefl C false sp) := by
  subst hm
  obtain ⟨rfl, rfl, rfl, rfl, rfl⟩ := hX
  obtain ⟨f, fd, ps, hs, hf, hb, F⟩ := M.ex
  rintro pins s σ H x y u v Q I rx ry ⟨G, μ, dx, dy, k, g0, hh, ax, ay, ⟨⟨i, e0⟩, ⟨fs, e1⟩, q⟩, kk⟩
  subst e0
  have ei := ax.int_inv
  subst ei
  obtain ⟨t, rfl⟩ := rx
  obtain ⟨p, dxx, vs, rfl, hH, _⟩ := insOf_at hh ay e1
  cases ry
  obtain ⟨_, _, _, hx, _⟩ := (show ObjOk X.prog X.w H s.heap p (.ins C dxx vs) from I.hok p _ hH)
  obtain ⟨mA, J, _⟩ := ins_get I.hok hH
  obtain ⟨od, J, _⟩ := J.look
  rw [hop]
  refine refl_K N hr.units0 I.kIn J hx hsub ?_
  unfold tryCompare
  refine wpAny_bind (PySem.W.ifBound_K I.kIn J hs hf (run_own F hr rfl hb passE0 I (.cons (show L2.RelV (.ref p) (.ref p) from rfl) (.cons (show L2.RelV (.int i) (.int i t) from ⟨t, rfl⟩) .nil)) (lSp_go (Q := fun z H' => ∃ c, z = .bl c ∧ Q (.bl c) H') hh (.cons ay (.cons ax .nil)) q fun z H' G' d μ' s' h' a' ⟨c, e, q'⟩ => ?_) fun z s' hz => ?_))
  · subst e
    rw [Bool.xor_false] at q'
    exact ⟨c, a'.bl_inv, kk _ H' G' _ μ' s' h' (.bl c) q'⟩
  · obtain ⟨z, H', I', rz, c, ez, q'⟩ := hz
    subst ez
    cases rz
    exact wpAny_pure ⟨_, rfl, .bl c, H', I', rfl, q'⟩
theorem od_reflNe {j : Nat} {C : Addr} {sp : SpD} (M : OpG P w K mg base j C "__eq__" sp) (Ne : NeC K C) (hsub : subIn K (.ref C) (.type "int") = some false) (hr : Room (j + 1) X.A) (hX : XIs X P w K mg base := by exact ⟨rfl, rfl, rfl, rfl, rfl⟩) : OpD X B (compareOp .NotEq) (rRefl C true sp) := by
  obtain ⟨rfl, rfl, rfl, rfl, rfl⟩ := hX
  obtain ⟨f, fd, ps, hs, hf, hb, F⟩ := M.ex
  rintro pins s σ H x y u v Q I rx ry ⟨G, μ, dx, dy, k, g0, hh, ax, ay, ⟨⟨i, e0⟩, ⟨fs, e1⟩, q⟩, kk⟩
  subst e0
  have ei := ax.int_inv
  subst ei
  obtain ⟨t, rfl⟩ := rx
  obtain ⟨p, dxx, vs, rfl, hH, _⟩ := insOf_at hh ay e1
  cases ry
  obtain ⟨_, _, _, hx, _⟩ := (show ObjOk X.prog X.w H s.heap p (.ins C dxx vs) from I.hok p _ hH)
  obtain ⟨mA, J, _⟩ := ins_get I.hok hH
  obtain ⟨od, J, _⟩ := J.look
  obtain ⟨m, hF⟩ := I.fr
  show wpAny _ _ (richCompare .NotEq (.int i t) (.ref p)) _ _ _
  refine refl_K ni_ne (by have := hr.units; omega) I.kIn J hx hsub ?_
  rw [cmpInfo_NotEq]
  refine ne_try (by have := hr.units; omega) hF I.ok.mod.kin J Ne.ne Ne.ob hs hf ?_
  refine run_own F hr.in1 rfl hb passE0 I (.cons (show L2.RelV (.ref p) (.ref p) from rfl) (.cons (show L2.RelV (.int i) (.int i t) from ⟨t, rfl⟩) .nil)) (lSp_go (Q := fun z H' => ∃ c, z = .bl c ∧ Q (.bl (!c)) H') hh (.cons ay (.cons ax .nil)) q fun z H' G' d μ' s' h' a' ⟨c, e, q'⟩ => ?_) fun z s' hz => ?_
  · subst e
    rw [Bool.xor_true] at q'
    exact ⟨c, a'.bl_inv, kk _ H' G' _ μ' s' h' (.bl _) q'⟩
  · obtain ⟨z, H', I', rz, c, ez, q'⟩ := hz
    subst ez
    cases rz
    exact ⟨c, rfl, .bl (!c), H', I', rfl, q'⟩
end
end Dl
namespace Dl
open PySem PySem.Spec PyProof.Rows L2
open PySem.W (Frag InstAt Looks findIn isFn subIn typeIn)
section
variable {X : Cx} {B : Bs} {P : Program} {w : World} {K : Frag} {mg : Str → Option Value} {base : Heap}
/-! ### str -/
def rStrI : RAD := fun ds μ k => match ds with
  | [.int i] => i.natAbs.log2 < 1920 ∧ k (.str (toString i : String)) μ
  | _ => False
theorem cd_strI : CallD X B (.type "str") rStrI := imC call_str_int fun vs H Q ⟨G, μ, ds, k, g0, hh, a, q, kk⟩ => by
  unfold rStrI at q
  split at q
  · rename_i i
    obtain ⟨v, rfl, av⟩ := a.one
    rw [av.int_inv]
    exact ⟨i, rfl, q.1, kk _ H G _ μ (Same.refl _) hh (.str _) q.2⟩
  · exact q.elim
theorem q_strI {i : Int} {μ : Mu} {k : KD} : rStrI [.int i] μ k = (i.natAbs.log2 < 1920 ∧ k (.str (toString i : String)) μ) := rfl
/-- str(o) by an own __str__ -/
def rStrO (C : Addr) (sp : SpD) : RAD := fun ds μ k => ∃ d fs, ds = [d] ∧ insOf μ d = some (C, fs) ∧ sp [d] μ (fun v μ' => ∃ z, v = .str z ∧ k (.str z) μ') x0
theorem cd_strO {j : Nat} {C : Addr} {sp : SpD} (M : OpG P w K mg base j C "__str__" sp) (hr : Room (j + 2) X.A) (hX : XIs X P w K mg base := by exact ⟨rfl, rfl, rfl, rfl, rfl⟩) : CallD X B (.type "str") (rStrO C sp) := by
  obtain ⟨rfl, rfl, rfl, rfl, rfl⟩ := hX
  obtain ⟨f, fd, ps, hs, hf, hb, F⟩ := M.ex
  rintro pins s σ H xs us Q I r ⟨G, μ, ds, k, g0, hh, a, ⟨d, fs, e0, e1, q⟩, kk⟩
  subst e0
  obtain ⟨v, rfl, av⟩ := a.one
  obtain ⟨p, dxx, vs, rfl, hH, _⟩ := insOf_at hh av e1
  cases r with
  | cons r1 r2 =>
    cases r2
    cases r1
    obtain ⟨mA, J, _⟩ := ins_get I.hok hH
    obtain ⟨od, J, _⟩ := J.look
    refine PySem.W.kso_call (by have := hr.in1.in1.units; omega) I.kIn J hs hf ?_
    refine run_own F hr.in1.in1 rfl hb passE0 I (.cons (show L2.RelV (.ref p) (.ref p) from rfl) .nil) (lSp_go (Q := fun z H' => ∃ c, z = .str c ∧ Q (.str c) H') hh (.cons av .nil) q fun z H' G' d μ' s' h' a' ⟨c, e, q'⟩ => ?_) fun z s' hz => ?_
    · subst e
      exact ⟨c, a'.str_inv, kk _ H' G' _ μ' s' h' (.str c) q'⟩
    · obtain ⟨z, H', I', rz, c, ez, q'⟩ := hz
      subst ez
      obtain ⟨t, rfl⟩ := rz
      exact ⟨.str c, H', I', ⟨t, rfl⟩, q'⟩
/-! ### f-strings -/
def dFmt (t : TED) : TED := fun ρ μ k => t ρ μ fun x μ1 => match x with
  | .str y => y.length ≤ 100000 ∧ k (.str y) μ1
  | .int i => i.natAbs.log2 < 1920 ∧ k (.str (toString i : String)) μ1
  | _ => False
theorem pd_fmt {e : Expr} {t : TED} {pos : Pos} (he : PD X B e t) : PD X B (.FormattedValue e (-1) none pos) (dFmt t) := imE (pe_fmt he) fun σ H Q ⟨G, ρ, μ, k, g0, hh, sl, q, kk⟩ => by
  refine ⟨G, ρ, μ, _, g0, hh, sl, q, fun v H1 G1 d μ1 s1 h1 a1 q1 => ?_⟩
  cases a1 with
  | str y => exact .inl ⟨y, rfl, line_of q1.1, kk _ H1 G1 _ μ1 s1 h1 (.str y) q1.2⟩
  | int i => exact .inr ⟨i, rfl, q1.1, kk _ H1 G1 _ μ1 s1 h1 (.str _) q1.2⟩
  | _ => exact q1.elim
def dJs : List TED → Str → SD → Mu → (Str → Mu → Prop) → Prop
  | [], acc, _, μ, k => k acc μ
  | t :: ts, acc, ρ, μ, k => t ρ μ fun x μ1 => ∃ y : Str, x = .str y ∧ (acc ++ y).length ≤ 100000 ∧ dJs ts (acc ++ y) ρ μ1 k
def dJoin (ts : List TED) : TED := fun ρ μ k => dJs ts Str.empty ρ μ fun out μ1 => k (.str out) μ1
theorem lJs : ∀ (ts : List TED) (acc : Str) (σ : L2.St) (ρ : SD) (H G : Hp) (μ : Mu) (k : Str → Mu → Prop) (Q : Str → Hp → Prop), Same B.g G → Hold X.K H G B.f μ → Slots X.K G σ ρ → dJs ts acc ρ μ k →
    (∀ z H' G' μ', Same G G' → Hold X.K H' G' B.f μ' → k z μ' → Q z H') → tJs (ts.map (lE X.K B)) acc σ H Q
  | [], acc, σ, ρ, H, G, μ, k, Q, g0, hh, sl, q, kk => kk acc H G μ (Same.refl _) hh q
  | t :: ts, acc, σ, ρ, H, G, μ, k, Q, g0, hh, sl, q, kk => by
    refine ⟨G, ρ, μ, _, g0, hh, sl, q, fun v H1 G1 d μ1 s1 h1 a1 ⟨y, e, hz, q1⟩ => ?_⟩
    subst e
    exact ⟨y, a1.str_inv, line_of hz, lJs ts (acc ++ y) σ ρ H1 G1 μ1 k Q (g0.trans s1) h1 (sl.mono s1) q1 fun z H' G' μ' s' => kk z H' G' μ' (s1.trans s')⟩
theorem pd_join {v1 v2 : Expr} {rest : List Expr} {ts : List TED} {pos : Pos} (h : PJ X (v1 :: v2 :: rest) (ts.map (lE X.K B))) : PD X B (.JoinedStr (v1 :: v2 :: rest) pos) (dJoin ts) := imE (pe_joined h) fun σ H Q ⟨G, ρ, μ, k, g0, hh, sl, q, kk⟩ =>
  lJs ts Str.empty σ ρ H G μ _ _ g0 hh sl q fun z H' G' μ' s' h' q' => kk _ H' G' _ μ' s' h' (.str z) q'
/-! ### a def with defaults, all parameters given -/
theorem binds_all {x qual : Str} {params : Arguments} {body : List Stmt} {scope : Scope} {dvs : List V} {kws : List (Str × V)} {f : Addr} {fd : FuncData} {ps : List Str} (F : FunD K x qual params body scope dvs kws f fd) (hd : dvs ≠ [])
    (h : ∀ (T : Addr) (kV doc pm : Value) (an : Option Addr) (cdv ct : Value) (us its : List Value), us.length = ps.length → its.length = dvs.length →
      ∃ k, bindArgs (PySem.W.fnOf x qual params body scope (.ref T) kV doc pm an cdv ct) ⟨us, []⟩ = seqItems? (.ref T) >>= k ∧ k (some its.toArray) = pure (ps.zip us)) : Binds K fd ps [] := by
  obtain ⟨ds, v, b⟩ := F.binds1 ps.length dvs.length hd (by omega) (ps := ps) fun T kV doc pm an cdv ct us its h1 h2 => by
    obtain ⟨k, e1, e2⟩ := h T kV doc pm an cdv ct us its h1 h2
    refine ⟨k, e1, ?_⟩
    rw [e2, List.drop_of_length_le (by omega), List.append_nil]
  rw [List.drop_length] at v
  cases v
  exact b
end
end Dl
namespace Lk
open PySem PySem.Spec PyProof.Rows L2 Dl
local macro_rules | `(tactic| walk_at "rd") => `(tactic| first | simp only [dSeq, dNext, dAsg, dRet, dRetN, dIfS, dDrop, dVar, dC, dOp, dUn, dTest, dNil, dCons, dTup, dLst, dLstM, dAndV, dOrV, dNotV, dAnd, dOr, dNot, dIf, dArgs, dCall, dMeth, dFld, dSetF, dApp, dSetI, dFor, dPar, dFrz, dNever, dBreak, dCont, dIs, dRange1, dRange2, dZip, dEnum, dLc, dYes, dChain, dStr, dFmt, dJoin, dJs, q_strI, q_s1, q_isid, q_clsT, q_clsR, q_isi_non_int, q_isi_non_bool, q_isi_non_str, q_isi_non_tuple, q_isi_non_list, q_isi_non_dict, q_isi_bl_int, q_isi_bl_bool, q_isi_bl_str, q_isi_bl_tuple, q_isi_bl_list, q_isi_bl_dict, q_isi_int_int, q_isi_int_bool, q_isi_int_str, q_isi_int_tuple, q_isi_int_list, q_isi_int_dict, q_isi_str_int, q_isi_str_bool, q_isi_str_str, q_isi_str_tuple, q_isi_str_list, q_isi_str_dict, q_isi_tup_int, q_isi_tup_bool, q_isi_tup_str, q_isi_tup_tuple, q_isi_tup_list, q_isi_tup_dict, q_isi_lst_int, q_isi_lst_bool, q_isi_lst_str, q_isi_lst_tuple, q_isi_lst_list, q_isi_lst_dict, q_isi_dK_int, q_isi_dK_bool, q_isi_dK_str, q_isi_dK_tuple, q_isi_dK_list, q_isi_dK_dict, wipeD, setAll, rRepr, q_ixl, q_ixt, q_ixr, q_ixs, q_at0, q_at1, q_at2, q_at3, q_ixn0, q_ixn1, q_i2, q_ii, q_u1, q_addi, q_adds, q_eqi, q_eqs, q_eqt2, q_eqnn, q_isn, q_isb, q_isi, q_iss, q_ist, q_isl, q_isx, q_isr, q_lenl, q_lent, q_lens, q_lenr, q_int1, q_inti, q_intb, q_int2, q_insi, q_nm, q_tp, q_rl, q_rt, mput_same, startD, List.map_cons, List.map_nil, List.length_cons, List.length_nil, List.replicate_succ, List.replicate_zero, List.cons_append, List.nil_append, List.append_nil, Nat.add_sub_cancel, Nat.reduceAdd, Nat.reduceSub, Nat.sub_self, List.getElem?_cons_zero, List.getElem?_cons_succ, List.getElem?_nil, List.set_cons_zero, List.set_cons_succ, Option.some.injEq, D.int.injEq, D.bl.injEq, D.ref.injEq, D.lst.injEq, D.tup.injEq, D.str.injEq, MO.lst.injEq, List.cons.injEq, exists_eq_left', exists_eq_left, exists_eq_right, exists_eq_right', exists_and_left, and_assoc, exists_eq, true_and, and_true, reduceCtorEq, decide_eq_true_eq, Bool.xor_false, Bool.xor_true, Bool.not_true, Bool.not_false, decide_true, decide_false, Nat.reduceLeDiff, if_true, if_false, Bool.false_eq_true, Int.reduceToNat, Int.reducePow, ne_eq, Int.reduceEq, not_false_eq_true] | skip)
local macro_rules | `(tactic| walk_at "rdh") => `(tactic| first | simp only [*, dSeq, dNext, dAsg, dRet, dRetN, dIfS, dDrop, dVar, dC, dOp, dUn, dTest, dNil, dCons, dTup, dLst, dLstM, dAndV, dOrV, dNotV, dAnd, dOr, dNot, dIf, dArgs, dCall, dMeth, dFld, dSetF, dApp, dSetI, dFor, dPar, dFrz, dNever, dBreak, dCont, dIs, dRange1, dRange2, dZip, dEnum, dLc, dYes, dChain, dStr, dFmt, dJoin, dJs, q_strI, q_s1, q_isid, q_clsT, q_clsR, q_isi_non_int, q_isi_non_bool, q_isi_non_str, q_isi_non_tuple, q_isi_non_list, q_isi_non_dict, q_isi_bl_int, q_isi_bl_bool, q_isi_bl_str, q_isi_bl_tuple, q_isi_bl_list, q_isi_bl_dict, q_isi_int_int, q_isi_int_bool, q_isi_int_str, q_isi_int_tuple, q_isi_int_list, q_isi_int_dict, q_isi_str_int, q_isi_str_bool, q_isi_str_str, q_isi_str_tuple, q_isi_str_list, q_isi_str_dict, q_isi_tup_int, q_isi_tup_bool, q_isi_tup_str, q_isi_tup_tuple, q_isi_tup_list, q_isi_tup_dict, q_isi_lst_int, q_isi_lst_bool, q_isi_lst_str, q_isi_lst_tuple, q_isi_lst_list, q_isi_lst_dict, q_isi_dK_int, q_isi_dK_bool, q_isi_dK_str, q_isi_dK_tuple, q_isi_dK_list, q_isi_dK_dict, wipeD, setAll, rRepr, q_ixl, q_ixt, q_ixr, q_ixs, q_at0, q_at1, q_at2, q_at3, q_ixn0, q_ixn1, q_i2, q_ii, q_u1, q_addi, q_adds, q_eqi, q_eqs, q_eqt2, q_eqnn, q_isn, q_isb, q_isi, q_iss, q_ist, q_isl, q_isx, q_isr, q_lenl, q_lent, q_lens, q_lenr, q_int1, q_inti, q_intb, q_int2, q_insi, q_nm, q_tp, q_rl, q_rt, mput_same, startD, List.map_cons, List.map_nil, List.length_cons, List.length_nil, List.replicate_succ, List.replicate_zero, List.cons_append, List.nil_append, List.append_nil, Nat.add_sub_cancel, Nat.reduceAdd, Nat.reduceSub, Nat.sub_self, List.getElem?_cons_zero, List.getElem?_cons_succ, List.getElem?_nil, List.set_cons_zero, List.set_cons_succ, Option.some.injEq, D.int.injEq, D.bl.injEq, D.ref.injEq, D.lst.injEq, D.tup.injEq, D.str.injEq, MO.lst.injEq, List.cons.injEq, exists_eq_left', exists_eq_left, exists_eq_right, exists_eq_right', exists_and_left, and_assoc, exists_eq, true_and, and_true, reduceCtorEq, decide_eq_true_eq, Bool.xor_false, Bool.xor_true, Bool.not_true, Bool.not_false, decide_true, decide_false, Nat.reduceLeDiff, if_true, if_false, Bool.false_eq_true, Int.reduceToNat, Int.reducePow, ne_eq, Int.reduceEq, not_false_eq_true] | skip)
local macro_rules | `(tactic| walk_at "lp") => `(tactic| first | simp only [q_loopn, q_loopc, q_nm, q_tp, List.length_cons, List.length_nil, true_and] | skip)
def top (i : Nat) : Stmt := PySem.Challenge.pw_switchforms_k72_whole_ratios_in_order.main.body.getD i (.Pass ⟨0, 0, 0, 0⟩)
abbrev s_top_of : Stmt := top 15
abbrev top_of_N : List Str := ["value"]
theorem sc_top_of : FnScope top_of_N ["value"] (defScope s_top_of) := ⟨rfl, rfl, rfl, by decide +kernel, rfl, by decide +kernel, by decide +kernel⟩
abbrev s_bottom_of : Stmt := top 16
abbrev bottom_of_N : List Str := ["value"]
theorem sc_bottom_of : FnScope bottom_of_N ["value"] (defScope s_bottom_of) := ⟨rfl, rfl, rfl, by decide +kernel, rfl, by decide +kernel, by decide +kernel⟩
abbrev s_gap_of : Stmt := top 21
abbrev gap_of_N : List Str := ["one", "other"]
theorem sc_gap_of : FnScope gap_of_N ["one", "other"] (defScope s_gap_of) := ⟨rfl, rfl, rfl, by decide +kernel, rfl, by decide +kernel, by decide +kernel⟩
abbrev s_is_integer : Stmt := top 10
abbrev is_integer_N : List Str := ["value"]
theorem sc_is_integer : FnScope is_integer_N ["value"] (defScope s_is_integer) := ⟨rfl, rfl, rfl, by decide +kernel, rfl, by decide +kernel, by decide +kernel⟩
abbrev s_is_term : Stmt := top 14
abbrev is_term_N : List Str := ["value"]
theorem sc_is_term : FnScope is_term_N ["value"] (defScope s_is_term) := ⟨rfl, rfl, rfl, by decide +kernel, rfl, by decide +kernel, by decide +kernel⟩
abbrev s_Ratio___eq__ : Stmt := inClass (top 22) 19
abbrev Ratio___eq___N : List Str := ["self", "other"]
theorem sc_Ratio___eq__ : FnScope Ratio___eq___N ["self", "other"] (defScope s_Ratio___eq__) := ⟨rfl, rfl, rfl, by decide +kernel, rfl, by decide +kernel, by decide +kernel⟩
abbrev s_Ratio___str__ : Stmt := inClass (top 22) 3
abbrev Ratio___str___N : List Str := ["self"]
theorem sc_Ratio___str__ : FnScope Ratio___str___N ["self"] (defScope s_Ratio___str__) := ⟨rfl, rfl, rfl, by decide +kernel, rfl, by decide +kernel, by decide +kernel⟩
abbrev s_Ratio___gt__ : Stmt := inClass (top 22) 17
abbrev Ratio___gt___N : List Str := ["self", "other"]
theorem sc_Ratio___gt__ : FnScope Ratio___gt___N ["self", "other"] (defScope s_Ratio___gt__) := ⟨rfl, rfl, rfl, by decide +kernel, rfl, by decide +kernel, by decide +kernel⟩
abbrev s_Ratio___lt__ : Stmt := inClass (top 22) 15
abbrev Ratio___lt___N : List Str := ["self", "other"]
theorem sc_Ratio___lt__ : FnScope Ratio___lt___N ["self", "other"] (defScope s_Ratio___lt__) := ⟨rfl, rfl, rfl, by decide +kernel, rfl, by decide +kernel, by decide +kernel⟩
abbrev s_Ratio___ge__ : Stmt := inClass (top 22) 18
abbrev Ratio___ge___N : List Str := ["self", "other"]
theorem sc_Ratio___ge__ : FnScope Ratio___ge___N ["self", "other"] (defScope s_Ratio___ge__) := ⟨rfl, rfl, rfl, by decide +kernel, rfl, by decide +kernel, by decide +kernel⟩
abbrev s_Ratio___le__ : Stmt := inClass (top 22) 16
abbrev Ratio___le___N : List Str := ["self", "other"]
theorem sc_Ratio___le__ : FnScope Ratio___le___N ["self", "other"] (defScope s_Ratio___le__) := ⟨rfl, rfl, rfl, by decide +kernel, rfl, by decide +kernel, by decide +kernel⟩
abbrev s__law_right : Stmt := top 27
abbrev _law_right_N : List Str := ["_law_a", "_law_b", "_law_gap", "_law_told", "_law_due"]
theorem sc__law_right : FnScope _law_right_N ["_law_a", "_law_b", "_law_gap"] (defScope s__law_right) := ⟨rfl, rfl, rfl, by decide +kernel, rfl, by decide +kernel, by decide +kernel⟩
abbrev s__law_take : Stmt := top 25
abbrev _law_take_N : List Str := ["_law_pool_here", "_law_many", "_law_found"]
theorem sc__law_take : FnScope _law_take_N ["_law_pool_here", "_law_many"] (defScope s__law_take) := ⟨rfl, rfl, rfl, by decide +kernel, rfl, by decide +kernel, by decide +kernel⟩
abbrev s_shared_divisor : Stmt := top 13
abbrev shared_divisor_N : List Str := ["one", "other"]
theorem sc_shared_divisor : FnScope shared_divisor_N ["one", "other"] (defScope s_shared_divisor) := ⟨rfl, rfl, rfl, by decide +kernel, rfl, by decide +kernel, by decide +kernel⟩
abbrev s_Ratio___init__ : Stmt := inClass (top 22) 0
abbrev Ratio___init___N : List Str := ["self", "top", "bottom", "part", "shared"]
theorem sc_Ratio___init__ : FnScope Ratio___init___N ["self", "top", "bottom"] (defScope s_Ratio___init__) := ⟨rfl, rfl, rfl, by decide +kernel, rfl, by decide +kernel, by decide +kernel⟩
abbrev s__law_drawn : Stmt := top 26
abbrev _law_drawn_N : List Str := ["_law_pool_here", "_law_great", "_law_top", "_law_bottom"]
theorem sc__law_drawn : FnScope _law_drawn_N ["_law_pool_here"] (defScope s__law_drawn) := ⟨rfl, rfl, rfl, by decide +kernel, rfl, by decide +kernel, by decide +kernel⟩
abbrev s__law_pool : Stmt := top 24
abbrev _law_pool_N : List Str := ["_law_script", "_law_k", "_law_cell", "_law_great", "_law_seed"]
theorem sc__law_pool : FnScope _law_pool_N ["_law_script", "_law_k"] (defScope s__law_pool) := ⟨rfl, rfl, rfl, by decide +kernel, rfl, by decide +kernel, by decide +kernel⟩
abbrev s_law : Stmt := top 28
abbrev law_N : List Str := ["_law_script", "_law_k", "_law_pool_here", "_law_rows", "_law_factor", "_law_ratios", "_law_number", "_law_one", "_law_a", "_law_row", "_law_two", "_law_b"]
theorem sc_law : FnScope law_N ["_law_script"] (defScope s_law) := ⟨rfl, rfl, rfl, by decide +kernel, rfl, by decide +kernel, by decide +kernel⟩
/-! ### what the top has written -/
structure Tx (K : PySem.W.Frag) (mg : Str → Option Value) : Prop where
  g_law : mg "law" = some (.ref (He.ga K "law"))
  d_law : ∃ fd, FunD K "law" "law" (defArgs s_law) (defBody s_law) (defScope s_law) [] [] (He.fAd K ("law", none)) fd
  no_len : mg "len" = none
  no_min : mg "min" = none
  no_max : mg "max" = none
  no_range : mg "range" = none
  no_zip : mg "zip" = none
  d_Ratio___eq__ : ∃ fd, FunD K "__eq__" "Ratio.__eq__" (defArgs s_Ratio___eq__) (defBody s_Ratio___eq__) (defScope s_Ratio___eq__) [] [] (He.fAd K ("Ratio", some "__eq__")) fd
  d_gap_of : ∃ fd, FunD K "gap_of" "gap_of" (defArgs s_gap_of) (defBody s_gap_of) (defScope s_gap_of) [] [] (He.fAd K ("gap_of", none)) fd
  d_top_of : ∃ fd, FunD K "top_of" "top_of" (defArgs s_top_of) (defBody s_top_of) (defScope s_top_of) [] [] (He.fAd K ("top_of", none)) fd
  g_Ratio : mg "Ratio" = some (.ref (He.ga K "Ratio"))
  no_isinstance : mg "isinstance" = none
  fld_Ratio_top : Fld K (He.ga K "Ratio") "top"
  d_bottom_of : ∃ fd, FunD K "bottom_of" "bottom_of" (defArgs s_bottom_of) (defBody s_bottom_of) (defScope s_bottom_of) [] [] (He.fAd K ("bottom_of", none)) fd
  fld_Ratio_bottom : Fld K (He.ga K "Ratio") "bottom"
  d_is_term : ∃ fd, FunD K "is_term" "is_term" (defArgs s_is_term) (defBody s_is_term) (defScope s_is_term) [] [] (He.fAd K ("is_term", none)) fd
  d_is_integer : ∃ fd, FunD K "is_integer" "is_integer" (defArgs s_is_integer) (defBody s_is_integer) (defScope s_is_integer) [] [] (He.fAd K ("is_integer", none)) fd
  no_bool : mg "bool" = none
  no_int : mg "int" = none
  d_Ratio___str__ : ∃ fd, FunD K "__str__" "Ratio.__str__" (defArgs s_Ratio___str__) (defBody s_Ratio___str__) (defScope s_Ratio___str__) [] [] (He.fAd K ("Ratio", some "__str__")) fd
  no_str : mg "str" = none
  d__law_right : ∃ fd, FunD K "_law_right" "_law_right" (defArgs s__law_right) (defBody s__law_right) (defScope s__law_right) [] [] (He.fAd K ("_law_right", none)) fd
  no_repr : mg "repr" = none
  d_Ratio___gt__ : ∃ fd, FunD K "__gt__" "Ratio.__gt__" (defArgs s_Ratio___gt__) (defBody s_Ratio___gt__) (defScope s_Ratio___gt__) [] [] (He.fAd K ("Ratio", some "__gt__")) fd
  d_Ratio___lt__ : ∃ fd, FunD K "__lt__" "Ratio.__lt__" (defArgs s_Ratio___lt__) (defBody s_Ratio___lt__) (defScope s_Ratio___lt__) [] [] (He.fAd K ("Ratio", some "__lt__")) fd
  si_Ratio : PySem.W.subIn K (.ref (He.ga K "Ratio")) (.type "int") = some false
  d_Ratio___ge__ : ∃ fd, FunD K "__ge__" "Ratio.__ge__" (defArgs s_Ratio___ge__) (defBody s_Ratio___ge__) (defScope s_Ratio___ge__) [] [] (He.fAd K ("Ratio", some "__ge__")) fd
  d_Ratio___le__ : ∃ fd, FunD K "__le__" "Ratio.__le__" (defArgs s_Ratio___le__) (defBody s_Ratio___le__) (defScope s_Ratio___le__) [] [] (He.fAd K ("Ratio", some "__le__")) fd
  ne_Ratio : NeC K (He.ga K "Ratio")
  d__law_take : ∃ fd, FunD K "_law_take" "_law_take" (defArgs s__law_take) (defBody s__law_take) (defScope s__law_take) [] [] (He.fAd K ("_law_take", none)) fd
  d_Ratio___init__ : ∃ fd, FunD K "__init__" "Ratio.__init__" (defArgs s_Ratio___init__) (defBody s_Ratio___init__) (defScope s_Ratio___init__) [.int 1] [] (He.fAd K ("Ratio", some "__init__")) fd
  d_shared_divisor : ∃ fd, FunD K "shared_divisor" "shared_divisor" (defArgs s_shared_divisor) (defBody s_shared_divisor) (defScope s_shared_divisor) [] [] (He.fAd K ("shared_divisor", none)) fd
  no_abs : mg "abs" = none
  d__law_drawn : ∃ fd, FunD K "_law_drawn" "_law_drawn" (defArgs s__law_drawn) (defBody s__law_drawn) (defScope s__law_drawn) [] [] (He.fAd K ("_law_drawn", none)) fd
  d__law_pool : ∃ fd, FunD K "_law_pool" "_law_pool" (defArgs s__law_pool) (defBody s__law_pool) (defScope s__law_pool) [] [] (He.fAd K ("_law_pool", none)) fd
  g_top_of : mg "top_of" = some (.ref (He.ga K "top_of"))
  g_bottom_of : mg "bottom_of" = some (.ref (He.ga K "bottom_of"))
  g_gap_of : mg "gap_of" = some (.ref (He.ga K "gap_of"))
  g_is_integer : mg "is_integer" = some (.ref (He.ga K "is_integer"))
  g_is_term : mg "is_term" = some (.ref (He.ga K "is_term"))
  me_Ratio___eq__ : Meth K (He.ga K "Ratio") "__eq__" (He.fAd K ("Ratio", some "__eq__"))
  me_Ratio___str__ : Meth K (He.ga K "Ratio") "__str__" (He.fAd K ("Ratio", some "__str__"))
  me_Ratio___gt__ : Meth K (He.ga K "Ratio") "__gt__" (He.fAd K ("Ratio", some "__gt__"))
  me_Ratio___lt__ : Meth K (He.ga K "Ratio") "__lt__" (He.fAd K ("Ratio", some "__lt__"))
  me_Ratio___ge__ : Meth K (He.ga K "Ratio") "__ge__" (He.fAd K ("Ratio", some "__ge__"))
  me_Ratio___le__ : Meth K (He.ga K "Ratio") "__le__" (He.fAd K ("Ratio", some "__le__"))
  g__law_right : mg "_law_right" = some (.ref (He.ga K "_law_right"))
  g__law_take : mg "_law_take" = some (.ref (He.ga K "_law_take"))
  g_shared_divisor : mg "shared_divisor" = some (.ref (He.ga K "shared_divisor"))
  m_Ratio : Mk K (He.ga K "Ratio") (He.fAd K ("Ratio", some "__init__"))
  g__law_drawn : mg "_law_drawn" = some (.ref (He.ga K "_law_drawn"))
  g__law_pool : mg "_law_pool" = some (.ref (He.ga K "_law_pool"))
  ic_Ratio : InsC K (He.ga K "Ratio")
  k_int_Ratio : PySem.W.kitOne K (.type "int") (.ref (He.ga K "Ratio")) = some false
  k_tuple_Ratio : PySem.W.kitOne K (.type "tuple") (.ref (He.ga K "Ratio")) = some false
  k_NoneType_Ratio : PySem.W.kitOne K (.type "NoneType") (.ref (He.ga K "Ratio")) = some false
  k_str_Ratio : PySem.W.kitOne K (.type "str") (.ref (He.ga K "Ratio")) = some false
theorem sb_bottom_top : (("bottom" : Str) == "top") = false := by decide +kernel
theorem se_bottom_top : (("bottom" : Str) = "top") = False := eq_false (by decide +kernel)
theorem sb_top_bottom : (("top" : Str) == "bottom") = false := by decide +kernel
theorem se_top_bottom : (("top" : Str) = "bottom") = False := eq_false (by decide +kernel)
local macro_rules | `(tactic| walk_at "fl") => `(tactic| first | simp only [putD, List.lookup_cons, List.lookup_nil, beq_self_eq_true, if_true, if_false, List.length_cons, List.length_nil, Nat.reduceAdd, Nat.reduceLT, Option.some.injEq, exists_eq_left', true_and, sb_bottom_top, se_bottom_top, sb_top_bottom, se_top_bottom] | skip)
section
variable {P : Program} {w : World} {K : PySem.W.Frag} {mg : Str → Option Value} {base : Heap}
def ratD (K : PySem.W.Frag) (t b : Int) : D := .ins (He.ga K "Ratio") [("top", .int t), ("bottom", .int b)]
/-- by what a fraction is brought to lowest terms -/
def sg (t b : Int) : Int := if b < 0 then -(Int.gcd t b : Nat) else (Int.gcd t b : Nat)
def redT (t b : Int) : Int := t.fdiv (sg t b)
def redB (t b : Int) : Int := b.fdiv (sg t b)
def Term (K : PySem.W.Frag) (d : D) (t b : Int) : Prop := (d = .int t ∧ b = 1) ∨ d = ratD K t b
/-- a number of at most so many bits -/
def Sm (i : Int) : Prop := i.natAbs < 2 ^ 2000
def PoolAt (μ : Mu) (p : Addr) : Prop := ∃ g s : Int, μ p = some (.lst [.int g, .int s]) ∧ 0 ≤ g ∧ 0 ≤ s ∧ s < 2147483647
def sp_top_of (K : PySem.W.Frag) : SpD := fun ds μ k _ => ∃ (d : D) (t b : Int), ds = [d] ∧ Term K d t b ∧ k (.int t) μ
def t_top_of (K : PySem.W.Frag) (ex : XD) : TSD :=
  (dRet (dIf (dTest (dArgs (rIsiD K) (dCons (dVar 0) (dCons (dC (.ref (He.ga K "Ratio"))) dNil)))) (dFld (He.ga K "Ratio") "top" (dVar 0)) (dVar 0)))
set_option maxHeartbeats 4000000 in
theorem ok_top_of (T : Tx K mg) : ∃ fd, FunD K "top_of" "top_of" (defArgs s_top_of) (defBody s_top_of) (defScope s_top_of) [] [] (He.fAd K ("top_of", none)) fd ∧ Binds K fd ["value"] [] ∧ FnOk P w K mg base (CXe P w) 1 (He.fAd K ("top_of", none)) fd ["value"] (lSp K (sp_top_of K)) := by
  obtain ⟨fd, F⟩ := T.d_top_of
  refine ⟨fd, F, F.bindsN (fun _ _ _ _ _ _ us hl => match us, hl with | [_], _ => rfl), ?_⟩
  refine okD (t := t_top_of K) F sc_top_of ?l ?b ?r
  case l =>
    intro ds μ k ex h
    obtain ⟨_, _, _, rfl, _⟩ := h; rfl
  case b =>
    intro cdv A outer s H E B ex hr tk
    have hp := passes_of (X := cxOf (CXe P w) P w K mg base top_of_N "top_of" (defScope s_top_of) (He.fAd K ("top_of", none)) cdv A outer s H E) rfl
    exact (pdb_one (pds_ret (pd_if (pdt_val (pd_fnB cd_isi T.no_isinstance (pda_cons (pd_var 0) (pda_cons (pd_gcls T.g_Ratio) pda_nil)))) (pd_fld T.fld_Ratio_top (pd_var 0)) (pd_var 0))))
  case r =>
    intro ds μ k ex h
    unfold t_top_of
    obtain ⟨d, t, b, rfl, ⟨rfl, rfl⟩ | rfl, h⟩ := h
    · walk_at "rd"
      refine ⟨false, isi_no (T := "int") rfl (fun _ e => by cases e) T.k_int_Ratio, ?_⟩
      walk_at "rd"
      exact h
    · walk_at "rd"
      refine ⟨true, isi_own T.ic_Ratio, ?_⟩
      unfold ratD
      walk_at "rd"
      simp only [Option.some.injEq, Prod.mk.injEq, true_and, exists_eq_left']
      walk_at "fl"
      exact h
theorem fn_top_of (T : Tx K mg) : FnG P w K mg base 1 "top_of" ["value"] (sp_top_of K) := by
  obtain ⟨fd, F, hb, ok⟩ := ok_top_of (P := P) (w := w) (base := base) T
  exact ⟨⟨_, fd, T.g_top_of, F.kp, hb, ok⟩⟩
def sp_bottom_of (K : PySem.W.Frag) : SpD := fun ds μ k _ => ∃ (d : D) (t b : Int), ds = [d] ∧ Term K d t b ∧ k (.int b) μ
def t_bottom_of (K : PySem.W.Frag) (ex : XD) : TSD :=
  (dRet (dIf (dTest (dArgs (rIsiD K) (dCons (dVar 0) (dCons (dC (.ref (He.ga K "Ratio"))) dNil)))) (dFld (He.ga K "Ratio") "bottom" (dVar 0)) (dC (.int 1))))
set_option maxHeartbeats 4000000 in
theorem ok_bottom_of (T : Tx K mg) : ∃ fd, FunD K "bottom_of" "bottom_of" (defArgs s_bottom_of) (defBody s_bottom_of) (defScope s_bottom_of) [] [] (He.fAd K ("bottom_of", none)) fd ∧ Binds K fd ["value"] [] ∧ FnOk P w K mg base (CXe P w) 1 (He.fAd K ("bottom_of", none)) fd ["value"] (lSp K (sp_bottom_of K)) := by
  obtain ⟨fd, F⟩ := T.d_bottom_of
  refine ⟨fd, F, F.bindsN (fun _ _ _ _ _ _ us hl => match us, hl with | [_], _ => rfl), ?_⟩
  refine okD (t := t_bottom_of K) F sc_bottom_of ?l ?b ?r
  case l =>
    intro ds μ k ex h
    obtain ⟨_, _, _, rfl, _⟩ := h; rfl
  case b =>
    intro cdv A outer s H E B ex hr tk
    have hp := passes_of (X := cxOf (CXe P w) P w K mg base bottom_of_N "bottom_of" (defScope s_bottom_of) (He.fAd K ("bottom_of", none)) cdv A outer s H E) rfl
    exact (pdb_one (pds_ret (pd_if (pdt_val (pd_fnB cd_isi T.no_isinstance (pda_cons (pd_var 0) (pda_cons (pd_gcls T.g_Ratio) pda_nil)))) (pd_fld T.fld_Ratio_bottom (pd_var 0)) pd_int)))
  case r =>
    intro ds μ k ex h
    unfold t_bottom_of
    obtain ⟨d, t, b, rfl, ⟨rfl, rfl⟩ | rfl, h⟩ := h
    · walk_at "rd"
      refine ⟨false, isi_no (T := "int") rfl (fun _ e => by cases e) T.k_int_Ratio, ?_⟩
      walk_at "rd"
      exact h
    · walk_at "rd"
      refine ⟨true, isi_own T.ic_Ratio, ?_⟩
      unfold ratD
      walk_at "rd"
      simp only [Option.some.injEq, Prod.mk.injEq, true_and, exists_eq_left']
      walk_at "fl"
      exact h
theorem fn_bottom_of (T : Tx K mg) : FnG P w K mg base 1 "bottom_of" ["value"] (sp_bottom_of K) := by
  obtain ⟨fd, F, hb, ok⟩ := ok_bottom_of (P := P) (w := w) (base := base) T
  exact ⟨⟨_, fd, T.g_bottom_of, F.kp, hb, ok⟩⟩
theorem sm_mul {i j : Int} (h : Sm i) (h' : Sm j) : CMulD i j := .inr (wide_mul (a := 2000) (b := 2000) h h' (by decide) (by decide) (by decide))
def sp_gap_of (K : PySem.W.Frag) : SpD := fun ds μ k _ => ∃ (d e : D) (t b u c : Int), ds = [d, e] ∧ Term K d t b ∧ Term K e u c ∧ Sm t ∧ Sm b ∧ Sm u ∧ Sm c ∧ k (.int (t * c - u * b)) μ
def t_gap_of (K : PySem.W.Frag) (ex : XD) : TSD :=
  (dRet (dOp rSubD (dOp rMulD (dCall (sp_top_of K) (dCons (dVar 0) dNil)) (dCall (sp_bottom_of K) (dCons (dVar 1) dNil))) (dOp rMulD (dCall (sp_top_of K) (dCons (dVar 1) dNil)) (dCall (sp_bottom_of K) (dCons (dVar 0) dNil)))))
set_option maxHeartbeats 4000000 in
theorem ok_gap_of (T : Tx K mg) : ∃ fd, FunD K "gap_of" "gap_of" (defArgs s_gap_of) (defBody s_gap_of) (defScope s_gap_of) [] [] (He.fAd K ("gap_of", none)) fd ∧ Binds K fd ["one", "other"] [] ∧ FnOk P w K mg base (CXe P w) 2 (He.fAd K ("gap_of", none)) fd ["one", "other"] (lSp K (sp_gap_of K)) := by
  obtain ⟨fd, F⟩ := T.d_gap_of
  refine ⟨fd, F, F.bindsN (fun _ _ _ _ _ _ us hl => match us, hl with | [_, _], _ => rfl), ?_⟩
  refine okD (t := t_gap_of K) F sc_gap_of ?l ?b ?r
  case l =>
    intro ds μ k ex h
    obtain ⟨_, _, _, _, _, _, rfl, _⟩ := h; rfl
  case b =>
    intro cdv A outer s H E B ex hr tk
    have hp := passes_of (X := cxOf (CXe P w) P w K mg base gap_of_N "gap_of" (defScope s_gap_of) (He.fAd K ("gap_of", none)) cdv A outer s H E) rfl
    exact (pdb_one (pds_ret (pd_op od_sub (pd_op od_mul (pd_call (fn_top_of (P := P) (w := w) (base := base) T) (hr.mono (by decide)) (pda_cons (pd_var 0) pda_nil)) (pd_call (fn_bottom_of (P := P) (w := w) (base := base) T) (hr.mono (by decide)) (pda_cons (pd_var 1) pda_nil))) (pd_op od_mul (pd_call (fn_top_of (P := P) (w := w) (base := base) T) (hr.mono (by decide)) (pda_cons (pd_var 1) pda_nil)) (pd_call (fn_bottom_of (P := P) (w := w) (base := base) T) (hr.mono (by decide)) (pda_cons (pd_var 0) pda_nil))))))
  case r =>
    intro ds μ k ex h
    unfold t_gap_of
    obtain ⟨d, e, t, b, u, c, rfl, h1, h2, s1, s2, s3, s4, h⟩ := h
    walk_at "rd"
    refine ⟨d, t, b, rfl, h1, e, u, c, rfl, h2, ?_⟩
    walk_at "rd"
    refine ⟨sm_mul s1 s4, e, u, c, rfl, h2, d, t, b, rfl, h1, ?_⟩
    walk_at "rd"
    exact ⟨sm_mul s3 s2, h⟩
theorem fn_gap_of (T : Tx K mg) : FnG P w K mg base 2 "gap_of" ["one", "other"] (sp_gap_of K) := by
  obtain ⟨fd, F, hb, ok⟩ := ok_gap_of (P := P) (w := w) (base := base) T
  exact ⟨⟨_, fd, T.g_gap_of, F.kp, hb, ok⟩⟩
def sp_is_integer (K : PySem.W.Frag) : SpD := fun ds μ k _ => (∃ i : Int, ds = [.int i] ∧ k (.bl true) μ) ∨ (∃ b : Bool, ds = [.bl b] ∧ k (.bl false) μ) ∨ ∃ d : D, ds = [d] ∧ Isi K μ d (.type "int") false ∧ k (.bl false) μ
def t_is_integer (K : PySem.W.Frag) (ex : XD) : TSD :=
  (dRet (dAndV (dArgs (rIsiD K) (dCons (dVar 0) (dCons (dC (.ty "int")) dNil))) (dNotV (dArgs (rIsiD K) (dCons (dVar 0) (dCons (dC (.ty "bool")) dNil))))))
set_option maxHeartbeats 4000000 in
theorem ok_is_integer (T : Tx K mg) : ∃ fd, FunD K "is_integer" "is_integer" (defArgs s_is_integer) (defBody s_is_integer) (defScope s_is_integer) [] [] (He.fAd K ("is_integer", none)) fd ∧ Binds K fd ["value"] [] ∧ FnOk P w K mg base (CXe P w) 1 (He.fAd K ("is_integer", none)) fd ["value"] (lSp K (sp_is_integer K)) := by
  obtain ⟨fd, F⟩ := T.d_is_integer
  refine ⟨fd, F, F.bindsN (fun _ _ _ _ _ _ us hl => match us, hl with | [_], _ => rfl), ?_⟩
  refine okD (t := t_is_integer K) F sc_is_integer ?l ?b ?r
  case l =>
    intro ds μ k ex h
    obtain ⟨_, rfl, _⟩ | ⟨_, rfl, _⟩ | ⟨_, rfl, _⟩ := h <;> rfl
  case b =>
    intro cdv A outer s H E B ex hr tk
    have hp := passes_of (X := cxOf (CXe P w) P w K mg base is_integer_N "is_integer" (defScope s_is_integer) (He.fAd K ("is_integer", none)) cdv A outer s H E) rfl
    exact (pdb_one (pds_ret (pd_and (pd_fnB cd_isi T.no_isinstance (pda_cons (pd_var 0) (pda_cons (pd_ty T.no_int) pda_nil))) (pd_one (pd_not (pd_fnB cd_isi T.no_isinstance (pda_cons (pd_var 0) (pda_cons (pd_ty T.no_bool) pda_nil))))))))
  case r =>
    intro ds μ k ex h
    unfold t_is_integer
    obtain ⟨i, rfl, h⟩ | ⟨b, rfl, h⟩ | ⟨d, rfl, hi, h⟩ := h
    · walk_at "rd"
      exact h
    · walk_at "rd"
      exact h
    · walk_at "rd"
      refine ⟨false, hi, ?_⟩
      walk_at "rd"
      exact h
theorem fn_is_integer (T : Tx K mg) : FnG P w K mg base 1 "is_integer" ["value"] (sp_is_integer K) := by
  obtain ⟨fd, F, hb, ok⟩ := ok_is_integer (P := P) (w := w) (base := base) T
  exact ⟨⟨_, fd, T.g_is_integer, F.kp, hb, ok⟩⟩
def sp_is_term (K : PySem.W.Frag) : SpD := fun ds μ k _ => (∃ t b : Int, ds = [ratD K t b] ∧ k (.bl true) μ) ∨ (∃ i : Int, ds = [.int i] ∧ k (.bl true) μ) ∨ ∃ d : D, ds = [d] ∧ Isi K μ d (.ref (He.ga K "Ratio")) false ∧ Isi K μ d (.type "int") false ∧ k (.bl false) μ
def t_is_term (K : PySem.W.Frag) (ex : XD) : TSD :=
  (dRet (dOrV (dArgs (rIsiD K) (dCons (dVar 0) (dCons (dC (.ref (He.ga K "Ratio"))) dNil))) (dCall (sp_is_integer K) (dCons (dVar 0) dNil))))
set_option maxHeartbeats 4000000 in
theorem ok_is_term (T : Tx K mg) : ∃ fd, FunD K "is_term" "is_term" (defArgs s_is_term) (defBody s_is_term) (defScope s_is_term) [] [] (He.fAd K ("is_term", none)) fd ∧ Binds K fd ["value"] [] ∧ FnOk P w K mg base (CXe P w) 2 (He.fAd K ("is_term", none)) fd ["value"] (lSp K (sp_is_term K)) := by
  obtain ⟨fd, F⟩ := T.d_is_term
  refine ⟨fd, F, F.bindsN (fun _ _ _ _ _ _ us hl => match us, hl with | [_], _ => rfl), ?_⟩
  refine okD (t := t_is_term K) F sc_is_term ?l ?b ?r
  case l =>
    intro ds μ k ex h
    obtain ⟨_, _, rfl, _⟩ | ⟨_, rfl, _⟩ | ⟨_, rfl, _⟩ := h <;> rfl
  case b =>
    intro cdv A outer s H E B ex hr tk
    have hp := passes_of (X := cxOf (CXe P w) P w K mg base is_term_N "is_term" (defScope s_is_term) (He.fAd K ("is_term", none)) cdv A outer s H E) rfl
    exact (pdb_one (pds_ret (pd_or (pd_fnB cd_isi T.no_isinstance (pda_cons (pd_var 0) (pda_cons (pd_gcls T.g_Ratio) pda_nil))) (pd_one (pd_call (fn_is_integer (P := P) (w := w) (base := base) T) (hr.mono (by decide)) (pda_cons (pd_var 0) pda_nil))))))
  case r =>
    intro ds μ k ex h
    unfold t_is_term
    obtain ⟨t, b, rfl, h⟩ | ⟨i, rfl, h⟩ | ⟨d, rfl, h1, h2, h⟩ := h
    · walk_at "rd"
      refine ⟨true, isi_own T.ic_Ratio, ?_⟩
      walk_at "rd"
      exact h
    · walk_at "rd"
      refine ⟨false, isi_no (T := "int") rfl (fun _ e => by cases e) T.k_int_Ratio, ?_⟩
      walk_at "rd"
      exact .inl ⟨i, rfl, h⟩
    · walk_at "rd"
      refine ⟨false, h1, ?_⟩
      walk_at "rd"
      exact .inr (.inr ⟨d, rfl, h2, h⟩)
theorem fn_is_term (T : Tx K mg) : FnG P w K mg base 2 "is_term" ["value"] (sp_is_term K) := by
  obtain ⟨fd, F, hb, ok⟩ := ok_is_term (P := P) (w := w) (base := base) T
  exact ⟨⟨_, fd, T.g_is_term, F.kp, hb, ok⟩⟩
def sp_Ratio___eq__ (K : PySem.W.Frag) : SpD := fun ds μ k _ => (∃ (e : D) (t b u c : Int), ds = [ratD K t b, e] ∧ Term K e u c ∧ Sm t ∧ Sm b ∧ Sm u ∧ Sm c ∧ k (.bl (decide (t * c - u * b = 0))) μ) ∨
  ∃ (e : D) (t b : Int), ds = [ratD K t b, e] ∧ Isi K μ e (.ref (He.ga K "Ratio")) false ∧ Isi K μ e (.type "int") false ∧ k (.bl false) μ
def t_Ratio___eq__ (K : PySem.W.Frag) (ex : XD) : TSD :=
  (dRet (dAndV (dCall (sp_is_term K) (dCons (dVar 1) dNil)) (dOp (rEqB false) (dCall (sp_gap_of K) (dCons (dVar 0) (dCons (dVar 1) dNil))) (dC (.int 0)))))
set_option maxHeartbeats 4000000 in
theorem ok_Ratio___eq__ (T : Tx K mg) : ∃ fd, FunD K "__eq__" "Ratio.__eq__" (defArgs s_Ratio___eq__) (defBody s_Ratio___eq__) (defScope s_Ratio___eq__) [] [] (He.fAd K ("Ratio", some "__eq__")) fd ∧ Binds K fd ["self", "other"] [] ∧ FnOk P w K mg base (CXe P w) 3 (He.fAd K ("Ratio", some "__eq__")) fd ["self", "other"] (lSp K (sp_Ratio___eq__ K)) := by
  obtain ⟨fd, F⟩ := T.d_Ratio___eq__
  refine ⟨fd, F, F.bindsN (fun _ _ _ _ _ _ us hl => match us, hl with | [_, _], _ => rfl), ?_⟩
  refine okD (t := t_Ratio___eq__ K) F sc_Ratio___eq__ ?l ?b ?r
  case l =>
    intro ds μ k ex h
    obtain ⟨_, _, _, _, _, rfl, _⟩ | ⟨_, _, _, rfl, _⟩ := h <;> rfl
  case b =>
    intro cdv A outer s H E B ex hr tk
    have hp := passes_of (X := cxOf (CXe P w) P w K mg base Ratio___eq___N "Ratio.__eq__" (defScope s_Ratio___eq__) (He.fAd K ("Ratio", some "__eq__")) cdv A outer s H E) rfl
    exact (pdb_one (pds_ret (pd_and (pd_call (fn_is_term (P := P) (w := w) (base := base) T) (hr.mono (by decide)) (pda_cons (pd_var 1) pda_nil)) (pd_one (pd_cmp (od_eq hr.units) (pd_call (fn_gap_of (P := P) (w := w) (base := base) T) (hr.mono (by decide)) (pda_cons (pd_var 0) (pda_cons (pd_var 1) pda_nil))) pd_int (nomark _))))))
  case r =>
    intro ds μ k ex h
    unfold t_Ratio___eq__
    obtain ⟨e, t, b, u, c, rfl, h2, s1, s2, s3, s4, h⟩ | ⟨e, t, b, rfl, h1, h2, h⟩ := h
    · walk_at "rd"
      have fin : sp_gap_of K [ratD K t b, e] μ (fun x μ1 => rEqB false x (.int 0) μ1 k) x0 := ⟨_, e, t, b, u, c, rfl, .inr rfl, h2, s1, s2, s3, s4, by show k (.bl (decide (t * c - u * b = 0) ^^ false)) μ; rw [Bool.xor_false]; exact h⟩
      rcases h2 with ⟨rfl, rfl⟩ | rfl
      · exact .inr (.inl ⟨_, rfl, _, rfl, iteT fin⟩)
      · exact .inl ⟨_, _, rfl, _, rfl, iteT fin⟩
    · walk_at "rd"
      exact .inr (.inr ⟨e, rfl, h1, h2, _, rfl, iteF h⟩)
theorem op_Ratio___eq__ (T : Tx K mg) : OpG P w K mg base 3 (He.ga K "Ratio") "__eq__" (sp_Ratio___eq__ K) := by
  obtain ⟨fd, F, hb, ok⟩ := ok_Ratio___eq__ (P := P) (w := w) (base := base) T
  exact ⟨⟨_, fd, _, T.me_Ratio___eq__.at_, T.me_Ratio___eq__.fn, hb, ok⟩⟩
theorem txt_len {i : Int} (h : i.natAbs.log2 < 1920) : (Str.ofString (toString i)).length ≤ 1921 := PyProof.Rows.int_text_len_1921 h
def sp_Ratio___str__ (K : PySem.W.Frag) : SpD := fun ds μ k _ => ∃ (t b : Int), ds = [ratD K t b] ∧ t.natAbs.log2 < 1000 ∧ b.natAbs.log2 < 1000 ∧ ∀ z : Str, k (.str z) μ
def t_Ratio___str__ (K : PySem.W.Frag) (ex : XD) : TSD :=
  (dSeq (dIfS (dTest (dOp (rEqB false) (dFld (He.ga K "Ratio") "bottom" (dVar 0)) (dC (.int 1)))) (dRet (dArgs rStrI (dCons (dFld (He.ga K "Ratio") "top" (dVar 0)) dNil))) dNext)
  (dRet (dJoin [(dFmt (dFld (He.ga K "Ratio") "top" (dVar 0))), (dC (.str "/")), (dFmt (dFld (He.ga K "Ratio") "bottom" (dVar 0)))])))
set_option maxHeartbeats 4000000 in
theorem ok_Ratio___str__ (T : Tx K mg) : ∃ fd, FunD K "__str__" "Ratio.__str__" (defArgs s_Ratio___str__) (defBody s_Ratio___str__) (defScope s_Ratio___str__) [] [] (He.fAd K ("Ratio", some "__str__")) fd ∧ Binds K fd ["self"] [] ∧ FnOk P w K mg base (CXe P w) 1 (He.fAd K ("Ratio", some "__str__")) fd ["self"] (lSp K (sp_Ratio___str__ K)) := by
  obtain ⟨fd, F⟩ := T.d_Ratio___str__
  refine ⟨fd, F, F.bindsN (fun _ _ _ _ _ _ us hl => match us, hl with | [_], _ => rfl), ?_⟩
  refine okD (t := t_Ratio___str__ K) F sc_Ratio___str__ ?l ?b ?r
  case l =>
    intro ds μ k ex h
    obtain ⟨_, _, rfl, _⟩ := h; rfl
  case b =>
    intro cdv A outer s H E B ex hr tk
    have hp := passes_of (X := cxOf (CXe P w) P w K mg base Ratio___str___N "Ratio.__str__" (defScope s_Ratio___str__) (He.fAd K ("Ratio", some "__str__")) cdv A outer s H E) rfl
    exact (pdb_cons (pds_if (pdt_cmp (od_eq hr.units) (pd_fld T.fld_Ratio_bottom (pd_var 0)) pd_int (nomark _)) (pdb_one (pds_ret (pd_fnT cd_strI T.no_str (pda_cons (pd_fld T.fld_Ratio_top (pd_var 0)) pda_nil)))) pdb_nil)
    (pdb_one (pds_ret (pd_join (.cons (pd_fmt (pd_fld T.fld_Ratio_top (pd_var 0))) (.cons pd_str (.cons (pd_fmt (pd_fld T.fld_Ratio_bottom (pd_var 0))) .nil)))))))
  case r =>
    intro ds μ k ex h
    unfold t_Ratio___str__
    obtain ⟨t, b, rfl, h1, h2, h⟩ := h
    unfold ratD
    walk_at "rd"
    simp only [Option.some.injEq, Prod.mk.injEq, true_and, exists_eq_left']
    walk_at "fl"
    walk_at "rd"
    refine ite2 (fun c => ?_) (fun c => ?_)
    · walk_at "rd"
      exact ⟨by omega, h _⟩
    · walk_at "rd"
      have l1 := txt_len (i := t) (by omega)
      have l2 := txt_len (i := b) (by omega)
      have l3 : (Str.ofString "/").length = 1 := rfl
      have l4 : Str.empty.length = 0 := rfl
      simp only [PySem.Str.length_append]
      exact ⟨by omega, by omega, by omega, by omega, by omega, h _⟩
theorem op_Ratio___str__ (T : Tx K mg) : OpG P w K mg base 1 (He.ga K "Ratio") "__str__" (sp_Ratio___str__ K) := by
  obtain ⟨fd, F, hb, ok⟩ := ok_Ratio___str__ (P := P) (w := w) (base := base) T
  exact ⟨⟨_, fd, _, T.me_Ratio___str__.at_, T.me_Ratio___str__.fn, hb, ok⟩⟩
def sp_Ratio___gt__ (K : PySem.W.Frag) : SpD := fun ds μ k _ => ∃ (e : D) (t b u c : Int), ds = [ratD K t b, e] ∧ Term K e u c ∧ Sm t ∧ Sm b ∧ Sm u ∧ Sm c ∧ k (.bl (decide (0 < t * c - u * b))) μ
def t_Ratio___gt__ (K : PySem.W.Frag) (ex : XD) : TSD :=
  (dSeq (dIfS (dNot (dTest (dCall (sp_is_term K) (dCons (dVar 1) dNil)))) dNever dNext)
  (dRet (dOp rGtD (dCall (sp_gap_of K) (dCons (dVar 0) (dCons (dVar 1) dNil))) (dC (.int 0)))))
set_option maxHeartbeats 4000000 in
theorem ok_Ratio___gt__ (T : Tx K mg) : ∃ fd, FunD K "__gt__" "Ratio.__gt__" (defArgs s_Ratio___gt__) (defBody s_Ratio___gt__) (defScope s_Ratio___gt__) [] [] (He.fAd K ("Ratio", some "__gt__")) fd ∧ Binds K fd ["self", "other"] [] ∧ FnOk P w K mg base (CXe P w) 3 (He.fAd K ("Ratio", some "__gt__")) fd ["self", "other"] (lSp K (sp_Ratio___gt__ K)) := by
  obtain ⟨fd, F⟩ := T.d_Ratio___gt__
  refine ⟨fd, F, F.bindsN (fun _ _ _ _ _ _ us hl => match us, hl with | [_, _], _ => rfl), ?_⟩
  refine okD (t := t_Ratio___gt__ K) F sc_Ratio___gt__ ?l ?b ?r
  case l =>
    intro ds μ k ex h
    obtain ⟨_, _, _, _, _, rfl, _⟩ := h; rfl
  case b =>
    intro cdv A outer s H E B ex hr tk
    have hp := passes_of (X := cxOf (CXe P w) P w K mg base Ratio___gt___N "Ratio.__gt__" (defScope s_Ratio___gt__) (He.fAd K ("Ratio", some "__gt__")) cdv A outer s H E) rfl
    exact (pdb_cons (pds_if (pdt_not (pdt_val (pd_call (fn_is_term (P := P) (w := w) (base := base) T) (hr.mono (by decide)) (pda_cons (pd_var 1) pda_nil)))) (pdb_one pds_never) pdb_nil)
    (pdb_one (pds_ret (pd_cmp od_gt (pd_call (fn_gap_of (P := P) (w := w) (base := base) T) (hr.mono (by decide)) (pda_cons (pd_var 0) (pda_cons (pd_var 1) pda_nil))) pd_int (nomark _)))))
  case r =>
    intro ds μ k ex h
    unfold t_Ratio___gt__
    obtain ⟨e, t, b, u, c, rfl, h2, s1, s2, s3, s4, h⟩ := h
    walk_at "rd"
    have fin : sp_gap_of K [ratD K t b, e] μ (fun x μ1 => rGtD x (.int 0) μ1 k) x0 := ⟨_, e, t, b, u, c, rfl, .inr rfl, h2, s1, s2, s3, s4, h⟩
    rcases h2 with ⟨rfl, rfl⟩ | rfl
    · exact .inr (.inl ⟨_, rfl, _, rfl, iteF fin⟩)
    · exact .inl ⟨_, _, rfl, _, rfl, iteF fin⟩
theorem op_Ratio___gt__ (T : Tx K mg) : OpG P w K mg base 3 (He.ga K "Ratio") "__gt__" (sp_Ratio___gt__ K) := by
  obtain ⟨fd, F, hb, ok⟩ := ok_Ratio___gt__ (P := P) (w := w) (base := base) T
  exact ⟨⟨_, fd, _, T.me_Ratio___gt__.at_, T.me_Ratio___gt__.fn, hb, ok⟩⟩
def sp_Ratio___lt__ (K : PySem.W.Frag) : SpD := fun ds μ k _ => ∃ (e : D) (t b u c : Int), ds = [ratD K t b, e] ∧ Term K e u c ∧ Sm t ∧ Sm b ∧ Sm u ∧ Sm c ∧ k (.bl (decide (t * c - u * b < 0))) μ
def t_Ratio___lt__ (K : PySem.W.Frag) (ex : XD) : TSD :=
  (dSeq (dIfS (dNot (dTest (dCall (sp_is_term K) (dCons (dVar 1) dNil)))) dNever dNext)
  (dRet (dOp rLtD (dCall (sp_gap_of K) (dCons (dVar 0) (dCons (dVar 1) dNil))) (dC (.int 0)))))
set_option maxHeartbeats 4000000 in
theorem ok_Ratio___lt__ (T : Tx K mg) : ∃ fd, FunD K "__lt__" "Ratio.__lt__" (defArgs s_Ratio___lt__) (defBody s_Ratio___lt__) (defScope s_Ratio___lt__) [] [] (He.fAd K ("Ratio", some "__lt__")) fd ∧ Binds K fd ["self", "other"] [] ∧ FnOk P w K mg base (CXe P w) 3 (He.fAd K ("Ratio", some "__lt__")) fd ["self", "other"] (lSp K (sp_Ratio___lt__ K)) := by
  obtain ⟨fd, F⟩ := T.d_Ratio___lt__
  refine ⟨fd, F, F.bindsN (fun _ _ _ _ _ _ us hl => match us, hl with | [_, _], _ => rfl), ?_⟩
  refine okD (t := t_Ratio___lt__ K) F sc_Ratio___lt__ ?l ?b ?r
  case l =>
    intro ds μ k ex h
    obtain ⟨_, _, _, _, _, rfl, _⟩ := h; rfl
  case b =>
    intro cdv A outer s H E B ex hr tk
    have hp := passes_of (X := cxOf (CXe P w) P w K mg base Ratio___lt___N "Ratio.__lt__" (defScope s_Ratio___lt__) (He.fAd K ("Ratio", some "__lt__")) cdv A outer s H E) rfl
    exact (pdb_cons (pds_if (pdt_not (pdt_val (pd_call (fn_is_term (P := P) (w := w) (base := base) T) (hr.mono (by decide)) (pda_cons (pd_var 1) pda_nil)))) (pdb_one pds_never) pdb_nil)
    (pdb_one (pds_ret (pd_cmp od_lt (pd_call (fn_gap_of (P := P) (w := w) (base := base) T) (hr.mono (by decide)) (pda_cons (pd_var 0) (pda_cons (pd_var 1) pda_nil))) pd_int (nomark _)))))
  case r =>
    intro ds μ k ex h
    unfold t_Ratio___lt__
    obtain ⟨e, t, b, u, c, rfl, h2, s1, s2, s3, s4, h⟩ := h
    walk_at "rd"
    have fin : sp_gap_of K [ratD K t b, e] μ (fun x μ1 => rLtD x (.int 0) μ1 k) x0 := ⟨_, e, t, b, u, c, rfl, .inr rfl, h2, s1, s2, s3, s4, h⟩
    rcases h2 with ⟨rfl, rfl⟩ | rfl
    · exact .inr (.inl ⟨_, rfl, _, rfl, iteF fin⟩)
    · exact .inl ⟨_, _, rfl, _, rfl, iteF fin⟩
theorem op_Ratio___lt__ (T : Tx K mg) : OpG P w K mg base 3 (He.ga K "Ratio") "__lt__" (sp_Ratio___lt__ K) := by
  obtain ⟨fd, F, hb, ok⟩ := ok_Ratio___lt__ (P := P) (w := w) (base := base) T
  exact ⟨⟨_, fd, _, T.me_Ratio___lt__.at_, T.me_Ratio___lt__.fn, hb, ok⟩⟩
def sp_Ratio___ge__ (K : PySem.W.Frag) : SpD := fun ds μ k _ => ∃ (e : D) (t b u c : Int), ds = [ratD K t b, e] ∧ Term K e u c ∧ Sm t ∧ Sm b ∧ Sm u ∧ Sm c ∧ k (.bl (decide (0 ≤ t * c - u * b))) μ
def t_Ratio___ge__ (K : PySem.W.Frag) (ex : XD) : TSD :=
  (dSeq (dIfS (dNot (dTest (dCall (sp_is_term K) (dCons (dVar 1) dNil)))) dNever dNext)
  (dRet (dOp rGeD (dCall (sp_gap_of K) (dCons (dVar 0) (dCons (dVar 1) dNil))) (dC (.int 0)))))
set_option maxHeartbeats 4000000 in
theorem ok_Ratio___ge__ (T : Tx K mg) : ∃ fd, FunD K "__ge__" "Ratio.__ge__" (defArgs s_Ratio___ge__) (defBody s_Ratio___ge__) (defScope s_Ratio___ge__) [] [] (He.fAd K ("Ratio", some "__ge__")) fd ∧ Binds K fd ["self", "other"] [] ∧ FnOk P w K mg base (CXe P w) 3 (He.fAd K ("Ratio", some "__ge__")) fd ["self", "other"] (lSp K (sp_Ratio___ge__ K)) := by
  obtain ⟨fd, F⟩ := T.d_Ratio___ge__
  refine ⟨fd, F, F.bindsN (fun _ _ _ _ _ _ us hl => match us, hl with | [_, _], _ => rfl), ?_⟩
  refine okD (t := t_Ratio___ge__ K) F sc_Ratio___ge__ ?l ?b ?r
  case l =>
    intro ds μ k ex h
    obtain ⟨_, _, _, _, _, rfl, _⟩ := h; rfl
  case b =>
    intro cdv A outer s H E B ex hr tk
    have hp := passes_of (X := cxOf (CXe P w) P w K mg base Ratio___ge___N "Ratio.__ge__" (defScope s_Ratio___ge__) (He.fAd K ("Ratio", some "__ge__")) cdv A outer s H E) rfl
    exact (pdb_cons (pds_if (pdt_not (pdt_val (pd_call (fn_is_term (P := P) (w := w) (base := base) T) (hr.mono (by decide)) (pda_cons (pd_var 1) pda_nil)))) (pdb_one pds_never) pdb_nil)
    (pdb_one (pds_ret (pd_cmp od_ge (pd_call (fn_gap_of (P := P) (w := w) (base := base) T) (hr.mono (by decide)) (pda_cons (pd_var 0) (pda_cons (pd_var 1) pda_nil))) pd_int (nomark _)))))
  case r =>
    intro ds μ k ex h
    unfold t_Ratio___ge__
    obtain ⟨e, t, b, u, c, rfl, h2, s1, s2, s3, s4, h⟩ := h
    walk_at "rd"
    have fin : sp_gap_of K [ratD K t b, e] μ (fun x μ1 => rGeD x (.int 0) μ1 k) x0 := ⟨_, e, t, b, u, c, rfl, .inr rfl, h2, s1, s2, s3, s4, h⟩
    rcases h2 with ⟨rfl, rfl⟩ | rfl
    · exact .inr (.inl ⟨_, rfl, _, rfl, iteF fin⟩)
    · exact .inl ⟨_, _, rfl, _, rfl, iteF fin⟩
theorem op_Ratio___ge__ (T : Tx K mg) : OpG P w K mg base 3 (He.ga K "Ratio") "__ge__" (sp_Ratio___ge__ K) := by
  obtain ⟨fd, F, hb, ok⟩ := ok_Ratio___ge__ (P := P) (w := w) (base := base) T
  exact ⟨⟨_, fd, _, T.me_Ratio___ge__.at_, T.me_Ratio___ge__.fn, hb, ok⟩⟩
def sp_Ratio___le__ (K : PySem.W.Frag) : SpD := fun ds μ k _ => ∃ (e : D) (t b u c : Int), ds = [ratD K t b, e] ∧ Term K e u c ∧ Sm t ∧ Sm b ∧ Sm u ∧ Sm c ∧ k (.bl (decide (t * c - u * b ≤ 0))) μ
def t_Ratio___le__ (K : PySem.W.Frag) (ex : XD) : TSD :=
  (dSeq (dIfS (dNot (dTest (dCall (sp_is_term K) (dCons (dVar 1) dNil)))) dNever dNext)
  (dRet (dOp rLeD (dCall (sp_gap_of K) (dCons (dVar 0) (dCons (dVar 1) dNil))) (dC (.int 0)))))
set_option maxHeartbeats 4000000 in
theorem ok_Ratio___le__ (T : Tx K mg) : ∃ fd, FunD K "__le__" "Ratio.__le__" (defArgs s_Ratio___le__) (defBody s_Ratio___le__) (defScope s_Ratio___le__) [] [] (He.fAd K ("Ratio", some "__le__")) fd ∧ Binds K fd ["self", "other"] [] ∧ FnOk P w K mg base (CXe P w) 3 (He.fAd K ("Ratio", some "__le__")) fd ["self", "other"] (lSp K (sp_Ratio___le__ K)) := by
  obtain ⟨fd, F⟩ := T.d_Ratio___le__
  refine ⟨fd, F, F.bindsN (fun _ _ _ _ _ _ us hl => match us, hl with | [_, _], _ => rfl), ?_⟩
  refine okD (t := t_Ratio___le__ K) F sc_Ratio___le__ ?l ?b ?r
  case l =>
    intro ds μ k ex h
    obtain ⟨_, _, _, _, _, rfl, _⟩ := h; rfl
  case b =>
    intro cdv A outer s H E B ex hr tk
    have hp := passes_of (X := cxOf (CXe P w) P w K mg base Ratio___le___N "Ratio.__le__" (defScope s_Ratio___le__) (He.fAd K ("Ratio", some "__le__")) cdv A outer s H E) rfl
    exact (pdb_cons (pds_if (pdt_not (pdt_val (pd_call (fn_is_term (P := P) (w := w) (base := base) T) (hr.mono (by decide)) (pda_cons (pd_var 1) pda_nil)))) (pdb_one pds_never) pdb_nil)
    (pdb_one (pds_ret (pd_cmp od_le (pd_call (fn_gap_of (P := P) (w := w) (base := base) T) (hr.mono (by decide)) (pda_cons (pd_var 0) (pda_cons (pd_var 1) pda_nil))) pd_int (nomark _)))))
  case r =>
    intro ds μ k ex h
    unfold t_Ratio___le__
    obtain ⟨e, t, b, u, c, rfl, h2, s1, s2, s3, s4, h⟩ := h
    walk_at "rd"
    have fin : sp_gap_of K [ratD K t b, e] μ (fun x μ1 => rLeD x (.int 0) μ1 k) x0 := ⟨_, e, t, b, u, c, rfl, .inr rfl, h2, s1, s2, s3, s4, h⟩
    rcases h2 with ⟨rfl, rfl⟩ | rfl
    · exact .inr (.inl ⟨_, rfl, _, rfl, iteF fin⟩)
    · exact .inl ⟨_, _, rfl, _, rfl, iteF fin⟩
theorem op_Ratio___le__ (T : Tx K mg) : OpG P w K mg base 3 (He.ga K "Ratio") "__le__" (sp_Ratio___le__ K) := by
  obtain ⟨fd, F, hb, ok⟩ := ok_Ratio___le__ (P := P) (w := w) (base := base) T
  exact ⟨⟨_, fd, _, T.me_Ratio___le__.at_, T.me_Ratio___le__.fn, hb, ok⟩⟩
section
variable {a b : D} {t s u c : Int} {μ : Mu} {k : KD}
/-- the two sides of a comparison: a ratio at least at one -/
structure Two (K : PySem.W.Frag) (a b : D) (t s u c : Int) : Prop where
  ta : Term K a t s
  tb : Term K b u c
  one : a = ratD K t s ∨ b = ratD K u c
  s1 : Sm t
  s2 : Sm s
  s3 : Sm u
  s4 : Sm c
theorem two_own (T : Tx K mg) (h : Two K a b t s u c) {n : Bool} {spa spb : SpD}
    (h1 : a = ratD K t s → spa [a, b] μ (fun v μ' => ∃ c, v = .bl c ∧ k (.bl (c ^^ n)) μ') x0)
    (h2 : b = ratD K u c → spb [b, a] μ (fun v μ' => ∃ c, v = .bl c ∧ k (.bl (c ^^ n)) μ') x0) : rOr (rOwn K (He.ga K "Ratio") n spa) (rRefl (He.ga K "Ratio") n spb) a b μ k := by
  obtain ⟨⟨rfl, rfl⟩ | rfl, ⟨rfl, rfl⟩ | rfl, o, s1, s2, s3, s4⟩ := h
  · rcases o with o | o <;> cases o
  · exact .inr ⟨⟨_, rfl⟩, ⟨_, rfl⟩, h2 rfl⟩
  · exact .inl (own_ty (T := "int") rfl nf_int (fun _ e => by cases e) (h1 rfl))
  · exact .inl (own_self T.ic_Ratio (h1 rfl))
theorem fl0 {x y : Int} (p : x = -y) : ((0 < x) ↔ (y < 0)) ∧ ((0 ≤ x) ↔ (y ≤ 0)) ∧ ((x < 0) ↔ (0 < y)) ∧ ((x ≤ 0) ↔ (0 ≤ y)) ∧ ((x = 0) ↔ (y = 0)) := by omega
theorem two_lt (T : Tx K mg) (h : Two K a b t s u c) (q : k (.bl (decide (t * c - u * s < 0))) μ) : rOr (rOwn K (He.ga K "Ratio") false (sp_Ratio___lt__ K)) (rRefl (He.ga K "Ratio") false (sp_Ratio___gt__ K)) a b μ k :=
  two_own T h (fun e => by subst e; exact ⟨b, t, s, u, c, rfl, h.tb, h.s1, h.s2, h.s3, h.s4, _, rfl, by rw [Bool.xor_false]; exact q⟩)
    fun e => by subst e; exact ⟨a, u, c, t, s, rfl, h.ta, h.s3, h.s4, h.s1, h.s2, _, rfl, by rw [Bool.xor_false, decide_eq_decide.mpr (fl0 (x := u * s - t * c) (y := t * c - u * s) (by omega)).1]; exact q⟩
theorem two_le (T : Tx K mg) (h : Two K a b t s u c) (q : k (.bl (decide (t * c - u * s ≤ 0))) μ) : rOr (rOwn K (He.ga K "Ratio") false (sp_Ratio___le__ K)) (rRefl (He.ga K "Ratio") false (sp_Ratio___ge__ K)) a b μ k :=
  two_own T h (fun e => by subst e; exact ⟨b, t, s, u, c, rfl, h.tb, h.s1, h.s2, h.s3, h.s4, _, rfl, by rw [Bool.xor_false]; exact q⟩)
    fun e => by subst e; exact ⟨a, u, c, t, s, rfl, h.ta, h.s3, h.s4, h.s1, h.s2, _, rfl, by rw [Bool.xor_false, decide_eq_decide.mpr (fl0 (x := u * s - t * c) (y := t * c - u * s) (by omega)).2.1]; exact q⟩
theorem two_gt (T : Tx K mg) (h : Two K a b t s u c) (q : k (.bl (decide (0 < t * c - u * s))) μ) : rOr (rOwn K (He.ga K "Ratio") false (sp_Ratio___gt__ K)) (rRefl (He.ga K "Ratio") false (sp_Ratio___lt__ K)) a b μ k :=
  two_own T h (fun e => by subst e; exact ⟨b, t, s, u, c, rfl, h.tb, h.s1, h.s2, h.s3, h.s4, _, rfl, by rw [Bool.xor_false]; exact q⟩)
    fun e => by subst e; exact ⟨a, u, c, t, s, rfl, h.ta, h.s3, h.s4, h.s1, h.s2, _, rfl, by rw [Bool.xor_false, decide_eq_decide.mpr (fl0 (x := u * s - t * c) (y := t * c - u * s) (by omega)).2.2.1]; exact q⟩
theorem two_ge (T : Tx K mg) (h : Two K a b t s u c) (q : k (.bl (decide (0 ≤ t * c - u * s))) μ) : rOr (rOwn K (He.ga K "Ratio") false (sp_Ratio___ge__ K)) (rRefl (He.ga K "Ratio") false (sp_Ratio___le__ K)) a b μ k :=
  two_own T h (fun e => by subst e; exact ⟨b, t, s, u, c, rfl, h.tb, h.s1, h.s2, h.s3, h.s4, _, rfl, by rw [Bool.xor_false]; exact q⟩)
    fun e => by subst e; exact ⟨a, u, c, t, s, rfl, h.ta, h.s3, h.s4, h.s1, h.s2, _, rfl, by rw [Bool.xor_false, decide_eq_decide.mpr (fl0 (x := u * s - t * c) (y := t * c - u * s) (by omega)).2.2.2.1]; exact q⟩
theorem two_eq (T : Tx K mg) (h : Two K a b t s u c) {n : Bool} (q : k (.bl (decide (t * c - u * s = 0) ^^ n)) μ) : rOr (rOwn K (He.ga K "Ratio") n (sp_Ratio___eq__ K)) (rRefl (He.ga K "Ratio") n (sp_Ratio___eq__ K)) a b μ k :=
  two_own T h (fun e => by subst e; exact .inl ⟨b, t, s, u, c, rfl, h.tb, h.s1, h.s2, h.s3, h.s4, _, rfl, q⟩)
    fun e => by subst e; exact .inl ⟨a, u, c, t, s, rfl, h.ta, h.s3, h.s4, h.s1, h.s2, _, rfl, by rw [decide_eq_decide.mpr (fl0 (x := u * s - t * c) (y := t * c - u * s) (by omega)).2.2.2.2]; exact q⟩
end
theorem sgn {g m x : Int} (hm : 0 < m) (h : g = m * x) : (g < 0 ↔ x < 0) ∧ (g ≤ 0 ↔ x ≤ 0) ∧ (g = 0 ↔ x = 0) ∧ (0 ≤ g ↔ 0 ≤ x) ∧ (0 < g ↔ 0 < x) := by
  subst h
  have p1 : 0 < x → 0 < m * x := fun q => Int.mul_pos hm q
  have p2 : x < 0 → m * x < 0 := fun q => Int.mul_neg_of_pos_of_neg hm q
  have p3 : x = 0 → m * x = 0 := fun q => by rw [q, Int.mul_zero]
  omega
theorem repr6 (x1 x2 x3 x4 x5 x6 : Bool) {μ : Mu} {k : KD} (h : k (.bl true) μ) {y1 y2 y3 y4 y5 y6 : Str} (e1 : reprD (.bl x1) = some y1) (e2 : reprD (.bl x2) = some y2) (e3 : reprD (.bl x3) = some y3) (e4 : reprD (.bl x4) = some y4) (e5 : reprD (.bl x5) = some y5) (e6 : reprD (.bl x6) = some y6) :
    rEqB false (.lst [.str y1, .str y2, .str y3, .str y4, .str y5, .str y6]) (.lst [.str y1, .str y2, .str y3, .str y4, .str y5, .str y6]) μ k := by
  have f : ∀ (x : Bool) (y : Str), reprD (.bl x) = some y → PyData.strOk y = true := fun x y e => by
    cases x <;> (cases e; decide +kernel)
  rw [q_eql]
  refine ⟨_, _, rfl, rfl, ?_, ?_, ?_⟩
  · unfold SeqAt.shaped
    simp only [PyData.canLay0, PyData.canLayAll0, f _ _ e1, f _ _ e2, f _ _ e3, f _ _ e4, f _ _ e5, f _ _ e6, PyData.depth, PyData.depthAll]
    rfl
  · unfold SeqAt.shaped
    simp only [PyData.canLay0, PyData.canLayAll0, f _ _ e1, f _ _ e2, f _ _ e3, f _ _ e4, f _ _ e5, f _ _ e6, PyData.depth, PyData.depthAll]
    rfl
  · simp only [PyData.eqvAll, PyData.eqv, beq_self_eq_true, Bool.and_true, Bool.xor_false]
    exact h
theorem reprB (x : Bool) : ∃ y, reprD (.bl x) = some y := ⟨_, rfl⟩
def sp__law_right (K : PySem.W.Frag) : SpD := fun ds μ k _ => ∃ (a b : D) (t s u c g m : Int), ds = [a, b, .int g] ∧ Two K a b t s u c ∧ 0 < m ∧ g = m * (t * c - u * s) ∧ k (.bl true) μ
def t__law_right (K : PySem.W.Frag) (ex : XD) : TSD :=
  (dSeq (dAsg (dLst (dCons (dArgs rRepr (dCons (dOp (rOr (rOwn K (He.ga K "Ratio") false (sp_Ratio___lt__ K)) (rRefl (He.ga K "Ratio") false (sp_Ratio___gt__ K))) (dVar 0) (dVar 1)) dNil)) (dCons (dArgs rRepr (dCons (dOp (rOr (rOwn K (He.ga K "Ratio") false (sp_Ratio___le__ K)) (rRefl (He.ga K "Ratio") false (sp_Ratio___ge__ K))) (dVar 0) (dVar 1)) dNil)) (dCons (dArgs rRepr (dCons (dOp (rOr (rOwn K (He.ga K "Ratio") false (sp_Ratio___eq__ K)) (rRefl (He.ga K "Ratio") false (sp_Ratio___eq__ K))) (dVar 0) (dVar 1)) dNil)) (dCons (dArgs rRepr (dCons (dOp (rOr (rOwn K (He.ga K "Ratio") true (sp_Ratio___eq__ K)) (rRefl (He.ga K "Ratio") true (sp_Ratio___eq__ K))) (dVar 0) (dVar 1)) dNil)) (dCons (dArgs rRepr (dCons (dOp (rOr (rOwn K (He.ga K "Ratio") false (sp_Ratio___ge__ K)) (rRefl (He.ga K "Ratio") false (sp_Ratio___le__ K))) (dVar 0) (dVar 1)) dNil)) (dCons (dArgs rRepr (dCons (dOp (rOr (rOwn K (He.ga K "Ratio") false (sp_Ratio___gt__ K)) (rRefl (He.ga K "Ratio") false (sp_Ratio___lt__ K))) (dVar 0) (dVar 1)) dNil)) dNil))))))) (.nm 3))
  (dSeq (dAsg (dLst (dCons (dArgs rRepr (dCons (dOp rLtD (dVar 2) (dC (.int 0))) dNil)) (dCons (dArgs rRepr (dCons (dOp rLeD (dVar 2) (dC (.int 0))) dNil)) (dCons (dArgs rRepr (dCons (dOp (rEqB false) (dVar 2) (dC (.int 0))) dNil)) (dCons (dArgs rRepr (dCons (dOp (rEqB true) (dVar 2) (dC (.int 0))) dNil)) (dCons (dArgs rRepr (dCons (dOp rGeD (dVar 2) (dC (.int 0))) dNil)) (dCons (dArgs rRepr (dCons (dOp rGtD (dVar 2) (dC (.int 0))) dNil)) dNil))))))) (.nm 4))
  (dRet (dOp (rEqB false) (dVar 3) (dVar 4)))))
set_option maxHeartbeats 4000000 in
theorem ok__law_right (T : Tx K mg) : ∃ fd, FunD K "_law_right" "_law_right" (defArgs s__law_right) (defBody s__law_right) (defScope s__law_right) [] [] (He.fAd K ("_law_right", none)) fd ∧ Binds K fd ["_law_a", "_law_b", "_law_gap"] [] ∧ FnOk P w K mg base (CXe P w) 5 (He.fAd K ("_law_right", none)) fd ["_law_a", "_law_b", "_law_gap"] (lSp K (sp__law_right K)) := by
  obtain ⟨fd, F⟩ := T.d__law_right
  refine ⟨fd, F, F.bindsN (fun _ _ _ _ _ _ us hl => match us, hl with | [_, _, _], _ => rfl), ?_⟩
  refine okD (t := t__law_right K) F sc__law_right ?l ?b ?r
  case l =>
    intro ds μ k ex h
    obtain ⟨_, _, _, _, _, _, _, _, rfl, _⟩ := h; rfl
  case b =>
    intro cdv A outer s H E B ex hr tk
    have hp := passes_of (X := cxOf (CXe P w) P w K mg base _law_right_N "_law_right" (defScope s__law_right) (He.fAd K ("_law_right", none)) cdv A outer s H E) rfl
    exact (pdb_cons (pds_set (i := 3) sc__law_right.nd (pd_lst (pda_cons (pd_fnB cd_repr T.no_repr (pda_cons (pd_cmp (orD (od_own (op_Ratio___lt__ (P := P) (w := w) (base := base) T) (hr.mono (by decide))) (od_refl ni_lt (op_Ratio___gt__ (P := P) (w := w) (base := base) T) T.si_Ratio (hr.mono (by decide)))) (pd_var 0) (pd_var 1) (nomark _)) pda_nil)) (pda_cons (pd_fnB cd_repr T.no_repr (pda_cons (pd_cmp (orD (od_own (op_Ratio___le__ (P := P) (w := w) (base := base) T) (hr.mono (by decide))) (od_refl ni_le (op_Ratio___ge__ (P := P) (w := w) (base := base) T) T.si_Ratio (hr.mono (by decide)))) (pd_var 0) (pd_var 1) (nomark _)) pda_nil)) (pda_cons (pd_fnB cd_repr T.no_repr (pda_cons (pd_cmp (orD (od_own (op_Ratio___eq__ (P := P) (w := w) (base := base) T) (hr.mono (by decide))) (od_refl ni_eq (op_Ratio___eq__ (P := P) (w := w) (base := base) T) T.si_Ratio (hr.mono (by decide)))) (pd_var 0) (pd_var 1) (nomark _)) pda_nil)) (pda_cons (pd_fnB cd_repr T.no_repr (pda_cons (pd_cmp (orD (od_ownNe (op_Ratio___eq__ (P := P) (w := w) (base := base) T) T.ne_Ratio (hr.mono (by decide))) (od_reflNe (op_Ratio___eq__ (P := P) (w := w) (base := base) T) T.ne_Ratio T.si_Ratio (hr.mono (by decide)))) (pd_var 0) (pd_var 1) (nomark _)) pda_nil)) (pda_cons (pd_fnB cd_repr T.no_repr (pda_cons (pd_cmp (orD (od_own (op_Ratio___ge__ (P := P) (w := w) (base := base) T) (hr.mono (by decide))) (od_refl ni_ge (op_Ratio___le__ (P := P) (w := w) (base := base) T) T.si_Ratio (hr.mono (by decide)))) (pd_var 0) (pd_var 1) (nomark _)) pda_nil)) (pda_cons (pd_fnB cd_repr T.no_repr (pda_cons (pd_cmp (orD (od_own (op_Ratio___gt__ (P := P) (w := w) (base := base) T) (hr.mono (by decide))) (od_refl ni_gt (op_Ratio___lt__ (P := P) (w := w) (base := base) T) T.si_Ratio (hr.mono (by decide)))) (pd_var 0) (pd_var 1) (nomark _)) pda_nil)) pda_nil))))))))
    (pdb_cons (pds_set (i := 4) sc__law_right.nd (pd_lst (pda_cons (pd_fnB cd_repr T.no_repr (pda_cons (pd_cmp od_lt (pd_var 2) pd_int (nomark _)) pda_nil)) (pda_cons (pd_fnB cd_repr T.no_repr (pda_cons (pd_cmp od_le (pd_var 2) pd_int (nomark _)) pda_nil)) (pda_cons (pd_fnB cd_repr T.no_repr (pda_cons (pd_cmp (od_eq hr.units) (pd_var 2) pd_int (nomark _)) pda_nil)) (pda_cons (pd_fnB cd_repr T.no_repr (pda_cons (pd_cmp (od_ne hr.units) (pd_var 2) pd_int (nomark _)) pda_nil)) (pda_cons (pd_fnB cd_repr T.no_repr (pda_cons (pd_cmp od_ge (pd_var 2) pd_int (nomark _)) pda_nil)) (pda_cons (pd_fnB cd_repr T.no_repr (pda_cons (pd_cmp od_gt (pd_var 2) pd_int (nomark _)) pda_nil)) pda_nil))))))))
    (pdb_one (pds_ret (pd_cmp (od_eq hr.units) (pd_var 3) (pd_var 4) (nomark _))))))
  case r =>
    intro ds μ k ex h
    unfold t__law_right
    obtain ⟨a, b, t, s, u, c, g, m, rfl, h1, hm, hg, h⟩ := h
    walk_at "rd"
    obtain ⟨g1, g2, g3, g4, g5⟩ := sgn hm hg
    rw [decide_eq_decide.mpr g1, decide_eq_decide.mpr g2, decide_eq_decide.mpr g3, decide_eq_decide.mpr g4, decide_eq_decide.mpr g5]
    obtain ⟨y1, e1⟩ := reprB (decide (t * c - u * s < 0))
    obtain ⟨y2, e2⟩ := reprB (decide (t * c - u * s ≤ 0))
    obtain ⟨y3, e3⟩ := reprB (decide (t * c - u * s = 0))
    obtain ⟨y4, e4⟩ := reprB (!decide (t * c - u * s = 0))
    obtain ⟨y5, e5⟩ := reprB (decide (0 ≤ t * c - u * s))
    obtain ⟨y6, e6⟩ := reprB (decide (0 < t * c - u * s))
    refine two_lt T h1 ⟨y1, e1, two_le T h1 ⟨y2, e2, two_eq T h1 ⟨y3, by rw [Bool.xor_false]; exact e3, two_eq T h1 ⟨y4, by rw [Bool.xor_true]; exact e4, two_ge T h1 ⟨y5, e5, two_gt T h1 ⟨y6, e6, ?_⟩⟩⟩⟩⟩⟩
    refine ⟨y1, e1, y2, e2, y3, e3, y4, e4, y5, e5, y6, e6, ?_⟩
    exact repr6 _ _ _ _ _ _ h e1 e2 e3 e4 e5 e6
theorem fn__law_right (T : Tx K mg) : FnG P w K mg base 5 "_law_right" ["_law_a", "_law_b", "_law_gap"] (sp__law_right K) := by
  obtain ⟨fd, F, hb, ok⟩ := ok__law_right (P := P) (w := w) (base := base) T
  exact ⟨⟨_, fd, T.g__law_right, F.kp, hb, ok⟩⟩
theorem fmod_rng (a : Int) {b : Int} (h : 0 < b) : 0 ≤ a.fmod b ∧ a.fmod b < b := ⟨Int.fmod_nonneg_of_pos a h, Int.fmod_lt_of_pos a h⟩
def sp__law_take (K : PySem.W.Frag) : SpD := fun ds μ k _ => ∃ (p : Addr) (many : Int), ds = [.ref p, .int many] ∧ PoolAt μ p ∧ 0 < many ∧ many.natAbs.log2 < 9000 ∧
  ∀ (r : Int) (μ' : Mu), 0 ≤ r → r < many → PoolAt μ' p → (∀ a, a ≠ p → μ' a = μ a) → k (.int r) μ'
def t__law_take (K : PySem.W.Frag) (ex : XD) : TSD :=
  (dSeq (dIfS (dTest (dOp rGtD (dOp rIxD (dVar 0) (dC (.int 0))) (dC (.int 0)))) (dSeq (dAsg (dOp rModD (dArgs rIntD (dCons (dOp rIxD (dVar 0) (dC (.int 0))) dNil)) (dVar 1)) (.nm 2))
  (dSeq (dSetI (dVar 0) (dC (.int 0)) (dOp rFdivD (dOp rIxD (dVar 0) (dC (.int 0))) (dVar 1)))
  (dRet (dVar 2)))) dNext)
  (dSeq (dSetI (dVar 0) (dC (.int 1)) (dOp rModD (dArgs rIntD (dCons (dOp rAddD (dOp rMulD (dOp rIxD (dVar 0) (dC (.int 1))) (dC (.int 48271))) (dC (.int 11))) dNil)) (dC (.int 2147483647))))
  (dRet (dOp rModD (dArgs rIntD (dCons (dOp rFdivD (dOp rModD (dArgs rIntD (dCons (dOp rMulD (dOp rIxD (dVar 0) (dC (.int 1))) (dOp rIxD (dVar 0) (dC (.int 1)))) dNil)) (dC (.int 2147483629))) (dC (.int 64))) dNil)) (dVar 1)))))
set_option maxHeartbeats 4000000 in
theorem ok__law_take (T : Tx K mg) : ∃ fd, FunD K "_law_take" "_law_take" (defArgs s__law_take) (defBody s__law_take) (defScope s__law_take) [] [] (He.fAd K ("_law_take", none)) fd ∧ Binds K fd ["_law_pool_here", "_law_many"] [] ∧ FnOk P w K mg base (CXe P w) 1 (He.fAd K ("_law_take", none)) fd ["_law_pool_here", "_law_many"] (lSp K (sp__law_take K)) := by
  obtain ⟨fd, F⟩ := T.d__law_take
  refine ⟨fd, F, F.bindsN (fun _ _ _ _ _ _ us hl => match us, hl with | [_, _], _ => rfl), ?_⟩
  refine okD (t := t__law_take K) F sc__law_take ?l ?b ?r
  case l =>
    intro ds μ k ex h
    obtain ⟨_, _, rfl, _⟩ := h; rfl
  case b =>
    intro cdv A outer s H E B ex hr tk
    have hp := passes_of (X := cxOf (CXe P w) P w K mg base _law_take_N "_law_take" (defScope s__law_take) (He.fAd K ("_law_take", none)) cdv A outer s H E) rfl
    exact (pdb_cons (pds_if (pdt_cmp od_gt (pd_ix (pd_var 0) pd_int) pd_int (nomark _)) (pdb_cons (pds_set (i := 2) sc__law_take.nd (pd_op od_mod (pd_fnT cd_int T.no_int (pda_cons (pd_ix (pd_var 0) pd_int) pda_nil)) (pd_var 1)))
    (pdb_cons (pds_setI (pd_var 0) pd_int (pd_op od_fdiv (pd_ix (pd_var 0) pd_int) (pd_var 1)))
    (pdb_one (pds_ret (pd_var 2))))) pdb_nil)
    (pdb_cons (pds_setI (pd_var 0) pd_int (pd_op od_mod (pd_fnT cd_int T.no_int (pda_cons (pd_op od_add (pd_op od_mul (pd_ix (pd_var 0) pd_int) pd_int) pd_int) pda_nil)) pd_int))
    (pdb_one (pds_ret (pd_op od_mod (pd_fnT cd_int T.no_int (pda_cons (pd_op od_fdiv (pd_op od_mod (pd_fnT cd_int T.no_int (pda_cons (pd_op od_mul (pd_ix (pd_var 0) pd_int) (pd_ix (pd_var 0) pd_int)) pda_nil)) pd_int) pd_int) pda_nil)) (pd_var 1))))))
  case r =>
    intro ds μ k ex h
    unfold t__law_take
    obtain ⟨p, many, rfl, ⟨g, s, hp, hg, hs, hs2⟩, h0, hm, h⟩ := h
    walk_at "rd"
    simp only [hp, Option.some.injEq, MO.lst.injEq, exists_eq_left']
    walk_at "rd"
    refine ite2 (fun c => ?_) (fun c => ?_)
    · simp only [hp, Option.some.injEq, MO.lst.injEq, exists_eq_left']
      walk_at "rd"
      simp only [hp, Option.some.injEq, MO.lst.injEq, exists_eq_left']
      walk_at "rd"
      obtain ⟨r1, r2⟩ := fmod_rng g h0
      refine ⟨by omega, ⟨by omega, hm⟩, _, hp, 0, rfl, h _ _ r1 r2 ⟨_, _, mput_same, ?_, hs, hs2⟩ fun a ha => mput_ne ha⟩
      exact Int.fdiv_nonneg hg (by omega)
    · simp only [hp, Option.some.injEq, MO.lst.injEq, exists_eq_left']
      walk_at "rd"
      simp only [hp, Option.some.injEq, MO.lst.injEq, exists_eq_left']
      walk_at "rd"
      obtain ⟨a1, a2⟩ := fmod_rng (s * 48271 + 11) (b := 2147483647) (by decide)
      refine ⟨.inl (.inr ⟨by decide, by decide⟩), .inl (.inl ⟨by omega, by omega⟩), ⟨by decide, by decide⟩, by omega, ?_⟩
      obtain ⟨r1, r2⟩ := fmod_rng ((((s * 48271 + 11).fmod 2147483647 * (s * 48271 + 11).fmod 2147483647).fmod 2147483629).fdiv 64) h0
      exact h _ _ r1 r2 ⟨_, _, mput_same, hg, a1, a2⟩ fun a ha => mput_ne ha
theorem fn__law_take (T : Tx K mg) : FnG P w K mg base 1 "_law_take" ["_law_pool_here", "_law_many"] (sp__law_take K) := by
  obtain ⟨fd, F, hb, ok⟩ := ok__law_take (P := P) (w := w) (base := base) T
  exact ⟨⟨_, fd, T.g__law_take, F.kp, hb, ok⟩⟩
def sp_shared_divisor (K : PySem.W.Frag) : SpD := fun ds μ k _ => ∃ a b : Int, ds = [.int a, .int b] ∧ k (.int (Int.gcd a b : Nat)) μ
def t_shared_divisor_b1 (K : PySem.W.Frag) (ex : XD) : TSD :=
  (dPar 0 1 (dCons (dVar 1) (dCons (dOp rModD (dVar 0) (dVar 1)) dNil)))
def t_shared_divisor (K : PySem.W.Frag) (ex : XD) : TSD :=
  (dSeq (dPar 0 1 (dCons (dArgs (rInt1 fun i => .int (if i < 0 then -i else i)) (dCons (dVar 0) dNil)) (dCons (dArgs (rInt1 fun i => .int (if i < 0 then -i else i)) (dCons (dVar 1) dNil)) dNil)))
  (dSeq (dWhile (dTest (dOp (rEqB true) (dVar 1) (dC (.int 0)))) (t_shared_divisor_b1 K ex))
  (dRet (dVar 0))))
set_option maxHeartbeats 4000000 in
theorem ok_shared_divisor (T : Tx K mg) : ∃ fd, FunD K "shared_divisor" "shared_divisor" (defArgs s_shared_divisor) (defBody s_shared_divisor) (defScope s_shared_divisor) [] [] (He.fAd K ("shared_divisor", none)) fd ∧ Binds K fd ["one", "other"] [] ∧ FnOk P w K mg base (CXe P w) 1 (He.fAd K ("shared_divisor", none)) fd ["one", "other"] (lSp K (sp_shared_divisor K)) := by
  obtain ⟨fd, F⟩ := T.d_shared_divisor
  refine ⟨fd, F, F.bindsN (fun _ _ _ _ _ _ us hl => match us, hl with | [_, _], _ => rfl), ?_⟩
  refine okD (t := t_shared_divisor K) F sc_shared_divisor ?l ?b ?r
  case l =>
    intro ds μ k ex h
    obtain ⟨_, _, rfl, _⟩ := h; rfl
  case b =>
    intro cdv A outer s H E B ex hr tk
    have hp := passes_of (X := cxOf (CXe P w) P w K mg base shared_divisor_N "shared_divisor" (defScope s_shared_divisor) (He.fAd K ("shared_divisor", none)) cdv A outer s H E) rfl
    exact (pdb_cons (pds_par (i := 0) (j := 1) rfl sc_shared_divisor.nd (pda_cons (pd_fnB cd_abs T.no_abs (pda_cons (pd_var 0) pda_nil)) (pda_cons (pd_fnB cd_abs T.no_abs (pda_cons (pd_var 1) pda_nil)) pda_nil)))
    (pdb_cons (pds_while hp (pdt_cmp (od_ne hr.units) (pd_var 1) pd_int (nomark _)) (pdb_one (pds_par (i := 0) (j := 1) rfl sc_shared_divisor.nd (pda_cons (pd_var 1) (pda_cons (pd_op od_mod (pd_var 0) (pd_var 1)) pda_nil)))))
    (pdb_one (pds_ret (pd_var 0)))))
  case r =>
    intro ds μ k ex h
    unfold t_shared_divisor
    obtain ⟨a, b, rfl, h⟩ := h
    walk_at "rd"
    refine ⟨fun m ρ μ' => μ' = μ ∧ ∃ x y : Nat, ρ = [some (.int x), some (.int y)] ∧ Nat.gcd x y = Int.gcd a b ∧ m = y, ⟨b.natAbs, rfl, a.natAbs, b.natAbs, ?_, rfl, rfl⟩, ?_⟩
    · have e : ∀ i : Int, (if i < 0 then -i else i) = (i.natAbs : Int) := fun i => by split <;> omega
      rw [e, e]
    · rintro m ρ μ' ⟨rfl, x, y, rfl, hg, em⟩
      walk_at "rd"
      by_cases hy : y = 0
      · subst hy
        refine iteNS (by rfl) ?_
        walk_at "rd"
        rw [Nat.gcd_zero_right] at hg
        rw [hg]
        exact h
      · rw [decide_eq_false (by omega)]
        refine iteT ⟨fun ρ μ2 => μ2 = μ' ∧ ρ = [some (.int y), some (.int (x % y : Nat))], ?_, ?_⟩
        · rintro ρ' μ2 ⟨rfl, rfl⟩
          exact ⟨x % y, by rw [em]; exact Nat.mod_lt _ (Nat.pos_of_ne_zero hy), rfl, y, x % y, rfl, by rw [← hg, Nat.gcd_comm x y, Nat.gcd_rec y x, Nat.gcd_comm], rfl⟩
        · unfold t_shared_divisor_b1
          walk_at "rd"
          refine ⟨by omega, ?_⟩
          rw [Int.fmod_eq_emod_of_nonneg _ (by omega)]
          rfl
theorem fn_shared_divisor (T : Tx K mg) : FnG P w K mg base 1 "shared_divisor" ["one", "other"] (sp_shared_divisor K) := by
  obtain ⟨fd, F, hb, ok⟩ := ok_shared_divisor (P := P) (w := w) (base := base) T
  exact ⟨⟨_, fd, T.g_shared_divisor, F.kp, hb, ok⟩⟩
theorem sg_ne {t b : Int} (h : b ≠ 0) : sg t b ≠ 0 := by
  have g : Int.gcd t b ≠ 0 := fun e => h (Int.gcd_eq_zero_iff.mp e).2
  unfold sg
  split <;> omega
theorem sg_small {t b : Int} (h : b ≠ 0) (hs : b.natAbs < 2 ^ 8000) : (sg t b).natAbs.log2 < 9000 := by
  have h1 : (sg t b).natAbs = Int.gcd t b := by
    unfold sg
    split <;> omega
  rw [h1]
  have h2 : Int.gcd t b ≤ b.natAbs := Nat.le_of_dvd (by omega) (Int.gcd_dvd_natAbs_right t b)
  have h3 : (Int.gcd t b).log2 < 8000 := (Nat.log2_lt (fun e => h (Int.gcd_eq_zero_iff.mp e).2)).mpr (Nat.lt_of_le_of_lt h2 hs)
  omega
def sp_Ratio___init__ (K : PySem.W.Frag) : SpD := fun ds μ k _ => ∃ (x : Addr) (t b : Int), ds = [.ref x, .int t, .int b] ∧ μ x = some (.ins (He.ga K "Ratio") []) ∧ b ≠ 0 ∧ b.natAbs < 2 ^ 8000 ∧
  k .non (mput μ x (.ins (He.ga K "Ratio") [("top", .int (redT t b)), ("bottom", .int (redB t b))]))
def t_Ratio___init___b1 (K : PySem.W.Frag) (ex : XD) : TSD :=
  (dIfS (dNot (dTest (dCall (sp_is_integer K) (dCons (dVar 3) dNil)))) dNever dNext)
def t_Ratio___init__ (K : PySem.W.Frag) (ex : XD) : TSD :=
  (dSeq (dFor (dIs asT (dTup (dCons (dVar 1) (dCons (dVar 2) dNil)))) (.nm 3) (t_Ratio___init___b1 K ex))
  (dSeq (dIfS (dTest (dOp (rEqB false) (dVar 2) (dC (.int 0)))) dNever dNext)
  (dSeq (dAsg (dCall (sp_shared_divisor K) (dCons (dVar 1) (dCons (dVar 2) dNil))) (.nm 4))
  (dSeq (dIfS (dTest (dOp rLtD (dVar 2) (dC (.int 0)))) (dAsg (dUn (rU1 fun i => .int (-i)) (dVar 4)) (.nm 4)) dNext)
  (dSeq (dSetF (He.ga K "Ratio") "top" (dVar 0) (dOp rFdivD (dVar 1) (dVar 4)))
  (dSetF (He.ga K "Ratio") "bottom" (dVar 0) (dOp rFdivD (dVar 2) (dVar 4))))))))
set_option maxHeartbeats 4000000 in
theorem ok_Ratio___init__ (T : Tx K mg) : ∃ fd, FunD K "__init__" "Ratio.__init__" (defArgs s_Ratio___init__) (defBody s_Ratio___init__) (defScope s_Ratio___init__) [.int 1] [] (He.fAd K ("Ratio", some "__init__")) fd ∧ Binds K fd ["self", "top", "bottom"] [] ∧ FnOk P w K mg base (CXe P w) 2 (He.fAd K ("Ratio", some "__init__")) fd ["self", "top", "bottom"] (lSp K (sp_Ratio___init__ K)) := by
  obtain ⟨fd, F⟩ := T.d_Ratio___init__
  refine ⟨fd, F, binds_all F (by simp) (fun _ _ _ _ _ _ _ us its h1 h2 => match us, h1, its, h2 with | [_, _, _], _, [_], _ => ⟨_, rfl, rfl⟩), ?_⟩
  refine okD (t := t_Ratio___init__ K) F sc_Ratio___init__ ?l ?b ?r
  case l =>
    intro ds μ k ex h
    obtain ⟨_, _, _, rfl, _⟩ := h; rfl
  case b =>
    intro cdv A outer s H E B ex hr tk
    have hp := passes_of (X := cxOf (CXe P w) P w K mg base Ratio___init___N "Ratio.__init__" (defScope s_Ratio___init__) (He.fAd K ("Ratio", some "__init__")) cdv A outer s H E) rfl
    exact (pdb_cons (pds_for (p := (.nm 3)) hp rfl (pdi_tup (pd_tup (pda_cons (pd_var 1) (pda_cons (pd_var 2) pda_nil)))) (pg_name (i := 3) sc_Ratio___init__.nd rfl (by first | exact Or.inl rfl | exact Or.inr rfl)) (pdb_one (pds_if (pdt_not (pdt_val (pd_call (fn_is_integer (P := P) (w := w) (base := base) T) (hr.mono (by decide)) (pda_cons (pd_var 3) pda_nil)))) (pdb_one pds_never) pdb_nil)))
    (pdb_cons (pds_if (pdt_cmp (od_eq hr.units) (pd_var 2) pd_int (nomark _)) (pdb_one pds_never) pdb_nil)
    (pdb_cons (pds_set (i := 4) sc_Ratio___init__.nd (pd_call (fn_shared_divisor (P := P) (w := w) (base := base) T) (hr.mono (by decide)) (pda_cons (pd_var 1) (pda_cons (pd_var 2) pda_nil))))
    (pdb_cons (pds_if (pdt_cmp od_lt (pd_var 2) pd_int (nomark _)) (pdb_one (pds_set (i := 4) sc_Ratio___init__.nd (pd_un ud_neg (pd_var 4)))) pdb_nil)
    (pdb_cons (pds_fld T.fld_Ratio_top (pd_var 0) (pd_op od_fdiv (pd_var 1) (pd_var 4)))
    (pdb_one (pds_fld T.fld_Ratio_bottom (pd_var 0) (pd_op od_fdiv (pd_var 2) (pd_var 4)))))))))
  case r =>
    intro ds μ k ex h
    unfold t_Ratio___init__
    obtain ⟨x, t, b, rfl, e, hb, hs, h⟩ := h
    walk_at "rd"
    walk_at "lp"
    unfold t_Ratio___init___b1
    walk_at "rd"
    refine .inl ⟨t, rfl, _, rfl, ?_⟩
    walk_at "lp"
    walk_at "rd"
    refine .inl ⟨b, rfl, _, rfl, ?_⟩
    walk_at "lp"
    walk_at "rd"
    rw [if_neg hb]
    refine ⟨t, b, rfl, ?_⟩
    have hn := sg_ne (t := t) hb
    have hsm := sg_small (t := t) hb hs
    unfold redT redB at h
    unfold sg at h hn hsm
    refine ite2 (fun c => ?_) (fun c => ?_)
    · rw [if_pos c] at h hn hsm
      walk_at "rd"
      refine ⟨⟨hn, hsm⟩, _, e, by decide, ⟨hn, hsm⟩, ?_⟩
      simp only [MO.ins.injEq, true_and, exists_eq_left', mput_mput]
      walk_at "fl"
      exact h
    · rw [if_neg c] at h hn hsm
      walk_at "rd"
      refine ⟨⟨hn, hsm⟩, _, e, by decide, ⟨hn, hsm⟩, ?_⟩
      simp only [MO.ins.injEq, true_and, exists_eq_left', mput_mput]
      walk_at "fl"
      exact h
theorem mk_Ratio (T : Tx K mg) : MkG P w K mg base 2 "Ratio" (He.ga K "Ratio") ["self", "top", "bottom"] (sp_Ratio___init__ K) := by
  obtain ⟨fd, F, hb, ok⟩ := ok_Ratio___init__ (P := P) (w := w) (base := base) T
  exact ⟨T.g_Ratio, _, fd, T.m_Ratio, hb, ok⟩
theorem at4 (a b c d : Int) {r : Int} (h0 : 0 ≤ r) (h3 : r < 4) : L2.atI [D.int a, D.int b, D.int c, D.int d] r = some (D.int a) ∨ L2.atI [D.int a, D.int b, D.int c, D.int d] r = some (D.int b) ∨ L2.atI [D.int a, D.int b, D.int c, D.int d] r = some (D.int c) ∨ L2.atI [D.int a, D.int b, D.int c, D.int d] r = some (D.int d) := by
  have : r = 0 ∨ r = 1 ∨ r = 2 ∨ r = 3 := by omega
  rcases this with rfl | rfl | rfl | rfl
  · exact .inl rfl
  · exact .inr (.inl rfl)
  · exact .inr (.inr (.inl rfl))
  · exact .inr (.inr (.inr rfl))
theorem at4' {r : Int} (h0 : 0 ≤ r) (h3 : r < 4) : ∃ v : Int, L2.atI [D.int 3, D.int 12, D.int (10 ^ 9), D.int (10 ^ 30)] r = some (D.int v) ∧ 0 < v ∧ v ≤ 10 ^ 30 := by
  rcases at4 3 12 (10 ^ 9) (10 ^ 30) h0 h3 with h | h | h | h
  · exact ⟨_, h, by decide, by decide⟩
  · exact ⟨_, h, by decide, by decide⟩
  · exact ⟨_, h, by decide, by decide⟩
  · exact ⟨_, h, by decide, by decide⟩
theorem log30 {v : Int} (h0 : 0 < v) (h : v ≤ 10 ^ 30) : v.natAbs.log2 < 9000 := by
  have h3 : v.natAbs.log2 < 8000 := (Nat.log2_lt (by omega)).mpr (Nat.lt_of_le_of_lt (m := 10 ^ 30) (by omega) (by decide +kernel))
  omega
def sp__law_drawn (K : PySem.W.Frag) : SpD := fun ds μ k _ => ∃ p : Addr, ds = [.ref p] ∧ PoolAt μ p ∧ ∀ (t b : Int) (μ' : Mu), t.natAbs ≤ 10 ^ 30 → 0 < b → b ≤ 10 ^ 30 → PoolAt μ' p → (∀ q, q ≠ p → μ' q = μ q) → k (.tup [.int t, .int b]) μ'
def t__law_drawn (K : PySem.W.Frag) (ex : XD) : TSD :=
  (dSeq (dAsg (dOp rIxD (dLst (dCons (dC (.int 3)) (dCons (dC (.int 12)) (dCons (dOp rPowD (dC (.int 10)) (dC (.int 9))) (dCons (dOp rPowD (dC (.int 10)) (dC (.int 30))) dNil))))) (dCall (sp__law_take K) (dCons (dVar 0) (dCons (dC (.int 4)) dNil)))) (.nm 1))
  (dSeq (dPar 2 3 (dCons (dCall (sp__law_take K) (dCons (dVar 0) (dCons (dVar 1) dNil))) (dCons (dOp rAddD (dC (.int 1)) (dCall (sp__law_take K) (dCons (dVar 0) (dCons (dVar 1) dNil)))) dNil)))
  (dSeq (dIfS (dTest (dOp (rEqB false) (dCall (sp__law_take K) (dCons (dVar 0) (dCons (dC (.int 2)) dNil))) (dC (.int 1)))) (dAsg (dUn (rU1 fun i => .int (-i)) (dVar 2)) (.nm 2)) dNext)
  (dRet (dTup (dCons (dVar 2) (dCons (dVar 3) dNil)))))))
set_option maxHeartbeats 4000000 in
theorem ok__law_drawn (T : Tx K mg) : ∃ fd, FunD K "_law_drawn" "_law_drawn" (defArgs s__law_drawn) (defBody s__law_drawn) (defScope s__law_drawn) [] [] (He.fAd K ("_law_drawn", none)) fd ∧ Binds K fd ["_law_pool_here"] [] ∧ FnOk P w K mg base (CXe P w) 2 (He.fAd K ("_law_drawn", none)) fd ["_law_pool_here"] (lSp K (sp__law_drawn K)) := by
  obtain ⟨fd, F⟩ := T.d__law_drawn
  refine ⟨fd, F, F.bindsN (fun _ _ _ _ _ _ us hl => match us, hl with | [_], _ => rfl), ?_⟩
  refine okD (t := t__law_drawn K) F sc__law_drawn ?l ?b ?r
  case l =>
    intro ds μ k ex h
    obtain ⟨_, rfl, _⟩ := h; rfl
  case b =>
    intro cdv A outer s H E B ex hr tk
    have hp := passes_of (X := cxOf (CXe P w) P w K mg base _law_drawn_N "_law_drawn" (defScope s__law_drawn) (He.fAd K ("_law_drawn", none)) cdv A outer s H E) rfl
    exact (pdb_cons (pds_set (i := 1) sc__law_drawn.nd (pd_ix (pd_lst (pda_cons pd_int (pda_cons pd_int (pda_cons (pd_op od_pow pd_int pd_int) (pda_cons (pd_op od_pow pd_int pd_int) pda_nil))))) (pd_call (fn__law_take (P := P) (w := w) (base := base) T) (hr.mono (by decide)) (pda_cons (pd_var 0) (pda_cons pd_int pda_nil)))))
    (pdb_cons (pds_par (i := 2) (j := 3) rfl sc__law_drawn.nd (pda_cons (pd_call (fn__law_take (P := P) (w := w) (base := base) T) (hr.mono (by decide)) (pda_cons (pd_var 0) (pda_cons (pd_var 1) pda_nil))) (pda_cons (pd_op od_add pd_int (pd_call (fn__law_take (P := P) (w := w) (base := base) T) (hr.mono (by decide)) (pda_cons (pd_var 0) (pda_cons (pd_var 1) pda_nil)))) pda_nil)))
    (pdb_cons (pds_if (pdt_cmp (od_eq hr.units) (pd_call (fn__law_take (P := P) (w := w) (base := base) T) (hr.mono (by decide)) (pda_cons (pd_var 0) (pda_cons pd_int pda_nil))) pd_int (nomark _)) (pdb_one (pds_set (i := 2) sc__law_drawn.nd (pd_un ud_neg (pd_var 2)))) pdb_nil)
    (pdb_one (pds_ret (pd_tup (pda_cons (pd_var 2) (pda_cons (pd_var 3) pda_nil))))))))
  case r =>
    intro ds μ k ex h
    unfold t__law_drawn
    obtain ⟨p, rfl, hp, h⟩ := h
    walk_at "rd"
    refine ⟨⟨by decide, by decide, by decide⟩, ⟨by decide, by decide, by decide⟩, p, 4, rfl, hp, by decide, by decide, fun r1 μ1 h1 h2 p1 f1 => ?_⟩
    obtain ⟨v, hv, v1, v2⟩ := at4' h1 h2
    walk_at "rd"
    refine ⟨_, hv, p, v, rfl, p1, v1, log30 v1 v2, fun r2 μ2 a1 a2 p2 f2 => ?_⟩
    walk_at "rd"
    refine ⟨p, v, rfl, p2, v1, log30 v1 v2, fun r3 μ3 b1 b2 p3 f3 => ?_⟩
    walk_at "rd"
    refine ⟨p, 2, rfl, p3, by decide, by decide, fun r4 μ4 c1 c2 p4 f4 => ?_⟩
    walk_at "rd"
    refine ite2 (fun c => ?_) (fun c => ?_)
    · walk_at "rd"
      exact h _ _ μ4 (by omega) (by omega) (by omega) p4 fun q hq => (f4 q hq).trans ((f3 q hq).trans ((f2 q hq).trans (f1 q hq)))
    · walk_at "rd"
      exact h _ _ μ4 (by omega) (by omega) (by omega) p4 fun q hq => (f4 q hq).trans ((f3 q hq).trans ((f2 q hq).trans (f1 q hq)))
theorem fn__law_drawn (T : Tx K mg) : FnG P w K mg base 2 "_law_drawn" ["_law_pool_here"] (sp__law_drawn K) := by
  obtain ⟨fd, F, hb, ok⟩ := ok__law_drawn (P := P) (w := w) (base := base) T
  exact ⟨⟨_, fd, T.g__law_drawn, F.kp, hb, ok⟩⟩
theorem at_ints {ns : List Int} {n : Int} (h0 : 0 ≤ n) (c : n < (ns.length : Int)) : ∃ i, L2.atI (List.map D.int ns) n = some (D.int i) := by
  have h1 : n.toNat < ns.length := by omega
  refine ⟨ns[n.toNat], ?_⟩
  unfold L2.atI ixN
  rw [if_pos h0, if_pos (by rw [List.length_map]; exact c)]
  show (List.map D.int ns)[n.toNat]? = _
  rw [List.getElem?_map, List.getElem?_eq_getElem h1]
  rfl
theorem pool_end {n i : Int} {μ : Mu} {k : KD} (h0 : 0 ≤ n) (h63 : n ≤ 63) (h : ∀ (p : Addr) (μ' : Mu), μ p = none → PoolAt μ' p → (∀ (a : Addr), a ≠ p → μ' a = μ a) → k (D.ref p) μ') :
    CMulD 104729 n ∧ CMulD (104729 * n) n ∧ CMulD 7919 n ∧ CPow (i.fmod 2147483629 + 104729 * n * n + 7919 * n + 11) 3 ∧ CPow 10 18 ∧
      CMulD (if i < 0 then -i else i) (if 1000000000000000000 ≤ if i < 0 then -i else i then 1 else 0) ∧
      ∀ (p : Addr), μ p = none → k (D.ref p) (mput μ p (MO.lst [D.int ((if i < 0 then -i else i) * if 1000000000000000000 ≤ if i < 0 then -i else i then 1 else 0), D.int (((i.fmod 2147483629 + 104729 * n * n + 7919 * n + 11) ^ 3).fmod 2147483647)])) := by
  obtain ⟨a1, a2⟩ := fmod_rng i (b := 2147483629) (by decide)
  have hn : 0 ≤ 104729 * n * n ∧ 104729 * n * n ≤ 104729 * 63 * 63 := by
    have h1 : 104729 * n ≤ 104729 * 63 := by omega
    exact ⟨Int.mul_nonneg (by omega) h0, Int.mul_le_mul h1 h63 h0 (by decide)⟩
  refine ⟨.inl (.inl ⟨by decide, by decide⟩), .inl (.inr ⟨by omega, by omega⟩), .inl (.inl ⟨by decide, by decide⟩), ⟨by decide, by decide, by omega⟩, ⟨by decide, by decide, by decide⟩, .inl (.inr ?_), fun p np => h p _ np ⟨_, _, mput_same, ?_, ?_, ?_⟩ fun a ha => mput_ne ha⟩
  · constructor <;> ((repeat' split) <;> decide)
  · refine Int.mul_nonneg ?_ ?_
    · split <;> omega
    · split <;> omega
  · exact (fmod_rng _ (by decide)).1
  · exact (fmod_rng _ (by decide)).2
def sp__law_pool (K : PySem.W.Frag) : SpD := fun ds μ k _ => ∃ (ns : List Int) (n : Int), ds = [.lst (ns.map .int), .int n] ∧ 0 ≤ n ∧ n ≤ 63 ∧
  ∀ (p : Addr) (μ' : Mu), μ p = none → PoolAt μ' p → (∀ a, a ≠ p → μ' a = μ a) → k (.ref p) μ'
def t__law_pool (K : PySem.W.Frag) (ex : XD) : TSD :=
  (dSeq (dAsg (dC (.int 0)) (.nm 2))
  (dSeq (dIfS (dTest (dOp rLtD (dVar 1) (dArgs rLenD (dCons (dVar 0) dNil)))) (dAsg (dOp rIxD (dVar 0) (dVar 1)) (.nm 2)) dNext)
  (dSeq (dAsg (dArgs (rInt1 fun i => .int (if i < 0 then -i else i)) (dCons (dVar 2) dNil)) (.nm 3))
  (dSeq (dAsg (dOp rModD (dArgs rIntD (dCons (dOp rPowD (dOp rAddD (dOp rAddD (dOp rAddD (dOp rModD (dArgs rIntD (dCons (dVar 2) dNil)) (dC (.int 2147483629))) (dOp rMulD (dOp rMulD (dC (.int 104729)) (dVar 1)) (dVar 1))) (dOp rMulD (dC (.int 7919)) (dVar 1))) (dC (.int 11))) (dC (.int 3))) dNil)) (dC (.int 2147483647))) (.nm 4))
  (dRet (dLstM (dCons (dOp rMulD (dVar 3) (dArgs rIntD (dCons (dOp rGeD (dVar 3) (dOp rPowD (dC (.int 10)) (dC (.int 18)))) dNil))) (dCons (dVar 4) dNil))))))))
set_option maxHeartbeats 4000000 in
theorem ok__law_pool (T : Tx K mg) : ∃ fd, FunD K "_law_pool" "_law_pool" (defArgs s__law_pool) (defBody s__law_pool) (defScope s__law_pool) [] [] (He.fAd K ("_law_pool", none)) fd ∧ Binds K fd ["_law_script", "_law_k"] [] ∧ FnOk P w K mg base (CXe P w) 1 (He.fAd K ("_law_pool", none)) fd ["_law_script", "_law_k"] (lSp K (sp__law_pool K)) := by
  obtain ⟨fd, F⟩ := T.d__law_pool
  refine ⟨fd, F, F.bindsN (fun _ _ _ _ _ _ us hl => match us, hl with | [_, _], _ => rfl), ?_⟩
  refine okD (t := t__law_pool K) F sc__law_pool ?l ?b ?r
  case l =>
    intro ds μ k ex h
    obtain ⟨_, _, rfl, _⟩ := h; rfl
  case b =>
    intro cdv A outer s H E B ex hr tk
    have hp := passes_of (X := cxOf (CXe P w) P w K mg base _law_pool_N "_law_pool" (defScope s__law_pool) (He.fAd K ("_law_pool", none)) cdv A outer s H E) rfl
    exact (pdb_cons (pds_set (i := 2) sc__law_pool.nd pd_int)
    (pdb_cons (pds_if (pdt_cmp od_lt (pd_var 1) (pd_fnB cd_len T.no_len (pda_cons (pd_var 0) pda_nil)) (nomark _)) (pdb_one (pds_set (i := 2) sc__law_pool.nd (pd_ix (pd_var 0) (pd_var 1)))) pdb_nil)
    (pdb_cons (pds_set (i := 3) sc__law_pool.nd (pd_fnB cd_abs T.no_abs (pda_cons (pd_var 2) pda_nil)))
    (pdb_cons (pds_set (i := 4) sc__law_pool.nd (pd_op od_mod (pd_fnT cd_int T.no_int (pda_cons (pd_op od_pow (pd_op od_add (pd_op od_add (pd_op od_add (pd_op od_mod (pd_fnT cd_int T.no_int (pda_cons (pd_var 2) pda_nil)) pd_int) (pd_op od_mul (pd_op od_mul pd_int (pd_var 1)) (pd_var 1))) (pd_op od_mul pd_int (pd_var 1))) pd_int) pd_int) pda_nil)) pd_int))
    (pdb_one (pds_ret (pd_lstM (pda_cons (pd_op od_mul (pd_var 3) (pd_fnT cd_int T.no_int (pda_cons (pd_cmp od_ge (pd_var 3) (pd_op od_pow pd_int pd_int) (nomark _)) pda_nil))) (pda_cons (pd_var 4) pda_nil)))))))))
  case r =>
    intro ds μ k ex h
    unfold t__law_pool
    obtain ⟨ns, n, rfl, h0, h63, h⟩ := h
    walk_at "rd"
    refine ite2 (fun c => ?_) (fun c => ?_)
    · rw [List.length_map] at c
      obtain ⟨i, hi⟩ := at_ints h0 c
      simp only [hi, Option.some.injEq, exists_eq_left']
      walk_at "rd"
      exact pool_end h0 h63 h
    · exact pool_end (i := 0) h0 h63 h
theorem fn__law_pool (T : Tx K mg) : FnG P w K mg base 1 "_law_pool" ["_law_script", "_law_k"] (sp__law_pool K) := by
  obtain ⟨fd, F, hb, ok⟩ := ok__law_pool (P := P) (w := w) (base := base) T
  exact ⟨⟨_, fd, T.g__law_pool, F.kp, hb, ok⟩⟩
def sp_law (K : PySem.W.Frag) : SpD := fun ds μ k _ => ∃ ns : List Int, ds = [.lst (ns.map .int)] ∧ ns.length ≤ 63 ∧ ∀ μ', k (.bl true) μ'
def t_law_b1 (K : PySem.W.Frag) (ex : XD) : TSD :=
  (dIfS (dNot (dTest (dCall (sp__law_right K) (dCons (dVar 8) (dCons (dVar 11) (dCons (dOp rSubD (dOp rMulD (dOp rIxD (dVar 7) (dC (.int 0))) (dOp rIxD (dVar 10) (dC (.int 1)))) (dOp rMulD (dOp rIxD (dVar 10) (dC (.int 0))) (dOp rIxD (dVar 7) (dC (.int 1))))) dNil)))))) (dRet (dC (.bl false))) dNext)
def t_law_b2 (K : PySem.W.Frag) (ex : XD) : TSD :=
  (dSeq (dFor (dZip (dCons (dVar 3) (dCons (dVar 5) dNil))) (.tp [10, 11]) (t_law_b1 K ex))
  (dSeq (dIfS (dNot (dTest (dCall (sp__law_right K) (dCons (dVar 8) (dCons (dVar 6) (dCons (dOp rSubD (dOp rIxD (dVar 7) (dC (.int 0))) (dOp rMulD (dVar 6) (dOp rIxD (dVar 7) (dC (.int 1))))) dNil)))))) (dRet (dC (.bl false))) dNext)
  (dSeq (dIfS (dNot (dTest (dCall (sp__law_right K) (dCons (dVar 6) (dCons (dVar 8) (dCons (dOp rSubD (dOp rMulD (dVar 6) (dOp rIxD (dVar 7) (dC (.int 1)))) (dOp rIxD (dVar 7) (dC (.int 0)))) dNil)))))) (dRet (dC (.bl false))) dNext)
  (dIfS (dOr (dTest (dOp (rOwn K (He.ga K "Ratio") false (sp_Ratio___eq__ K)) (dVar 8) (dArgs (rStrO (He.ga K "Ratio") (sp_Ratio___str__ K)) (dCons (dVar 8) dNil)))) (dOr (dTest (dOp (rOwn K (He.ga K "Ratio") false (sp_Ratio___eq__ K)) (dVar 8) (dC .non))) (dTest (dOp (rOwn K (He.ga K "Ratio") false (sp_Ratio___eq__ K)) (dVar 8) (dTup (dCons (dFld (He.ga K "Ratio") "top" (dVar 8)) (dCons (dFld (He.ga K "Ratio") "bottom" (dVar 8)) dNil))))))) (dRet (dC (.bl false))) dNext))))
def t_law_b3 (K : PySem.W.Frag) (ex : XD) : TSD :=
  (dSeq (dAsg (dCall (sp__law_pool K) (dCons (dVar 0) (dCons (dVar 1) dNil))) (.nm 2))
  (dSeq (dAsg (dLstM (dCons (dCall (sp__law_drawn K) (dCons (dVar 2) dNil)) (dCons (dCall (sp__law_drawn K) (dCons (dVar 2) dNil)) (dCons (dCall (sp__law_drawn K) (dCons (dVar 2) dNil)) dNil)))) (.nm 3))
  (dSeq (dAsg (dOp rAddD (dC (.int 1)) (dCall (sp__law_take K) (dCons (dVar 2) (dCons (dOp rPowD (dC (.int 10)) (dC (.int 6))) dNil)))) (.nm 4))
  (dSeq (dDrop (dApp (dVar 3) (dCons (dTup (dCons (dOp rSubD (dOp rAddD (dOp rMulD (dOp rIxD (dOp rIxD (dVar 3) (dC (.int 0))) (dC (.int 0))) (dVar 4)) (dCall (sp__law_take K) (dCons (dVar 2) (dCons (dC (.int 3)) dNil)))) (dC (.int 1))) (dCons (dOp rMulD (dOp rIxD (dOp rIxD (dVar 3) (dC (.int 0))) (dC (.int 1))) (dVar 4)) dNil))) dNil)))
  (dSeq (dFrz 3 (dAsg (dLc (dIs asL (dVar 3)) (.nm 9) dYes (dArgs (rMake (He.ga K "Ratio") (sp_Ratio___init__ K)) (dCons (dOp rIxD (dVar 9) (dC (.int 0))) (dCons (dOp rIxD (dVar 9) (dC (.int 1))) dNil))) [9]) (.nm 5)))
  (dSeq (dAsg (dOp rAddD (dOp rFdivD (dOp rIxD (dOp rIxD (dVar 3) (dC (.int 1))) (dC (.int 0))) (dOp rIxD (dOp rIxD (dVar 3) (dC (.int 1))) (dC (.int 1)))) (dCall (sp__law_take K) (dCons (dVar 2) (dCons (dC (.int 2)) dNil)))) (.nm 6))
  (dFor (dZip (dCons (dVar 3) (dCons (dVar 5) dNil))) (.tp [7, 8]) (t_law_b2 K ex))))))))
/-- a row: not too great, the bottom above 0 -/
def Gd (r : Int × Int) : Prop := r.1.natAbs ≤ 10 ^ 40 ∧ 0 < r.2 ∧ r.2 ≤ 10 ^ 40
theorem red_ok (t : Int) {b : Int} (h : 0 < b) : ∃ g : Int, 0 < g ∧ t = g * redT t b ∧ b = g * redB t b ∧ (redT t b).natAbs ≤ t.natAbs ∧ 0 < redB t b ∧ redB t b ≤ b := by
  have e : sg t b = (Int.gcd t b : Nat) := by unfold sg; rw [if_neg (by omega)]
  have hg : 0 < (Int.gcd t b : Nat) := Nat.pos_of_ne_zero fun z => by
    have := (Int.gcd_eq_zero_iff.mp z).2
    omega
  obtain ⟨x, hx⟩ := Int.gcd_dvd_left t b
  obtain ⟨y, hy⟩ := Int.gcd_dvd_right t b
  have r1 : redT t b = x := by
    unfold redT
    rw [e]
    rw (occs := .pos [1]) [hx]
    exact Int.mul_fdiv_cancel_left _ (by omega)
  have r2 : redB t b = y := by
    unfold redB
    rw [e]
    rw (occs := .pos [1]) [hy]
    exact Int.mul_fdiv_cancel_left _ (by omega)
  rw [r1, r2]
  have hy0 : 0 < y := by
    by_cases q : 0 < y
    · exact q
    · have : ((Int.gcd t b : Nat) : Int) * y ≤ 0 := Int.mul_nonpos_of_nonneg_of_nonpos (by omega) (by omega)
      omega
  refine ⟨(Int.gcd t b : Nat), by omega, hx, hy, ?_, hy0, ?_⟩
  · have : t.natAbs = (Int.gcd t b) * x.natAbs := by
      rw (occs := .pos [1]) [hx]
      rw [Int.natAbs_mul]
      rfl
    rw [this]
    exact Nat.le_mul_of_pos_left _ hg
  · have h1 : 1 * y ≤ ((Int.gcd t b : Nat) : Int) * y := Int.mul_le_mul_of_nonneg_right (by omega) (by omega)
    omega
theorem sm40 {i : Int} (h : i.natAbs ≤ 10 ^ 41) : Sm i := Nat.lt_of_le_of_lt h (by decide +kernel)
theorem log40 {i : Int} (h : i.natAbs ≤ 10 ^ 41) : i.natAbs.log2 < 1000 := by
  by_cases z : i.natAbs = 0
  · rw [z]; decide
  · have h3 : i.natAbs.log2 < 900 := (Nat.log2_lt z).mpr (Nat.lt_of_le_of_lt h (by decide +kernel))
    omega
def tu (r : Int × Int) : D := .tup [.int r.1, .int r.2]
def rr (K : PySem.W.Frag) (r : Int × Int) : D := ratD K (redT r.1 r.2) (redB r.1 r.2)
theorem Gd.sm {r : Int × Int} (h : Gd r) : Sm (redT r.1 r.2) ∧ Sm (redB r.1 r.2) := by
  obtain ⟨g, g0, e1, e2, l1, l2, l3⟩ := red_ok r.1 h.2.1
  have := h.1
  have := h.2.2
  exact ⟨sm40 (by omega), sm40 (by omega)⟩
theorem k72_in (T : Tx K mg) {ex : XD} {E : EndsD} {μ : Mu} {r q : Int × Int} (hr : Gd r) (hq : Gd q) {o0 o1 o2 o3 o4 o5 o6 o9 : Option D}
    (hE : E.nx [o0, o1, o2, o3, o4, o5, o6, some (tu r), some (rr K r), o9, some (tu q), some (rr K q)] μ) :
    t_law_b1 K ex E [o0, o1, o2, o3, o4, o5, o6, some (tu r), some (rr K r), o9, some (tu q), some (rr K q)] μ := by
  unfold t_law_b1
  have a1 := hr.1
  have a2 := hr.2.1
  have a3 := hr.2.2
  have b1 := hq.1
  have b2 := hq.2.1
  have b3 := hq.2.2
  obtain ⟨g, g0, e1, e2, l1, l2, l3⟩ := red_ok r.1 hr.2.1
  obtain ⟨g', g0', e1', e2', l1', l2', l3'⟩ := red_ok q.1 hq.2.1
  walk_at "rd"
  show rIxD (.tup [.int r.1, .int r.2]) (.int 0) μ _
  walk_at "rd"
  show rIxD (.tup [.int q.1, .int q.2]) (.int 1) μ _
  walk_at "rd"
  refine ⟨sm_mul (sm40 (by omega)) (sm40 (by omega)), ?_⟩
  show rIxD (.tup [.int q.1, .int q.2]) (.int 0) μ _
  walk_at "rd"
  show rIxD (.tup [.int r.1, .int r.2]) (.int 1) μ _
  walk_at "rd"
  refine ⟨sm_mul (sm40 (by omega)) (sm40 (by omega)), ?_⟩
  refine ⟨_, _, _, _, _, _, _, g * g', rfl, ⟨.inr rfl, .inr rfl, .inl rfl, hr.sm.1, hr.sm.2, hq.sm.1, hq.sm.2⟩, Int.mul_pos g0 g0', ?_, ?_⟩
  · rw (occs := .pos [1]) [e1, e2']
    rw (occs := .pos [2]) [e1', e2]
    generalize redT r.1 r.2 = x
    generalize redT q.1 q.2 = y
    generalize redB r.1 r.2 = z
    generalize redB q.1 q.2 = u
    rw [Int.mul_sub]
    simp only [Int.mul_assoc, Int.mul_left_comm, Int.mul_comm]
  · exact ⟨_, rfl, iteF hE⟩
theorem k72_l1 (T : Tx K mg) {ex : XD} {E : EndsD} {μ : Mu} {r : Int × Int} (hr : Gd r) {o0 o1 o2 o3 o4 o5 o6 o9 : Option D}
    (hE : ∀ v10 v11, E.nx [o0, o1, o2, o3, o4, o5, o6, some (tu r), some (rr K r), o9, v10, v11] μ) : ∀ (rs : List (Int × Int)), (∀ q ∈ rs, Gd q) →
    ∀ o10 o11 : Option D, dLoop (.tp [10, 11]) (t_law_b1 K ex) E (zipD (rs.map tu) (rs.map (rr K))) [o0, o1, o2, o3, o4, o5, o6, some (tu r), some (rr K r), o9, o10, o11] μ
  | [], _, _, _ => hE _ _
  | q :: rs, h, _, _ => ⟨rfl, k72_in T hr (h q (List.mem_cons_self ..)) (k72_l1 T hr hE rs (fun x hx => h x (List.mem_cons_of_mem _ hx)) _ _)⟩
theorem no_str {K : PySem.W.Frag} {μ : Mu} {z : Str} : Isi K μ (.str z) (.type "int") false := ⟨.type "str", rfl, fun _ e => (by cases e), fun _ e => (by cases e), kit_ty (by decide +kernel)⟩
theorem no_non {K : PySem.W.Frag} {μ : Mu} : Isi K μ .non (.type "int") false := ⟨.type "NoneType", rfl, fun _ e => (by cases e), fun _ e => (by cases e), kit_ty (by decide +kernel)⟩
theorem no_tup {K : PySem.W.Frag} {μ : Mu} {xs : List D} : Isi K μ (.tup xs) (.type "int") false := ⟨.type "tuple", rfl, fun _ e => (by cases e), fun _ e => (by cases e), kit_ty (by decide +kernel)⟩
theorem k72_out (T : Tx K mg) {ex : XD} {E : EndsD} {μ : Mu} {r : Int × Int} (hr : Gd r) {n : Int} (hn : n.natAbs ≤ 10 ^ 41) {rs : List (Int × Int)} (hs : ∀ q ∈ rs, Gd q) {o0 o1 o2 o4 o9 o10 o11 : Option D}
    (hE : ∀ v10 v11, E.nx [o0, o1, o2, some (.lst (rs.map tu)), o4, some (.lst (rs.map (rr K))), some (.int n), some (tu r), some (rr K r), o9, v10, v11] μ) :
    t_law_b2 K ex E [o0, o1, o2, some (.lst (rs.map tu)), o4, some (.lst (rs.map (rr K))), some (.int n), some (tu r), some (rr K r), o9, o10, o11] μ := by
  unfold t_law_b2
  walk_at "rd"
  refine k72_l1 T hr (fun v10 v11 => ?_) rs hs _ _
  have a1 := hr.1
  have a2 := hr.2.1
  have a3 := hr.2.2
  obtain ⟨g, g0, e1, e2, l1, l2, l3⟩ := red_ok r.1 hr.2.1
  walk_at "rd"
  show rIxD (.tup [.int r.1, .int r.2]) (.int 0) μ _
  walk_at "rd"
  show rIxD (.tup [.int r.1, .int r.2]) (.int 1) μ _
  walk_at "rd"
  refine ⟨sm_mul (sm40 (by omega)) (sm40 (by omega)), ?_⟩
  refine ⟨_, _, _, _, n, 1, _, g, rfl, ⟨.inr rfl, .inl ⟨rfl, rfl⟩, .inl rfl, hr.sm.1, hr.sm.2, sm40 hn, sm40 (by decide)⟩, g0, ?_, _, rfl, iteF ?_⟩
  · rw (occs := .pos [1]) [e1]
    rw (occs := .pos [2]) [e2]
    generalize redT r.1 r.2 = x
    generalize redB r.1 r.2 = z
    rw [Int.mul_sub, Int.mul_one, Int.mul_left_comm]
  show rIxD (.tup [.int r.1, .int r.2]) (.int 1) μ _
  walk_at "rd"
  refine ⟨sm_mul (sm40 (by omega)) (sm40 (by omega)), ?_⟩
  show rIxD (.tup [.int r.1, .int r.2]) (.int 0) μ _
  walk_at "rd"
  refine ⟨_, _, n, 1, _, _, _, g, rfl, ⟨.inl ⟨rfl, rfl⟩, .inr rfl, .inr rfl, sm40 hn, sm40 (by decide), hr.sm.1, hr.sm.2⟩, g0, ?_, _, rfl, iteF ?_⟩
  · generalize redT r.1 r.2 = x at e1
    generalize redB r.1 r.2 = z at e2
    rw [e1, e2, Int.mul_sub, Int.mul_one, Int.mul_left_comm]
  refine ⟨_, _, rfl, rfl, _, _, rfl, log40 (by omega), log40 (by omega), fun z => ⟨z, rfl, ?_⟩⟩
  refine own_ty (T := "str") rfl nf_str (fun _ e => by cases e) (.inr ⟨_, _, _, rfl, isi_no (T := "str") rfl (fun _ e => by cases e) T.k_str_Ratio, no_str, _, rfl, _, rfl, iteF ?_⟩)
  refine own_ty (T := "NoneType") rfl nf_none (fun _ e => by cases e) (.inr ⟨_, _, _, rfl, isi_no (T := "NoneType") rfl (fun _ e => by cases e) T.k_NoneType_Ratio, no_non, _, rfl, _, rfl, iteF ?_⟩)
  unfold rr ratD
  walk_at "rd"
  simp only [insOf, Option.some.injEq, Prod.mk.injEq, true_and, exists_eq_left']
  walk_at "fl"
  refine own_ty (T := "tuple") rfl nf_tuple (fun _ e => by cases e) (.inr ⟨_, _, _, rfl, isi_no (T := "tuple") rfl (fun _ e => by cases e) T.k_tuple_Ratio, no_tup, _, rfl, _, rfl, iteF ?_⟩)
  exact hE _ _
theorem k72_l2 (T : Tx K mg) {ex : XD} {E : EndsD} {μ : Mu} {n : Int} (hn : n.natAbs ≤ 10 ^ 41) {rs0 : List (Int × Int)} (hs : ∀ q ∈ rs0, Gd q) {o0 o1 o2 o4 o9 : Option D}
    (hE : ∀ v7 v8 v10 v11, E.nx [o0, o1, o2, some (.lst (rs0.map tu)), o4, some (.lst (rs0.map (rr K))), some (.int n), v7, v8, o9, v10, v11] μ) : ∀ (rs : List (Int × Int)), (∀ q ∈ rs, Gd q) →
    ∀ o7 o8 o10 o11 : Option D, dLoop (.tp [7, 8]) (t_law_b2 K ex) E (zipD (rs.map tu) (rs.map (rr K))) [o0, o1, o2, some (.lst (rs0.map tu)), o4, some (.lst (rs0.map (rr K))), some (.int n), o7, o8, o9, o10, o11] μ
  | [], _, _, _, _, _ => hE _ _ _ _
  | q :: rs, h, _, _, _, _ => ⟨rfl, k72_out T (h q (List.mem_cons_self ..)) hn hs fun _ _ => k72_l2 T hn hs hE rs (fun x hx => h x (List.mem_cons_of_mem _ hx)) _ _ _ _⟩
theorem PoolAt.off {μ μ' : Mu} {p : Addr} (h : PoolAt μ p) (e : μ' p = μ p) : PoolAt μ' p := by
  obtain ⟨g, s, hg, r⟩ := h
  exact ⟨g, s, e.trans hg, r⟩
theorem k72_lc {ρ : SD} (hρ : 9 < ρ.length) {k : List D → Mu → Prop} {μ : Mu} : ∀ (rs : List (Int × Int)), (∀ q ∈ rs, Gd q) → ∀ acc : List D, k (acc ++ rs.map (rr K)) μ →
    lcGo (.nm 9) dYes (dArgs (rMake (He.ga K "Ratio") (sp_Ratio___init__ K)) (dCons (dOp Dl.rIxD (dVar 9) (dC (.int 0))) (dCons (dOp Dl.rIxD (dVar 9) (dC (.int 1))) dNil))) ρ (rs.map tu) acc μ k
  | [], _, acc, h => by rw [List.map_nil, List.append_nil] at h; exact h
  | q :: rs, hq, acc, h => by
    have g := hq q (List.mem_cons_self ..)
    have e : (ρ.set 9 (some (tu q)))[9]? = some (some (tu q)) := by rw [List.getElem?_set_self hρ]
    show (dArgs (rMake (He.ga K "Ratio") (sp_Ratio___init__ K)) (dCons (dOp Dl.rIxD (dVar 9) (dC (.int 0))) (dCons (dOp Dl.rIxD (dVar 9) (dC (.int 1))) dNil))) (ρ.set 9 (some (tu q))) μ _
    simp only [dArgs, dCons, dOp, dVar, dC, dNil, e]
    refine ⟨_, rfl, ?_⟩
    show rIxD (.tup [.int q.1, .int q.2]) (.int 0) μ _
    walk_at "rd"
    show rIxD (.tup [.int q.1, .int q.2]) (.int 1) μ _
    walk_at "rd"
    intro x nx
    have g1 := g.2.1
    have g2 := g.2.2
    refine ⟨x, q.1, q.2, rfl, mput_same, by omega, Nat.lt_of_le_of_lt (m := 10 ^ 40) (by omega) (by decide +kernel), rfl, _, mput_same, ?_⟩
    rw [mput_mput, mdel_mput nx]
    refine k72_lc hρ rs (fun x hx => hq x (List.mem_cons_of_mem _ hx)) _ ?_
    rw [List.append_assoc]
    exact h
theorem fdiv_small {t b : Int} (h : t.natAbs ≤ 10 ^ 30) (hb : 0 < b) : (t.fdiv b).natAbs ≤ 10 ^ 30 := by
  have e := Int.mul_fdiv_add_fmod t b
  obtain ⟨m1, m2⟩ := fmod_rng t hb
  generalize t.fdiv b = x at e ⊢
  by_cases c : 10 ^ 30 < x
  · have : 1 * x ≤ b * x := Int.mul_le_mul_of_nonneg_right (by omega) (by omega)
    omega
  · by_cases c2 : x < -(10 ^ 30)
    · have : 1 * (-(x + 1)) ≤ b * (-(x + 1)) := Int.mul_le_mul_of_nonneg_right (by omega) (by omega)
      have e2 : b * (-(x + 1)) = -(b * x) - b := by
        rw [Int.mul_neg, Int.mul_add, Int.mul_one]
        omega
      omega
    · omega
theorem k72_main (T : Tx K mg) {ex : XD} {ns : List Int} (hl : ns.length ≤ 63) {E : EndsD} {i : Int} (h0 : 0 ≤ i) (h63 : i ≤ 63) {μ : Mu} {o2 o3 o4 o5 o6 o7 o8 o9 o10 o11 : Option D}
    (hE : ∀ v2 v3 v4 v5 v6 v7 v8 v9 v10 v11 μ', E.nx [some (.lst (ns.map .int)), some (.int i), v2, v3, v4, v5, v6, v7, v8, v9, v10, v11] μ') :
    t_law_b3 K ex E [some (.lst (ns.map .int)), some (.int i), o2, o3, o4, o5, o6, o7, o8, o9, o10, o11] μ := by
  unfold t_law_b3
  walk_at "rd"
  refine ⟨ns, i, rfl, h0, h63, fun p μ1 np p1 f1 => ?_⟩
  refine ⟨p, rfl, p1, fun t1 b1 μ2 x1 x2 x3 p2 f2 => ?_⟩
  refine ⟨p, rfl, p2, fun t2 b2 μ3 y1 y2 y3 p3 f3 => ?_⟩
  refine ⟨p, rfl, p3, fun t3 b3 μ4 z1 z2 z3 p4 f4 pr nr => ?_⟩
  have npr : p ≠ pr := fun e => by
    obtain ⟨g, s, hg, _⟩ := p4
    rw [← e, hg] at nr
    cases nr
  refine ⟨⟨by decide, by decide, by decide⟩, p, 1000000, rfl, p4.off (mput_ne npr), by decide, by decide, fun r5 μ5 c1 c2 p5 f5 => ?_⟩
  have e5 : μ5 pr = some (.lst [.tup [.int t1, .int b1], .tup [.int t2, .int b2], .tup [.int t3, .int b3]]) := (f5 pr npr.symm).trans mput_same
  walk_at "rd"
  refine ⟨⟨_, e5⟩, _, e5, _, rfl, ?_⟩
  walk_at "rd"
  refine ⟨sm_mul (sm40 (by omega)) (sm40 (by omega)), ?_⟩
  refine ⟨p, 3, rfl, p5, by decide, by decide, fun r6 μ6 d1 d2 p6 f6 => ?_⟩
  have e6 : μ6 pr = some (.lst [.tup [.int t1, .int b1], .tup [.int t2, .int b2], .tup [.int t3, .int b3]]) := (f6 pr npr.symm).trans e5
  walk_at "rd"
  refine ⟨_, e6, _, rfl, ?_⟩
  walk_at "rd"
  refine ⟨sm_mul (sm40 (by omega)) (sm40 (by omega)), _, e6, Nat.le_of_ble_eq_true rfl, ?_⟩
  have hs : ∀ q ∈ [(t1, b1), (t2, b2), (t3, b3), (t1 * (1 + r5) + r6 - 1, b1 * (1 + r5))], Gd q := by
    have m1 : b1 * (1 + r5) ≤ 10 ^ 30 * 10 ^ 6 := Int.mul_le_mul x3 (by omega) (by omega) (by decide)
    have m2 : 0 < b1 * (1 + r5) := Int.mul_pos x2 (by omega)
    have m3 : (t1 * (1 + r5)).natAbs ≤ 10 ^ 30 * 10 ^ 6 := by
      rw [Int.natAbs_mul]
      exact Nat.mul_le_mul x1 (by omega)
    intro q hq
    simp only [List.mem_cons, List.not_mem_nil, or_false] at hq
    rcases hq with rfl | rfl | rfl | rfl
    · exact ⟨show t1.natAbs ≤ _ by omega, x2, show b1 ≤ _ by omega⟩
    · exact ⟨show t2.natAbs ≤ _ by omega, y2, show b2 ≤ _ by omega⟩
    · exact ⟨show t3.natAbs ≤ _ by omega, z2, show b3 ≤ _ by omega⟩
    · exact ⟨show (t1 * (1 + r5) + r6 - 1).natAbs ≤ _ by omega, m2, show b1 * (1 + r5) ≤ _ by omega⟩
  refine ⟨Nat.le_of_ble_eq_true rfl, ?_⟩
  refine k72_lc (K := K) (by simp only [List.length_cons]; omega) [(t1, b1), (t2, b2), (t3, b3), (t1 * (1 + r5) + r6 - 1, b1 * (1 + r5))] hs [] ?_
  refine ⟨_, rfl, ?_⟩
  walk_at "rd"
  refine ⟨⟨by omega, log30 y2 y3⟩, p, 2, rfl, ?_, by decide, by decide, fun r7 μ7 g1 g2 p7 f7 => ?_⟩
  · refine p6.off ?_
    rw [mdel_ne npr, mput_ne npr]
  walk_at "rd"
  refine k72_l2 T (n := t2.fdiv b2 + r7) ?_ hs (fun v7 v8 v10 v11 => hE _ _ _ _ _ _ _ _ _ _ _) [(t1, b1), (t2, b2), (t3, b3), (t1 * (1 + r5) + r6 - 1, b1 * (1 + r5))] hs _ _ _ _
  have q0 := fdiv_small y1 y2
  omega
theorem k72_loop (T : Tx K mg) {ex : XD} {ns : List Int} (hl : ns.length ≤ 63) {E : EndsD} (hE : ∀ ρ μ, E.nx ρ μ) : ∀ (n : Nat) (lo : Int) (μ : Mu), 0 ≤ lo → lo + n ≤ 64 → ∀ o1 o2 o3 o4 o5 o6 o7 o8 o9 o10 o11 : Option D,
    dLoop (.nm 1) (t_law_b3 K ex) E (rngD lo n) [some (.lst (ns.map .int)), o1, o2, o3, o4, o5, o6, o7, o8, o9, o10, o11] μ := by
  intro n
  induction n with
  | zero => intro lo μ _ _ o1 o2 o3 o4 o5 o6 o7 o8 o9 o10 o11; exact hE _ _
  | succ n ih =>
    intro lo μ h0 h1 o1 o2 o3 o4 o5 o6 o7 o8 o9 o10 o11
    rw [rng_succ]
    walk_at "lp"
    walk_at "rd"
    refine k72_main T hl h0 (by omega) fun v2 v3 v4 v5 v6 v7 v8 v9 v10 v11 μ' => ?_
    exact ih (lo + 1) μ' (by omega) (by omega) _ _ _ _ _ _ _ _ _ _ _
def t_law (K : PySem.W.Frag) (ex : XD) : TSD :=
  (dSeq (dFor (dRange1 (dCons (dArgs (rInt2 fun i j => .int (if j > i then j else i)) (dCons (dC (.int 1)) (dCons (dArgs (rInt2 fun i j => .int (if j < i then j else i)) (dCons (dArgs rLenD (dCons (dVar 0) dNil)) (dCons (dC (.int 6)) dNil))) dNil))) dNil)) (.nm 1) (t_law_b3 K ex))
  (dRet (dC (.bl true))))
set_option maxHeartbeats 4000000 in
theorem ok_law (T : Tx K mg) : ∃ fd, FunD K "law" "law" (defArgs s_law) (defBody s_law) (defScope s_law) [] [] (He.fAd K ("law", none)) fd ∧ Binds K fd ["_law_script"] [] ∧ FnOk P w K mg base (CXe P w) 6 (He.fAd K ("law", none)) fd ["_law_script"] (lSp K (sp_law K)) := by
  obtain ⟨fd, F⟩ := T.d_law
  refine ⟨fd, F, F.bindsN (fun _ _ _ _ _ _ us hl => match us, hl with | [_], _ => rfl), ?_⟩
  refine okD (t := t_law K) F sc_law ?l ?b ?r
  case l =>
    intro ds μ k ex h
    obtain ⟨_, rfl, _⟩ := h; rfl
  case b =>
    intro cdv A outer s H E B ex hr tk
    have hp := passes_of (X := cxOf (CXe P w) P w K mg base law_N "law" (defScope s_law) (He.fAd K ("law", none)) cdv A outer s H E) rfl
    exact (pdb_cons (pds_for (p := (.nm 1)) hp rfl (pdi_range1 T.no_range (pda_cons (pd_fnB (cd_max2 rfl) T.no_max (pda_cons pd_int (pda_cons (pd_fnB (cd_min2 rfl) T.no_min (pda_cons (pd_fnB cd_len T.no_len (pda_cons (pd_var 0) pda_nil)) (pda_cons pd_int pda_nil))) pda_nil))) pda_nil)) (pg_name (i := 1) sc_law.nd rfl (by first | exact Or.inl rfl | exact Or.inr rfl)) (pdb_cons (pds_set (i := 2) sc_law.nd (pd_call (fn__law_pool (P := P) (w := w) (base := base) T) (hr.mono (by decide)) (pda_cons (pd_var 0) (pda_cons (pd_var 1) pda_nil))))
    (pdb_cons (pds_set (i := 3) sc_law.nd (pd_lstM (pda_cons (pd_call (fn__law_drawn (P := P) (w := w) (base := base) T) (hr.mono (by decide)) (pda_cons (pd_var 2) pda_nil)) (pda_cons (pd_call (fn__law_drawn (P := P) (w := w) (base := base) T) (hr.mono (by decide)) (pda_cons (pd_var 2) pda_nil)) (pda_cons (pd_call (fn__law_drawn (P := P) (w := w) (base := base) T) (hr.mono (by decide)) (pda_cons (pd_var 2) pda_nil)) pda_nil)))))
    (pdb_cons (pds_set (i := 4) sc_law.nd (pd_op od_add pd_int (pd_call (fn__law_take (P := P) (w := w) (base := base) T) (hr.mono (by decide)) (pda_cons (pd_var 2) (pda_cons (pd_op od_pow pd_int pd_int) pda_nil)))))
    (pdb_cons (pds_expr (pd_app (pd_var 3) (pda_cons (pd_tup (pda_cons (pd_op od_sub (pd_op od_add (pd_op od_mul (pd_ix (pd_ix (pd_var 3) pd_int) pd_int) (pd_var 4)) (pd_call (fn__law_take (P := P) (w := w) (base := base) T) (hr.mono (by decide)) (pda_cons (pd_var 2) (pda_cons pd_int pda_nil)))) pd_int) (pda_cons (pd_op od_mul (pd_ix (pd_ix (pd_var 3) pd_int) pd_int) (pd_var 4)) pda_nil))) pda_nil)))
    (pdb_cons (pds_frz 3 (pds_setLc (i := 5) (p := (.nm 9)) (own := [("_law_row", 9)]) rfl sc_law.nd (pdi_list (pd_var 3)) (blkOk_by (own := [("_law_row", 9)]) (N := law_N) (sc := defScope s_law) (by decide +kernel)) (fun _ _ _ _ _ => (pg_name (i := 9) sc_law.nd rfl (by first | exact Or.inl rfl | exact Or.inr rfl))) (fun _ _ _ _ _ => pts_yes) (fun _ _ _ _ _ f => (pd_make (mk_Ratio (P := P) (w := w) (base := base) T) (hr.mono (by decide)) (pda_cons (pd_ix (pd_var 9) pd_int) (pda_cons (pd_ix (pd_var 9) pd_int) pda_nil))))))
    (pdb_cons (pds_set (i := 6) sc_law.nd (pd_op od_add (pd_op od_fdiv (pd_ix (pd_ix (pd_var 3) pd_int) pd_int) (pd_ix (pd_ix (pd_var 3) pd_int) pd_int)) (pd_call (fn__law_take (P := P) (w := w) (base := base) T) (hr.mono (by decide)) (pda_cons (pd_var 2) (pda_cons pd_int pda_nil)))))
    (pdb_one (pds_for (p := (.tp [7, 8])) hp rfl (pdi_zip T.no_zip (pda_cons (pd_var 3) (pda_cons (pd_var 5) pda_nil))) (pg_tup rfl (pgs_cons (pg_name (i := 7) sc_law.nd rfl (by first | exact Or.inl rfl | exact Or.inr rfl)) (pgs_cons (pg_name (i := 8) sc_law.nd rfl (by first | exact Or.inl rfl | exact Or.inr rfl)) pgs_nil))) (pdb_cons (pds_for (p := (.tp [10, 11])) hp rfl (pdi_zip T.no_zip (pda_cons (pd_var 3) (pda_cons (pd_var 5) pda_nil))) (pg_tup rfl (pgs_cons (pg_name (i := 10) sc_law.nd rfl (by first | exact Or.inl rfl | exact Or.inr rfl)) (pgs_cons (pg_name (i := 11) sc_law.nd rfl (by first | exact Or.inl rfl | exact Or.inr rfl)) pgs_nil))) (pdb_one (pds_if (pdt_not (pdt_val (pd_call (fn__law_right (P := P) (w := w) (base := base) T) (hr.mono (by decide)) (pda_cons (pd_var 8) (pda_cons (pd_var 11) (pda_cons (pd_op od_sub (pd_op od_mul (pd_ix (pd_var 7) pd_int) (pd_ix (pd_var 10) pd_int)) (pd_op od_mul (pd_ix (pd_var 10) pd_int) (pd_ix (pd_var 7) pd_int))) pda_nil)))))) (pdb_one (pds_ret pd_bl)) pdb_nil)))
    (pdb_cons (pds_if (pdt_not (pdt_val (pd_call (fn__law_right (P := P) (w := w) (base := base) T) (hr.mono (by decide)) (pda_cons (pd_var 8) (pda_cons (pd_var 6) (pda_cons (pd_op od_sub (pd_ix (pd_var 7) pd_int) (pd_op od_mul (pd_var 6) (pd_ix (pd_var 7) pd_int))) pda_nil)))))) (pdb_one (pds_ret pd_bl)) pdb_nil)
    (pdb_cons (pds_if (pdt_not (pdt_val (pd_call (fn__law_right (P := P) (w := w) (base := base) T) (hr.mono (by decide)) (pda_cons (pd_var 6) (pda_cons (pd_var 8) (pda_cons (pd_op od_sub (pd_op od_mul (pd_var 6) (pd_ix (pd_var 7) pd_int)) (pd_ix (pd_var 7) pd_int)) pda_nil)))))) (pdb_one (pds_ret pd_bl)) pdb_nil)
    (pdb_one (pds_if (pdt_w (pdw_or (pdt_cmp (od_own (op_Ratio___eq__ (P := P) (w := w) (base := base) T) (hr.mono (by decide))) (pd_var 8) (pd_fnT (cd_strO (op_Ratio___str__ (P := P) (w := w) (base := base) T) (hr.mono (by decide))) T.no_str (pda_cons (pd_var 8) pda_nil)) (nomark _)) (pdw_or (pdt_cmp (od_own (op_Ratio___eq__ (P := P) (w := w) (base := base) T) (hr.mono (by decide))) (pd_var 8) pd_non (nomark _)) (pdw_or1 (pdt_cmp (od_own (op_Ratio___eq__ (P := P) (w := w) (base := base) T) (hr.mono (by decide))) (pd_var 8) (pd_tup (pda_cons (pd_fld T.fld_Ratio_top (pd_var 8)) (pda_cons (pd_fld T.fld_Ratio_bottom (pd_var 8)) pda_nil))) (nomark _)))))) (pdb_one (pds_ret pd_bl)) pdb_nil))))))))))))))
    (pdb_one (pds_ret pd_bl)))
  case r =>
    intro ds μ k ex h
    unfold t_law
    obtain ⟨ns, rfl, hl, h⟩ := h
    walk_at "rd"
    rw [List.length_map]
    refine ⟨by (repeat' split) <;> omega, by (repeat' split) <;> omega, ?_⟩
    refine k72_loop T hl (fun ρ μ => ?_) _ _ _ (by decide) (by (repeat' split) <;> omega) _ _ _ _ _ _ _ _ _ _ _
    exact h μ
end
section
variable {P : Program} {w : World} {K : PySem.W.Frag} {mg : Str → Option Value} {base : Heap}
theorem law_ok (T : Tx K mg) {fd : FuncData} (F : FunD K "law" "law" (defArgs s_law) (defBody s_law) (defScope s_law) [] [] (He.fAd K ("law", none)) fd) : FnOk P w K mg base (CXe P w) 6 (He.fAd K ("law", none)) fd ["_law_script"] (lSp K (sp_law K)) := by
  obtain ⟨fd2, F2, hb, ok⟩ := ok_law (P := P) (w := w) (base := base) T
  have e : fd = fd2 := fd_same F F2
  rw [e]
  exact ok
theorem law_end (K : PySem.W.Frag) (ns : List Int) (hl : ns.length ≤ 63) (μ : Mu) : sp_law K [.lst (ns.map D.int)] μ (fun d _ => d = .bl true) x0 := ⟨ns, rfl, hl, fun _ => rfl⟩
end
/-! ### the head -/
def dd_law : DefA := ⟨fun K => He.fAd K ("law", none), "law", "law", defArgs s_law, defBody s_law, defScope s_law, [], []⟩
def dd_Ratio___eq__ : DefA := ⟨fun K => He.fAd K ("Ratio", some "__eq__"), "__eq__", "Ratio.__eq__", defArgs s_Ratio___eq__, defBody s_Ratio___eq__, defScope s_Ratio___eq__, [], []⟩
def dd_gap_of : DefA := ⟨fun K => He.fAd K ("gap_of", none), "gap_of", "gap_of", defArgs s_gap_of, defBody s_gap_of, defScope s_gap_of, [], []⟩
def dd_top_of : DefA := ⟨fun K => He.fAd K ("top_of", none), "top_of", "top_of", defArgs s_top_of, defBody s_top_of, defScope s_top_of, [], []⟩
def dd_bottom_of : DefA := ⟨fun K => He.fAd K ("bottom_of", none), "bottom_of", "bottom_of", defArgs s_bottom_of, defBody s_bottom_of, defScope s_bottom_of, [], []⟩
def dd_is_term : DefA := ⟨fun K => He.fAd K ("is_term", none), "is_term", "is_term", defArgs s_is_term, defBody s_is_term, defScope s_is_term, [], []⟩
def dd_is_integer : DefA := ⟨fun K => He.fAd K ("is_integer", none), "is_integer", "is_integer", defArgs s_is_integer, defBody s_is_integer, defScope s_is_integer, [], []⟩
def dd_Ratio___str__ : DefA := ⟨fun K => He.fAd K ("Ratio", some "__str__"), "__str__", "Ratio.__str__", defArgs s_Ratio___str__, defBody s_Ratio___str__, defScope s_Ratio___str__, [], []⟩
def dd__law_right : DefA := ⟨fun K => He.fAd K ("_law_right", none), "_law_right", "_law_right", defArgs s__law_right, defBody s__law_right, defScope s__law_right, [], []⟩
def dd_Ratio___gt__ : DefA := ⟨fun K => He.fAd K ("Ratio", some "__gt__"), "__gt__", "Ratio.__gt__", defArgs s_Ratio___gt__, defBody s_Ratio___gt__, defScope s_Ratio___gt__, [], []⟩
def dd_Ratio___lt__ : DefA := ⟨fun K => He.fAd K ("Ratio", some "__lt__"), "__lt__", "Ratio.__lt__", defArgs s_Ratio___lt__, defBody s_Ratio___lt__, defScope s_Ratio___lt__, [], []⟩
def dd_Ratio___ge__ : DefA := ⟨fun K => He.fAd K ("Ratio", some "__ge__"), "__ge__", "Ratio.__ge__", defArgs s_Ratio___ge__, defBody s_Ratio___ge__, defScope s_Ratio___ge__, [], []⟩
def dd_Ratio___le__ : DefA := ⟨fun K => He.fAd K ("Ratio", some "__le__"), "__le__", "Ratio.__le__", defArgs s_Ratio___le__, defBody s_Ratio___le__, defScope s_Ratio___le__, [], []⟩
def dd__law_take : DefA := ⟨fun K => He.fAd K ("_law_take", none), "_law_take", "_law_take", defArgs s__law_take, defBody s__law_take, defScope s__law_take, [], []⟩
def dd_Ratio___init__ : DefA := ⟨fun K => He.fAd K ("Ratio", some "__init__"), "__init__", "Ratio.__init__", defArgs s_Ratio___init__, defBody s_Ratio___init__, defScope s_Ratio___init__, [.int 1], []⟩
def dd_shared_divisor : DefA := ⟨fun K => He.fAd K ("shared_divisor", none), "shared_divisor", "shared_divisor", defArgs s_shared_divisor, defBody s_shared_divisor, defScope s_shared_divisor, [], []⟩
def dd__law_drawn : DefA := ⟨fun K => He.fAd K ("_law_drawn", none), "_law_drawn", "_law_drawn", defArgs s__law_drawn, defBody s__law_drawn, defScope s__law_drawn, [], []⟩
def dd__law_pool : DefA := ⟨fun K => He.fAd K ("_law_pool", none), "_law_pool", "_law_pool", defArgs s__law_pool, defBody s__law_pool, defScope s__law_pool, [], []⟩
def fbs : List Fb := [.fa (.glo "law"), .fa (.free "len"), .fa (.free "min"), .fa (.free "max"), .fa (.free "range"), .fa (.free "zip"), .fa (.glo "Ratio"), .fa (.free "isinstance"), .fa (.cls "Ratio"), .fa (.noat "Ratio" "top"), .fa (.noat "Ratio" "bottom"), .fa (.free "bool"), .fa (.free "int"), .fa (.free "str"), .fa (.free "repr"), .subT "Ratio" "int" false, .ne "Ratio", .fa (.free "abs"), .fa (.glo "top_of"), .fa (.glo "bottom_of"), .fa (.glo "gap_of"), .fa (.glo "is_integer"), .fa (.glo "is_term"), .fa (.meth "Ratio" "__eq__"), .fa (.meth "Ratio" "__str__"), .fa (.meth "Ratio" "__gt__"), .fa (.meth "Ratio" "__lt__"), .fa (.meth "Ratio" "__ge__"), .fa (.meth "Ratio" "__le__"), .fa (.glo "_law_right"), .fa (.glo "_law_take"), .fa (.glo "shared_divisor"), .fa (.mkr "Ratio"), .fa (.glo "_law_drawn"), .fa (.glo "_law_pool"), .insc "Ratio", .kitT "int" "Ratio" false, .kitT "tuple" "Ratio" false, .kitT "NoneType" "Ratio" false, .kitT "str" "Ratio" false]
def fns : List DefA := [dd_law, dd_Ratio___eq__, dd_gap_of, dd_top_of, dd_bottom_of, dd_is_term, dd_is_integer, dd_Ratio___str__, dd__law_right, dd_Ratio___gt__, dd_Ratio___lt__, dd_Ratio___ge__, dd_Ratio___le__, dd__law_take, dd_Ratio___init__, dd_shared_divisor, dd__law_drawn, dd__law_pool]
abbrev R : PySem.W.OpenRow := PySem.W.OpenLaw.row PySem.Challenge.rw_switchforms_k72_whole_ratios_in_order
abbrev hk : PySem.W.Hook := hookZ 5 fbs fns
def ob (s : PySem.W.SharedT) : AlZ := obsZG 5 fbs fns (HandSHeadRun.getT s)
theorem ob_eq (s : PySem.W.SharedT) : ob s = hk.obs s.abs := obsZG_eq (HandSHeadRun.getT_eq s)
def names0 : List Str := ["_wall", "SwitchError", "BadNumber", "NoQuotient", "BadRatio", "DIGITS", "is_numeral", "is_integer", "MOST_DIGITS", "shared_divisor", "is_term", "top_of", "bottom_of", "sum_of", "difference_of", "quotient_of", "whole_quotient", "gap_of", "Ratio", "_law_pool", "_law_take", "_law_drawn", "_law_right"]
def names : List Str := names0
set_option maxHeartbeats 0 in
theorem run (w : World) : HandSHeadRun.RunEq R (PySem.W.view R.prog [28]) hk ob 20000 names w := by
  intro os
  kernel_rfl
theorem facts {K : PySem.W.Frag} {h : Heap} {mg : Str → Option Value} (X : K.In h) (G : h.Ns mainGlobals mg) (c : SaysZ fbs fns K) : Tx K mg where
  g_law := He.glo_ok X G (c.fact 0 (f := .fa (.glo "law")) rfl)
  d_law := c.def_ 0 (d := dd_law) rfl
  no_len := He.free_ok X G (c.fact 1 (f := .fa (.free "len")) rfl)
  no_min := He.free_ok X G (c.fact 2 (f := .fa (.free "min")) rfl)
  no_max := He.free_ok X G (c.fact 3 (f := .fa (.free "max")) rfl)
  no_range := He.free_ok X G (c.fact 4 (f := .fa (.free "range")) rfl)
  no_zip := He.free_ok X G (c.fact 5 (f := .fa (.free "zip")) rfl)
  d_Ratio___eq__ := c.def_ 1 (d := dd_Ratio___eq__) rfl
  d_gap_of := c.def_ 2 (d := dd_gap_of) rfl
  d_top_of := c.def_ 3 (d := dd_top_of) rfl
  g_Ratio := He.glo_ok X G (c.fact 6 (f := .fa (.glo "Ratio")) rfl)
  no_isinstance := He.free_ok X G (c.fact 7 (f := .fa (.free "isinstance")) rfl)
  fld_Ratio_top := ⟨He.cls_ok (c.fact 8 (f := .fa (.cls "Ratio")) rfl), He.noat_ok (c.fact 9 (f := .fa (.noat "Ratio" "top")) rfl)⟩
  d_bottom_of := c.def_ 4 (d := dd_bottom_of) rfl
  fld_Ratio_bottom := ⟨He.cls_ok (c.fact 8 (f := .fa (.cls "Ratio")) rfl), He.noat_ok (c.fact 10 (f := .fa (.noat "Ratio" "bottom")) rfl)⟩
  d_is_term := c.def_ 5 (d := dd_is_term) rfl
  d_is_integer := c.def_ 6 (d := dd_is_integer) rfl
  no_bool := He.free_ok X G (c.fact 11 (f := .fa (.free "bool")) rfl)
  no_int := He.free_ok X G (c.fact 12 (f := .fa (.free "int")) rfl)
  d_Ratio___str__ := c.def_ 7 (d := dd_Ratio___str__) rfl
  no_str := He.free_ok X G (c.fact 13 (f := .fa (.free "str")) rfl)
  d__law_right := c.def_ 8 (d := dd__law_right) rfl
  no_repr := He.free_ok X G (c.fact 14 (f := .fa (.free "repr")) rfl)
  d_Ratio___gt__ := c.def_ 9 (d := dd_Ratio___gt__) rfl
  d_Ratio___lt__ := c.def_ 10 (d := dd_Ratio___lt__) rfl
  si_Ratio := subT_ok (c.fact 15 (f := .subT "Ratio" "int" false) rfl)
  d_Ratio___ge__ := c.def_ 11 (d := dd_Ratio___ge__) rfl
  d_Ratio___le__ := c.def_ 12 (d := dd_Ratio___le__) rfl
  ne_Ratio := ne_ok (c.fact 16 (f := .ne "Ratio") rfl)
  d__law_take := c.def_ 13 (d := dd__law_take) rfl
  d_Ratio___init__ := c.def_ 14 (d := dd_Ratio___init__) rfl
  d_shared_divisor := c.def_ 15 (d := dd_shared_divisor) rfl
  no_abs := He.free_ok X G (c.fact 17 (f := .fa (.free "abs")) rfl)
  d__law_drawn := c.def_ 16 (d := dd__law_drawn) rfl
  d__law_pool := c.def_ 17 (d := dd__law_pool) rfl
  g_top_of := He.glo_ok X G (c.fact 18 (f := .fa (.glo "top_of")) rfl)
  g_bottom_of := He.glo_ok X G (c.fact 19 (f := .fa (.glo "bottom_of")) rfl)
  g_gap_of := He.glo_ok X G (c.fact 20 (f := .fa (.glo "gap_of")) rfl)
  g_is_integer := He.glo_ok X G (c.fact 21 (f := .fa (.glo "is_integer")) rfl)
  g_is_term := He.glo_ok X G (c.fact 22 (f := .fa (.glo "is_term")) rfl)
  me_Ratio___eq__ := He.meth_ok (c.fact 23 (f := .fa (.meth "Ratio" "__eq__")) rfl)
  me_Ratio___str__ := He.meth_ok (c.fact 24 (f := .fa (.meth "Ratio" "__str__")) rfl)
  me_Ratio___gt__ := He.meth_ok (c.fact 25 (f := .fa (.meth "Ratio" "__gt__")) rfl)
  me_Ratio___lt__ := He.meth_ok (c.fact 26 (f := .fa (.meth "Ratio" "__lt__")) rfl)
  me_Ratio___ge__ := He.meth_ok (c.fact 27 (f := .fa (.meth "Ratio" "__ge__")) rfl)
  me_Ratio___le__ := He.meth_ok (c.fact 28 (f := .fa (.meth "Ratio" "__le__")) rfl)
  g__law_right := He.glo_ok X G (c.fact 29 (f := .fa (.glo "_law_right")) rfl)
  g__law_take := He.glo_ok X G (c.fact 30 (f := .fa (.glo "_law_take")) rfl)
  g_shared_divisor := He.glo_ok X G (c.fact 31 (f := .fa (.glo "shared_divisor")) rfl)
  m_Ratio := He.mkr_ok (c.fact 32 (f := .fa (.mkr "Ratio")) rfl)
  g__law_drawn := He.glo_ok X G (c.fact 33 (f := .fa (.glo "_law_drawn")) rfl)
  g__law_pool := He.glo_ok X G (c.fact 34 (f := .fa (.glo "_law_pool")) rfl)
  ic_Ratio := insc_ok (c.fact 35 (f := .insc "Ratio") rfl)
  k_int_Ratio := kitT_ok (c.fact 36 (f := .kitT "int" "Ratio" false) rfl)
  k_tuple_Ratio := kitT_ok (c.fact 37 (f := .kitT "tuple" "Ratio" false) rfl)
  k_NoneType_Ratio := kitT_ok (c.fact 38 (f := .kitT "NoneType" "Ratio" false) rfl)
  k_str_Ratio := kitT_ok (c.fact 39 (f := .kitT "str" "Ratio" false) rfl)
end Lk
open PySem PySem.W PySem.Calls PyProof.Rows
set_option maxHeartbeats 0 in
theorem PySem.Challenge.cw_switchforms_k72_whole_ratios_in_order_holds : PySem.Challenge.rw_switchforms_k72_whole_ratios_in_order.Holds := by
  w_on; o_law
  refine HandSHeadRun.head_any (r := OpenLaw.row PySem.Challenge.rw_switchforms_k72_whole_ratios_in_order) (q := view (OpenLaw.row PySem.Challenge.rw_switchforms_k72_whole_ratios_in_order).prog [28]) (H := Lk.hk) (ob := Lk.ob) (M := 20000) (loose := Lk.names) (d := HandSHeadRun.topDef (OpenLaw.row PySem.Challenge.rw_switchforms_k72_whole_ratios_in_order).prog 28) (kwd := []) Lk.ob_eq
    (by kernel_rfl) (fun s => by kernel_rfl) Lk.run (by kernel_rfl) (by kernel_rfl) (by kernel_rfl) (by rfl) (by first | assumption | decide +kernel) (by decide +kernel) ⟨rfl, rfl, rfl, rfl, rfl, by decide +kernel⟩ ?hw ?hc
  case hw => w_witness2
  case hc =>
    refine L2.walk_ofE2 (l := PySem.Challenge.rw_switchforms_k72_whole_ratios_in_order) (n := 63) (k := 6) (x := "_law_script") (CX := fun w => Dl.CXe (PySem.Challenge.rw_switchforms_k72_whole_ratios_in_order).prog w) rfl (by decide) (by kernel_rfl) ⟨rfl, by decide, by decide⟩ ?F (fun w _ _ _ _ z => Dl.cxe_none z)
    intro w mg fa h Y G hmg0
    obtain ⟨K, KX, c⟩ := Y
    have T := Lk.facts KX G c
    have hmg : mg ("law" : PySem.Str) = some (.ref fa) := by
      have e : (HandSHeadRun.topDef (OpenLaw.row PySem.Challenge.rw_switchforms_k72_whole_ratios_in_order).prog 28).name = ("law" : PySem.Str) := by kernel_rfl
      rw [← e]
      exact hmg0
    have e := hmg.symm.trans T.g_law
    cases e
    obtain ⟨fd, F⟩ := T.d_law
    have b := L2.FunD.bindsA (ps := ["_law_script"]) F fun _ _ _ _ _ _ us hl => match us, hl with | [_], _ => rfl
    exact ⟨K, fd, Dl.lSp K (Lk.sp_law K), KX, fun s v => b s [v] rfl, fun H a ns hl _ hS => Dl.end_sp hS fun μ => Lk.law_end K ns hl μ, fun base _ _ => Lk.law_ok T F⟩
