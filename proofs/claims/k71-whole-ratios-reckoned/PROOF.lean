import PyProof.Rows.All
import Wide.All
import OpenK.AllK
import Wide.FinOn
import HandS.ForMost
import HandS.ForExc
import HandS.OwnEq
import HandS.Star
import HandS.ExcInit
import HandS.TryMany
import HandS.ExcField
import HandS.ExcIs
import HandS.Defaults
import HandS.Wide
import HandS.ClsMeth
import HandS.FStr
import HandS.Flow
import HandS.IsInst
import HandS.Walk
import HandS.Zip
import HandS.Conv
import HandS.Head0
import HandS.Head1
import HandS.Head2
import HandS.HeadEnd
import HandS.HeadHook1
import HandS.HeadHook2
import HandS.HeadHook3
import HandS.HeadHook4
import HandS.HeadNt
import HandS.EndBits
import HandS.StrMore
import KE.KStateDown
import KE.KOpsOwn
import HandS.MakeKw
import PySem.Challenge.RW_switchforms_k71_whole_ratios_reckoned
set_option Elab.async false
set_option linter.all false
set_option maxRecDepth 100000
set_option maxHeartbeats 1000000
namespace Dl
open PySem L2
/-! ### data: what a value is, without the heap; ref a: a thing that may change (it stands in the store), a def, a class -/
inductive D where
  | non | bl (b : Bool) | int (i : Int) | str (x : Str) | ty (n : String) | ref (a : Addr)
  | tup (xs : List D) | lst (xs : List D)
  | ins (C : Addr) (fs : List (Str × D))
  | dK (kvs : List (Key × D)) | dT (kvs : List (List Key × D))
instance : Inhabited D := ⟨.non⟩
/-- what may change -/
inductive MO where
  | lst (xs : List D)
  | ins (C : Addr) (fs : List (Str × D))
  | dK (kvs : List (Key × D)) | dT (kvs : List (List Key × D))
abbrev Mu := Addr → Option MO
def mput (μ : Mu) (a : Addr) (o : MO) : Mu := fun b => if b = a then some o else μ b
def mdel (μ : Mu) (a : Addr) : Mu := fun b => if b = a then none else μ b
theorem mput_same {μ : Mu} {a : Addr} {o : MO} : mput μ a o a = some o := if_pos rfl
theorem mput_ne {μ : Mu} {a b : Addr} {o : MO} (h : b ≠ a) : mput μ a o b = μ b := if_neg h
theorem mdel_same {μ : Mu} {a : Addr} : mdel μ a a = none := if_pos rfl
theorem mdel_ne {μ : Mu} {a b : Addr} (h : b ≠ a) : mdel μ a b = μ b := if_neg h
theorem mput_mput {μ : Mu} {a : Addr} {o u : MO} : mput (mput μ a o) a u = mput μ a u := by
  funext b; unfold mput; split <;> rfl
theorem mdel_mput {μ : Mu} {a : Addr} {o : MO} (h : μ a = none) : mdel (mput μ a o) a = μ := by
  funext b; unfold mdel mput; split
  · rename_i e; rw [e, h]
  · rfl
/-! ### what stands in the heap -/
mutual
inductive At (K : PySem.W.Frag) (G : Hp) : V → D → Prop where
  | non : At K G .non .non
  | bl (b : Bool) : At K G (.bl b) (.bl b)
  | int (i : Int) : At K G (.int i) (.int i)
  | str (x : Str) : At K G (.str x) (.str x)
  | ty (n : String) : At K G (.ty n) (.ty n)
  | ref (a : Addr) : At K G (.ref a) (.ref a)
  | tup {a : Addr} {vs : List V} {ds : List D} : SqT K G a vs → Ats K G vs ds → At K G (.ref a) (.tup ds)
  | lst {a : Addr} {vs : List V} {ds : List D} : SqL K G a vs → Ats K G vs ds → At K G (.ref a) (.lst ds)
  | ins {a C dx : Addr} {fs : List (Str × V)} {ds : List (Str × D)} : G a = some (.ins C dx fs) → Atf K G fs ds → At K G (.ref a) (.ins C ds)
  | dK {a : Addr} {kvs : List (Key × V)} {ds : List (Key × D)} : Rd G a (.dK kvs) → Atk K G kvs ds → At K G (.ref a) (.dK ds)
  | dT {a : Addr} {kvs : List (List Key × V)} {ds : List (List Key × D)} : Rd G a (.dT kvs) → Att K G kvs ds → At K G (.ref a) (.dT ds)
inductive Ats (K : PySem.W.Frag) (G : Hp) : List V → List D → Prop where
  | nil : Ats K G [] []
  | cons {v : V} {d : D} {vs : List V} {ds : List D} : At K G v d → Ats K G vs ds → Ats K G (v :: vs) (d :: ds)
inductive Atf (K : PySem.W.Frag) (G : Hp) : List (Str × V) → List (Str × D) → Prop where
  | nil : Atf K G [] []
  | cons {f : Str} {v : V} {d : D} {vs : List (Str × V)} {ds : List (Str × D)} : At K G v d → Atf K G vs ds → Atf K G ((f, v) :: vs) ((f, d) :: ds)
inductive Atk (K : PySem.W.Frag) (G : Hp) : List (Key × V) → List (Key × D) → Prop where
  | nil : Atk K G [] []
  | cons {f : Key} {v : V} {d : D} {vs : List (Key × V)} {ds : List (Key × D)} : At K G v d → Atk K G vs ds → Atk K G ((f, v) :: vs) ((f, d) :: ds)
inductive Att (K : PySem.W.Frag) (G : Hp) : List (List Key × V) → List (List Key × D) → Prop where
  | nil : Att K G [] []
  | cons {f : List Key} {v : V} {d : D} {vs : List (List Key × V)} {ds : List (List Key × D)} : At K G v d → Att K G vs ds → Att K G ((f, v) :: vs) ((f, d) :: ds)
end
theorem same_seqT {K : PySem.W.Frag} {H H' : Hp} {a : Addr} {xs : List V} (e : Same H H') (h : SqT K H a xs) : SqT K H' a xs := by
  rcases h with (h | ⟨o, h⟩) | h
  · exact .inl (.inl (e _ _ h))
  · exact .inl (.inr ⟨o, e _ _ h⟩)
  · exact .inr h
theorem same_rd {H H' : Hp} {a : Addr} {u : HO} (e : Same H H') (h : Rd H a u) : Rd H' a u := by
  rcases h with h | ⟨o, h⟩
  · exact .inl (e _ _ h)
  · exact .inr ⟨o, e _ _ h⟩
theorem same_upd {H : Hp} {p : Addr} {o : HO} (h : H p = none) : Same H (upd H p o) := fun b x e => by
  rw [upd_ne (ne_of_none e h)]
  exact e
section
variable {K : PySem.W.Frag} {G G' : Hp}
mutual
theorem At.mono (e : Same G G') : ∀ {v : V} {d : D}, At K G v d → At K G' v d
  | _, _, .non => .non
  | _, _, .bl b => .bl b
  | _, _, .int i => .int i
  | _, _, .str x => .str x
  | _, _, .ty n => .ty n
  | _, _, .ref a => .ref a
  | _, _, .tup h r => .tup (same_seqT e h) (Ats.mono e r)
  | _, _, .lst h r => .lst (e.seq h) (Ats.mono e r)
  | _, _, .ins h r => .ins (e _ _ h) (Atf.mono e r)
  | _, _, .dK h r => .dK (same_rd e h) (Atk.mono e r)
  | _, _, .dT h r => .dT (same_rd e h) (Att.mono e r)
theorem Ats.mono (e : Same G G') : ∀ {v : List V} {d : List D}, Ats K G v d → Ats K G' v d
  | _, _, .nil => .nil
  | _, _, .cons h r => .cons (At.mono e h) (Ats.mono e r)
theorem Atf.mono (e : Same G G') : ∀ {v : List (Str × V)} {d : List (Str × D)}, Atf K G v d → Atf K G' v d
  | _, _, .nil => .nil
  | _, _, .cons h r => .cons (At.mono e h) (Atf.mono e r)
theorem Atk.mono (e : Same G G') : ∀ {v : List (Key × V)} {d : List (Key × D)}, Atk K G v d → Atk K G' v d
  | _, _, .nil => .nil
  | _, _, .cons h r => .cons (At.mono e h) (Atk.mono e r)
theorem Att.mono (e : Same G G') : ∀ {v : List (List Key × V)} {d : List (List Key × D)}, Att K G v d → Att K G' v d
  | _, _, .nil => .nil
  | _, _, .cons h r => .cons (At.mono e h) (Att.mono e r)
end
theorem Ats.length : ∀ {v : List V} {d : List D}, Ats K G v d → v.length = d.length
  | _, _, .nil => rfl
  | _, _, .cons _ r => by rw [List.length_cons, List.length_cons, Ats.length r]
theorem Ats.append : ∀ {v v' : List V} {d d' : List D}, Ats K G v d → Ats K G v' d' → Ats K G (v ++ v') (d ++ d')
  | _, _, _, _, .nil, r => r
  | _, _, _, _, .cons h t, r => .cons h (Ats.append t r)
theorem Ats.get : ∀ {v : List V} {d : List D} {i : Nat} {x : D}, Ats K G v d → d[i]? = some x → ∃ y, v[i]? = some y ∧ At K G y x
  | _, _, _, _, .nil, e => by simp at e
  | _, _, 0, _, .cons h _, e => by simp at e; subst e; exact ⟨_, rfl, h⟩
  | _, _, i + 1, x, .cons _ t, e => by
    obtain ⟨u, h1, h2⟩ := Ats.get (i := i) (x := x) t (by simpa using e)
    exact ⟨u, by simpa using h1, h2⟩
theorem Ats.get' : ∀ {v : List V} {d : List D} {i : Nat} {y : V}, Ats K G v d → v[i]? = some y → ∃ x, d[i]? = some x ∧ At K G y x
  | _, _, _, _, .nil, e => by simp at e
  | _, _, 0, _, .cons h _, e => by simp at e; subst e; exact ⟨_, rfl, h⟩
  | _, _, i + 1, x, .cons _ t, e => by
    obtain ⟨u, h1, h2⟩ := Ats.get' (i := i) (y := x) t (by simpa using e)
    exact ⟨u, by simpa using h1, h2⟩
theorem Ats.take : ∀ {v : List V} {d : List D} (n : Nat), Ats K G v d → Ats K G (v.take n) (d.take n)
  | _, _, 0, _ => .nil
  | _, _, _ + 1, .nil => .nil
  | _, _, n + 1, .cons h t => .cons h (Ats.take n t)
theorem Ats.drop : ∀ {v : List V} {d : List D} (n : Nat), Ats K G v d → Ats K G (v.drop n) (d.drop n)
  | _, _, 0, r => r
  | _, _, _ + 1, .nil => .nil
  | _, _, n + 1, .cons _ t => Ats.drop n t
theorem Ats.set {x : V} {y : D} (h : At K G x y) : ∀ {v : List V} {d : List D} (n : Nat), Ats K G v d → Ats K G (v.set n x) (d.set n y)
  | _, _, _, .nil => .nil
  | _, _, 0, .cons _ t => .cons h t
  | _, _, n + 1, .cons q t => .cons q (Ats.set h n t)
theorem Atf.length : ∀ {v : List (Str × V)} {d : List (Str × D)}, Atf K G v d → v.length = d.length
  | _, _, .nil => rfl
  | _, _, .cons _ r => by rw [List.length_cons, List.length_cons, Atf.length r]
theorem Atf.look : ∀ {v : List (Str × V)} {d : List (Str × D)} {f : Str} {x : D}, Atf K G v d → d.lookup f = some x → ∃ y, v.lookup f = some y ∧ At K G y x
  | _, _, _, _, .nil, e => by simp at e
  | _, _, f, x, .cons (f := g) h t, e => by
    rw [List.lookup_cons] at e ⊢
    split at e
    · cases e; exact ⟨_, rfl, h⟩
    · exact Atf.look t e
theorem Atf.look_none : ∀ {v : List (Str × V)} {d : List (Str × D)} {f : Str}, Atf K G v d → d.lookup f = none → v.lookup f = none
  | _, _, _, .nil, _ => rfl
  | _, _, f, .cons (f := g) h t, e => by
    rw [List.lookup_cons] at e ⊢
    split at e
    · cases e
    · exact Atf.look_none t e
def putD (f : Str) (v : D) : List (Str × D) → List (Str × D)
  | [] => [(f, v)]
  | (g, w) :: r => if g = f then (f, v) :: r else (g, w) :: putD f v r
end
end Dl
namespace Dl
open PySem L2
/-! ### the store: what may change; the known part G of the heap H: what stays -/
def MAt (K : PySem.W.Frag) (G H : Hp) (a : Addr) : MO → Prop
  | .lst xs => ∃ vs, H a = some (.lst vs) ∧ Ats K G vs xs
  | .ins C fs => ∃ dx vs, H a = some (.ins C dx vs) ∧ Atf K G vs fs
  | .dK kvs => ∃ vs, H a = some (.dK vs) ∧ Atk K G vs kvs
  | .dT kvs => ∃ vs, H a = some (.dT vs) ∧ Att K G vs kvs
structure Hold (K : PySem.W.Frag) (H G F : Hp) (μ : Mu) : Prop where
  sub : Same G H
  fr : Same F H
  dis : ∀ a o, F a = some o → G a = none ∧ μ a = none
  mu : ∀ a o, μ a = some o → G a = none ∧ MAt K G H a o
abbrev SD := List (Option D)
structure Slots (K : PySem.W.Frag) (G : Hp) (σ : St) (ρ : SD) : Prop where
  len : σ.length = ρ.length
  at_ : ∀ (i : Nat) (d : D), ρ[i]? = some (some d) → ∃ v, σ[i]? = some (some v) ∧ At K G v d
abbrev KD := D → Mu → Prop
abbrev TED := SD → Mu → KD → Prop
abbrev TTD := SD → Mu → (Bool → Mu → Prop) → Prop
abbrev TAD := SD → Mu → (List D → Mu → Prop) → Prop
structure EndsD where
  nx : SD → Mu → Prop
  rt : KD
  bk : SD → Mu → Prop := fun _ _ => False
  ct : SD → Mu → Prop := fun _ _ => False
abbrev TSD := EndsD → SD → Mu → Prop
section
variable {K : PySem.W.Frag} {G G' H H' F : Hp} {μ : Mu} {σ : St} {ρ : SD}
theorem MAt.mono (e : Same G G') {a : Addr} {o : MO} (h : MAt K G H a o) : MAt K G' H a o := by
  cases o with
  | lst xs => obtain ⟨vs, h1, h2⟩ := h; exact ⟨vs, h1, h2.mono e⟩
  | ins C fs => obtain ⟨dx, vs, h1, h2⟩ := h; exact ⟨dx, vs, h1, h2.mono e⟩
  | dK kvs => obtain ⟨vs, h1, h2⟩ := h; exact ⟨vs, h1, h2.mono e⟩
  | dT kvs => obtain ⟨vs, h1, h2⟩ := h; exact ⟨vs, h1, h2.mono e⟩
theorem MAt.to {a : Addr} {o : MO} (h : MAt K G H a o) (e : H' a = H a) : MAt K G H' a o := by
  cases o with
  | lst xs => obtain ⟨vs, h1, h2⟩ := h; exact ⟨vs, e.trans h1, h2⟩
  | ins C fs => obtain ⟨dx, vs, h1, h2⟩ := h; exact ⟨dx, vs, e.trans h1, h2⟩
  | dK kvs => obtain ⟨vs, h1, h2⟩ := h; exact ⟨vs, e.trans h1, h2⟩
  | dT kvs => obtain ⟨vs, h1, h2⟩ := h; exact ⟨vs, e.trans h1, h2⟩
theorem MAt.there {a : Addr} {o : MO} (h : MAt K G H a o) : ∃ u, H a = some u := by
  cases o with
  | lst xs => obtain ⟨vs, h1, _⟩ := h; exact ⟨_, h1⟩
  | ins C fs => obtain ⟨dx, vs, h1, _⟩ := h; exact ⟨_, h1⟩
  | dK kvs => obtain ⟨vs, h1, _⟩ := h; exact ⟨_, h1⟩
  | dT kvs => obtain ⟨vs, h1, _⟩ := h; exact ⟨_, h1⟩
theorem Slots.mono (e : Same G G') (s : Slots K G σ ρ) : Slots K G' σ ρ := ⟨s.len, fun i d q => by
  obtain ⟨v, h1, h2⟩ := s.at_ i d q
  exact ⟨v, h1, h2.mono e⟩⟩
theorem Slots.set {v : V} {d : D} (s : Slots K G σ ρ) (i : Nat) (h : At K G v d) : Slots K G (σ.set i (some v)) (ρ.set i (some d)) := by
  refine ⟨by rw [List.length_set, List.length_set, s.len], fun j x q => ?_⟩
  by_cases hj : i = j
  · subst hj
    by_cases hi : i < ρ.length
    · rw [List.getElem?_set_self hi] at q
      cases q
      exact ⟨v, List.getElem?_set_self (by rw [s.len]; exact hi), h⟩
    · rw [List.getElem?_eq_none (by rw [List.length_set]; omega)] at q
      cases q
  · rw [List.getElem?_set_ne hj] at q ⊢
    exact s.at_ j x q
theorem Slots.wipe (s : Slots K G σ ρ) (i : Nat) (o : Option V) : Slots K G (σ.set i o) (ρ.set i none) := by
  refine ⟨by rw [List.length_set, List.length_set, s.len], fun j x q => ?_⟩
  by_cases hj : i = j
  · subst hj
    by_cases hi : i < ρ.length
    · rw [List.getElem?_set_self hi] at q
      cases q
    · rw [List.getElem?_eq_none (by rw [List.length_set]; omega)] at q
      cases q
  · rw [List.getElem?_set_ne hj] at q ⊢
    exact s.at_ j x q
theorem Hold.mu_none (h : Hold K H G F μ) {p : Addr} (n : H p = none) : μ p = none := by
  cases q : μ p with
  | none => rfl
  | some o =>
    obtain ⟨u, e⟩ := (h.mu p o q).2.there
    rw [n] at e; cases e
theorem Hold.g_none (h : Hold K H G F μ) {p : Addr} (n : H p = none) : G p = none := h.sub.free n
theorem Hold.f_none (h : Hold K H G F μ) {p : Addr} (n : H p = none) : F p = none := h.fr.free n
theorem Hold.f_mu (h : Hold K H G F μ) {p : Addr} {o : MO} (n : μ p = some o) : F p = none := by
  cases q : F p with
  | none => rfl
  | some u => rw [(h.dis p u q).2] at n; cases n
/-- a new thing that stays -/
theorem Hold.new (h : Hold K H G F μ) {p : Addr} (n : H p = none) (o : HO) : Hold K (upd H p o) (upd G p o) F μ := by
  refine ⟨fun b x e => ?_, fun b x e => by rw [upd_ne (ne_of_none e (h.f_none n))]; exact h.fr b x e, fun b x e => ⟨by rw [upd_ne (ne_of_none e (h.f_none n))]; exact (h.dis b x e).1, (h.dis b x e).2⟩, fun a u q => ?_⟩
  · by_cases hb : b = p
    · subst hb; rw [upd_same] at e ⊢; exact e
    · rw [upd_ne hb] at e ⊢; exact h.sub b x e
  · have hap : a ≠ p := fun z => by rw [z, h.mu_none n] at q; cases q
    obtain ⟨h1, h2⟩ := h.mu a u q
    exact ⟨by rw [upd_ne hap]; exact h1, (h2.to (upd_ne hap)).mono (same_upd (h.g_none n))⟩
/-- what H gets besides does not matter -/
theorem Hold.junk (h : Hold K H G F μ) {p : Addr} (n : H p = none) (o : HO) : Hold K (upd H p o) G F μ := by
  refine ⟨fun b x e => by rw [upd_ne (ne_of_none (h.sub b x e) n)]; exact h.sub b x e, fun b x e => by rw [upd_ne (ne_of_none e (h.f_none n))]; exact h.fr b x e, h.dis, fun a u q => ?_⟩
  have hap : a ≠ p := fun z => by rw [z, h.mu_none n] at q; cases q
  obtain ⟨h1, h2⟩ := h.mu a u q
  exact ⟨h1, h2.to (upd_ne hap)⟩
/-- a new thing that may change -/
theorem Hold.newM (h : Hold K H G F μ) {p : Addr} (n : H p = none) {o : HO} {m : MO} (hm : MAt K G (upd H p o) p m) : Hold K (upd H p o) G F (mput μ p m) := by
  have j := h.junk n o
  refine ⟨j.sub, j.fr, fun b x e => ⟨(h.dis b x e).1, by rw [mput_ne (ne_of_none e (h.f_none n))]; exact (h.dis b x e).2⟩, fun a u q => ?_⟩
  by_cases hap : a = p
  · subst hap
    rw [mput_same] at q; cases q
    exact ⟨h.g_none n, hm⟩
  · rw [mput_ne hap] at q
    exact j.mu a u q
/-- a thing of the store is changed -/
theorem Hold.write (h : Hold K H G F μ) {p : Addr} {m0 : MO} (e : μ p = some m0) {o : HO} {m : MO} (hm : MAt K G (upd H p o) p m) : Hold K (upd H p o) G F (mput μ p m) := by
  obtain ⟨g, t⟩ := h.mu p m0 e
  have nf := h.f_mu e
  refine ⟨fun b x q => ?_, fun b x q => by rw [upd_ne (ne_of_none q nf)]; exact h.fr b x q, fun b x q => ⟨(h.dis b x q).1, by rw [mput_ne (ne_of_none q nf)]; exact (h.dis b x q).2⟩, fun a u q => ?_⟩
  · rw [upd_ne (ne_of_none q g)]; exact h.sub b x q
  · by_cases hap : a = p
    · subst hap
      rw [mput_same] at q; cases q
      exact ⟨g, hm⟩
    · rw [mput_ne hap] at q
      obtain ⟨h1, h2⟩ := h.mu a u q
      exact ⟨h1, h2.to (upd_ne hap)⟩
/-- a thing of the store is from now on one that stays -/
theorem Hold.freeze (h : Hold K H G F μ) {p : Addr} {m0 : MO} (e : μ p = some m0) {o : HO} (ho : H p = some o) : Hold K H (upd G p o) F (mdel μ p) ∧ Same G (upd G p o) := by
  obtain ⟨g, t⟩ := h.mu p m0 e
  have nf := h.f_mu e
  have sm : Same G (upd G p o) := same_upd g
  refine ⟨⟨fun b x q => ?_, h.fr, fun b x q => ⟨by rw [upd_ne (ne_of_none q nf)]; exact (h.dis b x q).1, by rw [mdel_ne (ne_of_none q nf)]; exact (h.dis b x q).2⟩, fun a u q => ?_⟩, sm⟩
  · by_cases hb : b = p
    · subst hb; rw [upd_same] at q; rw [ho]; exact q
    · rw [upd_ne hb] at q; exact h.sub b x q
  · by_cases hap : a = p
    · subst hap; rw [mdel_same] at q; cases q
    · rw [mdel_ne hap] at q
      obtain ⟨h1, h2⟩ := h.mu a u q
      exact ⟨by rw [upd_ne hap]; exact h1, h2.mono sm⟩
/-- the store may forget -/
theorem Hold.forget (h : Hold K H G F μ) {μ' : Mu} (s : ∀ a o, μ' a = some o → μ a = some o) : Hold K H G F μ' := ⟨h.sub, h.fr, fun a o q => ⟨(h.dis a o q).1, by
  cases z : μ' a with
  | none => rfl
  | some u => exact absurd (h.dis a o q).2 (by rw [s a u z]; simp)⟩, fun a o q => h.mu a o (s a o q)⟩
/-- a new thing of the frame -/
theorem Hold.newF (h : Hold K H G F μ) {p : Addr} (n : H p = none) (o : HO) : Hold K (upd H p o) G (upd F p o) μ := by
  have j := h.junk n o
  refine ⟨j.sub, fun b x e => ?_, fun b x e => ?_, j.mu⟩
  · by_cases hb : b = p
    · subst hb; rw [upd_same] at e ⊢; exact e
    · rw [upd_ne hb] at e ⊢; exact h.fr b x e
  · by_cases hb : b = p
    · subst hb; exact ⟨h.g_none n, h.mu_none n⟩
    · rw [upd_ne hb] at e; exact h.dis b x e
/-- a thing of the frame is changed -/
theorem Hold.writeF (h : Hold K H G F μ) {p : Addr} {u : HO} (e : F p = some u) (o : HO) : Hold K (upd H p o) G (upd F p o) μ := by
  obtain ⟨g, m⟩ := h.dis p u e
  refine ⟨fun b x q => by rw [upd_ne (ne_of_none q g)]; exact h.sub b x q, fun b x q => ?_, fun b x q => ?_, fun a y q => ?_⟩
  · by_cases hb : b = p
    · subst hb; rw [upd_same] at q ⊢; exact q
    · rw [upd_ne hb] at q ⊢; exact h.fr b x q
  · by_cases hb : b = p
    · subst hb; exact ⟨g, m⟩
    · rw [upd_ne hb] at q; exact h.dis b x q
  · have hap : a ≠ p := fun z => by rw [z, m] at q; cases q
    obtain ⟨h1, h2⟩ := h.mu a y q
    exact ⟨h1, h2.to (upd_ne hap)⟩
/-- a thing of the frame is from now on one that stays; the frame is the one from before it -/
theorem Hold.freezeF (h : Hold K H G F μ) {F0 : Hp} {p : Addr} {o : HO} (e : F p = some o) (n : F0 p = none) (s : ∀ b x, F0 b = some x → F b = some x) : Hold K H (upd G p o) F0 μ ∧ Same G (upd G p o) := by
  obtain ⟨g, m⟩ := h.dis p o e
  have sm : Same G (upd G p o) := same_upd g
  refine ⟨⟨fun b x q => ?_, fun b x q => h.fr b x (s b x q), fun b x q => ?_, fun a y q => ?_⟩, sm⟩
  · by_cases hb : b = p
    · subst hb; rw [upd_same] at q; rw [h.fr b o e]; exact q
    · rw [upd_ne hb] at q; exact h.sub b x q
  · obtain ⟨d1, d2⟩ := h.dis b x (s b x q)
    exact ⟨by rw [upd_ne (ne_of_none q n)]; exact d1, d2⟩
  · have hap : a ≠ p := fun z => by rw [z, m] at q; cases q
    obtain ⟨h1, h2⟩ := h.mu a y q
    exact ⟨by rw [upd_ne hap]; exact h1, h2.mono sm⟩
end
/-! ### lifted readings. B: what was known at the def's entry, the frame -/
structure Bs where
  g : Hp
  f : Hp
def lE (K : PySem.W.Frag) (B : Bs) (t : TED) : TE := fun σ H Q => ∃ (G : Hp) (ρ : SD) (μ : Mu) (k : KD), Same B.g G ∧ Hold K H G B.f μ ∧ Slots K G σ ρ ∧ t ρ μ k ∧
  ∀ v H' G' d μ', Same G G' → Hold K H' G' B.f μ' → At K G' v d → k d μ' → Q v H'
def lT (K : PySem.W.Frag) (B : Bs) (t : TTD) : TT := fun σ H Q => ∃ (G : Hp) (ρ : SD) (μ : Mu) (k : Bool → Mu → Prop), Same B.g G ∧ Hold K H G B.f μ ∧ Slots K G σ ρ ∧ t ρ μ k ∧
  ∀ b H' G' μ', Same G G' → Hold K H' G' B.f μ' → k b μ' → Q b H'
def lA (K : PySem.W.Frag) (B : Bs) (t : TAD) : TA := fun σ H Q => ∃ (G : Hp) (ρ : SD) (μ : Mu) (k : List D → Mu → Prop), Same B.g G ∧ Hold K H G B.f μ ∧ Slots K G σ ρ ∧ t ρ μ k ∧
  ∀ vs H' G' ds μ', Same G G' → Hold K H' G' B.f μ' → Ats K G' vs ds → k ds μ' → Q vs H'
def lS (K : PySem.W.Frag) (B : Bs) (t : TSD) : TS := fun D σ H => ∃ (G : Hp) (ρ : SD) (μ : Mu) (E : EndsD), Same B.g G ∧ Hold K H G B.f μ ∧ Slots K G σ ρ ∧ t E ρ μ ∧
  (∀ σ' H' G' ρ' μ', Same G G' → Hold K H' G' B.f μ' → Slots K G' σ' ρ' → E.nx ρ' μ' → D.nx σ' H') ∧
  (∀ v H' G' d μ', Same G G' → Hold K H' G' B.f μ' → At K G' v d → E.rt d μ' → D.rt v H') ∧
  (∀ σ' H' G' ρ' μ', Same G G' → Hold K H' G' B.f μ' → Slots K G' σ' ρ' → E.bk ρ' μ' → D.bk σ' H') ∧
  (∀ σ' H' G' ρ' μ', Same G G' → Hold K H' G' B.f μ' → Slots K G' σ' ρ' → E.ct ρ' μ' → D.ct σ' H')
abbrev R2D := D → D → Mu → KD → Prop
abbrev R1D := D → Mu → KD → Prop
abbrev RAD := List D → Mu → KD → Prop
def l2 (K : PySem.W.Frag) (B : Bs) (r : R2D) : R2 := fun x y H Q => ∃ (G : Hp) (μ : Mu) (dx dy : D) (k : KD), Same B.g G ∧ Hold K H G B.f μ ∧ At K G x dx ∧ At K G y dy ∧ r dx dy μ k ∧
  ∀ v H' G' d μ', Same G G' → Hold K H' G' B.f μ' → At K G' v d → k d μ' → Q v H'
def l1 (K : PySem.W.Frag) (B : Bs) (r : R1D) : V → Hp → VK → Prop := fun x H Q => ∃ (G : Hp) (μ : Mu) (dx : D) (k : KD), Same B.g G ∧ Hold K H G B.f μ ∧ At K G x dx ∧ r dx μ k ∧
  ∀ v H' G' d μ', Same G G' → Hold K H' G' B.f μ' → At K G' v d → k d μ' → Q v H'
def lN (K : PySem.W.Frag) (B : Bs) (r : RAD) : List V → Hp → VK → Prop := fun xs H Q => ∃ (G : Hp) (μ : Mu) (ds : List D) (k : KD), Same B.g G ∧ Hold K H G B.f μ ∧ Ats K G xs ds ∧ r ds μ k ∧
  ∀ v H' G' d μ', Same G G' → Hold K H' G' B.f μ' → At K G' v d → k d μ' → Q v H'
abbrev PD (X : Cx) (B : Bs) (e : Expr) (t : TED) : Prop := PE X e (lE X.K B t)
abbrev PDT (X : Cx) (B : Bs) (e : Expr) (t : TTD) : Prop := PT X e (lT X.K B t)
abbrev PDW (X : Cx) (B : Bs) (e : Expr) (t : TTD) : Prop := PW X e (lT X.K B t)
abbrev PDA (X : Cx) (B : Bs) (es : List Expr) (t : TAD) : Prop := PA X es (lA X.K B t)
abbrev PDS (X : Cx) (B : Bs) (s : Stmt) (t : TSD) : Prop := PS X s (lS X.K B t)
abbrev PDB (X : Cx) (B : Bs) (s : List Stmt) (t : TSD) : Prop := PSs X s (lS X.K B t)
abbrev OpD (X : Cx) (B : Bs) (f : Value → Value → Sem Value) (r : R2D) : Prop := OpR X f (l2 X.K B r)
abbrev UnD (X : Cx) (B : Bs) (f : Value → Sem Value) (r : R1D) : Prop := UnR X f (l1 X.K B r)
abbrev CallD (X : Cx) (B : Bs) (f : Value) (r : RAD) : Prop := CallR X f (lN X.K B r)
section
variable {X : Cx} {B : Bs}
theorem imE {e : Expr} {t t' : TE} (h : PE X e t) (i : ∀ σ H Q, t' σ H Q → t σ H Q) : PE X e t' := ⟨fun pins s σ H Q I q => h.run pins s σ H Q I (i _ _ _ q)⟩
theorem imT {e : Expr} {t t' : TT} (h : PT X e t) (i : ∀ σ H Q, t' σ H Q → t σ H Q) : PT X e t' := ⟨fun pins s σ H Q I q => h.run pins s σ H Q I (i _ _ _ q)⟩
theorem imW {e : Expr} {t t' : TT} (h : PW X e t) (i : ∀ σ H Q, t' σ H Q → t σ H Q) : PW X e t' := ⟨fun wh pins s σ H Q I q => h.run wh pins s σ H Q I (i _ _ _ q)⟩
theorem imA {e : List Expr} {t t' : TA} (h : PA X e t) (i : ∀ σ H Q, t' σ H Q → t σ H Q) : PA X e t' := ⟨fun p pins s σ H Q I q => h.run p pins s σ H Q I (i _ _ _ q)⟩
theorem imS {e : Stmt} {t t' : TS} (h : PS X e t) (i : ∀ σ H Q, t' σ H Q → t σ H Q) : PS X e t' := ⟨fun pins s σ H D I q => h.run pins s σ H D I (i _ _ _ q)⟩
theorem imB {e : List Stmt} {t t' : TS} (h : PSs X e t) (i : ∀ σ H Q, t' σ H Q → t σ H Q) : PSs X e t' := ⟨fun pins s σ H D I q => h.run pins s σ H D I (i _ _ _ q)⟩
theorem imO {f : Value → Value → Sem Value} {r r' : R2} (h : OpR X f r) (i : ∀ x y H Q, r' x y H Q → r x y H Q) : OpR X f r' := fun pins s σ H x y v u Q I rx ry q => h pins s σ H x y v u Q I rx ry (i _ _ _ _ q)
theorem imU {f : Value → Sem Value} {r r' : V → Hp → VK → Prop} (h : UnR X f r) (i : ∀ x H Q, r' x H Q → r x H Q) : UnR X f r' := fun pins s σ H x v Q I rx q => h pins s σ H x v Q I rx (i _ _ _ q)
theorem imC {f : Value} {r r' : List V → Hp → VK → Prop} (h : CallR X f r) (i : ∀ x H Q, r' x H Q → r x H Q) : CallR X f r' := fun pins s σ H x v Q I rx q => h pins s σ H x v Q I rx (i _ _ _ q)
/-- one of two rules -/
theorem orO {f : Value → Value → Sem Value} {r r' : R2} (h : OpR X f r) (h' : OpR X f r') : OpR X f (fun x y H Q => r x y H Q ∨ r' x y H Q) := fun pins s σ H x y v u Q I rx ry q => by
  rcases q with q | q
  · exact h pins s σ H x y v u Q I rx ry q
  · exact h' pins s σ H x y v u Q I rx ry q
theorem orC {f : Value} {r r' : List V → Hp → VK → Prop} (h : CallR X f r) (h' : CallR X f r') : CallR X f (fun x H Q => r x H Q ∨ r' x H Q) := fun pins s σ H x v Q I rx q => by
  rcases q with q | q
  · exact h pins s σ H x v Q I rx q
  · exact h' pins s σ H x v Q I rx q
/-! ### names, constants -/
def dVar (i : Nat) : TED := fun ρ μ k => ∃ d, ρ[i]? = some (some d) ∧ k d μ
def dC (d : D) : TED := fun _ μ k => k d μ
theorem pd_var (i : Nat) {x : Str} {pos : Pos} (hN : X.N[i]? = some x := by rfl) (hv : Vis X.env.scope x := by first | exact Or.inl rfl | exact Or.inr (Or.inl rfl) | exact Or.inr (Or.inr rfl)) (hd : (x == ("__debug__" : Str)) = false := by decide)
    (hcd : (x == ("__classdict__" : Str)) = false := by decide) : PD X B (.Name x pos) (dVar i) := imE (pe_var hN hv hd hcd) fun σ H Q ⟨G, ρ, μ, k, g0, hh, sl, ⟨d, e, q⟩, kk⟩ => by
  obtain ⟨v, h1, h2⟩ := sl.at_ i d e
  exact ⟨v, h1, kk v H G d μ (Same.refl G) hh h2 q⟩
theorem pdc {e : Expr} {v : V} {d : D} (h : PE X e (tC v)) (a : ∀ G, At X.K G v d) : PD X B e (dC d) := imE h fun σ H Q ⟨G, ρ, μ, k, g0, hh, sl, q, kk⟩ => kk v H G d μ (Same.refl G) hh (a G) q
theorem pd_int {i : Int} {j pos} : PD X B (.Constant (.int i) j pos) (dC (.int i)) := pdc pe_int fun _ => .int i
theorem pd_bl {b : Bool} {j pos} : PD X B (.Constant (.bool b) j pos) (dC (.bl b)) := pdc pe_bl fun _ => .bl b
theorem pd_non {j pos} : PD X B (.Constant .none j pos) (dC .non) := pdc pe_non fun _ => .non
theorem pd_str {x : Str} {j pos} : PD X B (.Constant (.str x) j pos) (dC (.str x)) := pdc pe_str fun _ => .str x
/-- a module's constant (an int, a text, a tuple that is written), a def, a class -/
theorem pd_glob {x : Str} {v : V} {d : D} {u : Value} {pos : Pos} (hm : X.mg x = some u) (r : RelV v u) (a : ∀ G, At X.K G v d) (hg : Gl X x := by rfl) (hd : (x == ("__debug__" : Str)) = false := by decide) : PD X B (.Name x pos) (dC d) := pdc (pe_glob hg hm r hd) a
/-! ### operators -/
def dOp (r : R2D) (ta tb : TED) : TED := fun ρ μ k => ta ρ μ fun x μ1 => tb ρ μ1 fun y μ2 => r x y μ2 k
def dUn (r : R1D) (ta : TED) : TED := fun ρ μ k => ta ρ μ fun x μ1 => r x μ1 k
theorem lOp {r : R2D} {ta tb : TED} (σ : St) (H : Hp) (Q : VK) (h : lE X.K B (dOp r ta tb) σ H Q) : tOp (l2 X.K B r) (lE X.K B ta) (lE X.K B tb) σ H Q := by
  obtain ⟨G, ρ, μ, k, g0, hh, sl, q, kk⟩ := h
  refine ⟨G, ρ, μ, _, g0, hh, sl, q, fun v H1 G1 d μ1 s1 h1 a1 q1 => ?_⟩
  refine ⟨G1, ρ, μ1, _, g0.trans s1, h1, sl.mono s1, q1, fun v2 H2 G2 d2 μ2 s2 h2 a2 q2 => ?_⟩
  exact ⟨G2, μ2, d, d2, k, (g0.trans s1).trans s2, h2, a1.mono s2, a2, q2, fun v3 H3 G3 d3 μ3 s3 => kk v3 H3 G3 d3 μ3 ((s1.trans s2).trans s3)⟩
theorem pd_op {a b : Expr} {op : Operator} {r : R2D} {ta tb : TED} {pos : Pos} (ho : OpD X B (binaryOp op) r) (ha : PD X B a ta) (hb : PD X B b tb) : PD X B (.BinOp a op b pos) (dOp r ta tb) := imE (pe_op ho ha hb) lOp
theorem pd_cmp {a b : Expr} {op : CmpOp} {r : R2D} {ta tb : TED} {pos : Pos} (ho : OpD X B (compareOp op) r) (ha : PD X B a ta) (hb : PD X B b tb) (hm : behindInMarks op b = false) : PD X B (.Compare a [op] [b] pos) (dOp r ta tb) := imE (pe_cmpR ho ha hb hm) lOp
theorem pd_un {a : Expr} {op : UnaryOp} {r : R1D} {ta : TED} {pos : Pos} (ho : UnD X B (unaryOp op) r) (ha : PD X B a ta) : PD X B (.UnaryOp op a pos) (dUn r ta) := imE (pe_un ho ha) fun σ H Q h => by
  obtain ⟨G, ρ, μ, k, g0, hh, sl, q, kk⟩ := h
  refine ⟨G, ρ, μ, _, g0, hh, sl, q, fun v H1 G1 d μ1 s1 h1 a1 q1 => ?_⟩
  exact ⟨G1, μ1, d, k, g0.trans s1, h1, a1, q1, fun v3 H3 G3 d3 μ3 s3 => kk v3 H3 G3 d3 μ3 (s1.trans s3)⟩
/-- a test by a value that is True or False -/
def dTest (t : TED) : TTD := fun ρ μ k => t ρ μ fun x μ1 => ∃ b, x = .bl b ∧ k b μ1
theorem At.bl_inv {K : PySem.W.Frag} {G : Hp} {v : V} {b : Bool} (h : At K G v (.bl b)) : v = .bl b := by cases h; rfl
theorem At.int_inv {K : PySem.W.Frag} {G : Hp} {v : V} {b : Int} (h : At K G v (.int b)) : v = .int b := by cases h; rfl
theorem At.str_inv {K : PySem.W.Frag} {G : Hp} {v : V} {b : Str} (h : At K G v (.str b)) : v = .str b := by cases h; rfl
theorem At.non_inv {K : PySem.W.Frag} {G : Hp} {v : V} (h : At K G v .non) : v = .non := by cases h; rfl
theorem lTest {t : TED} (σ : St) (H : Hp) (Q : Bool → Hp → Prop) (h : lT X.K B (dTest t) σ H Q) : tTest (lE X.K B t) σ H Q := by
  obtain ⟨G, ρ, μ, k, g0, hh, sl, q, kk⟩ := h
  refine ⟨G, ρ, μ, _, g0, hh, sl, q, fun v H1 G1 d μ1 s1 h1 a1 q1 => ?_⟩
  obtain ⟨b, rfl, q1⟩ := q1
  exact ⟨b, a1.bl_inv, kk b H1 G1 μ1 s1 h1 q1⟩
theorem pdt_val {e : Expr} {t : TED} (h : PD X B e t) (he : ∀ whole, isTrue e X.env whole = (do let v ← whole; standAt e.pos; holding [v] (truthy v)) := by intro _; rfl) : PDT X B e (dTest t) := imT (pt_val h he) lTest
theorem pdt_cmp {a b : Expr} {op : CmpOp} {r : R2D} {ta tb : TED} {pos : Pos} (ho : OpD X B (compareOp op) r) (ha : PD X B a ta) (hb : PD X B b tb) (hm : behindInMarks op b = false) : PDT X B (.Compare a [op] [b] pos) (dTest (dOp r ta tb)) :=
  imT (pt_cmpR ho ha hb hm) fun σ H Q h => by
    have q := lTest (X := X) σ H Q h
    exact lOp σ H _ q
end
end Dl
namespace Dl
open PySem L2
section
variable {X : Cx} {B : Bs}
/-! ### arguments, displays -/
def dNil : TAD := fun _ μ k => k [] μ
def dCons (t : TED) (u : TAD) : TAD := fun ρ μ k => t ρ μ fun x μ1 => u ρ μ1 fun xs μ2 => k (x :: xs) μ2
theorem pda_nil : PDA X B [] dNil := imA pa_nil fun σ H Q ⟨G, ρ, μ, k, g0, hh, sl, q, kk⟩ => kk [] H G [] μ (Same.refl G) hh .nil q
theorem pda_cons {e : Expr} {es : List Expr} {t : TED} {u : TAD} (he : PD X B e t) (hr : PDA X B es u) (hs : starEach (e :: es) X.env = (false, eval e X.env) :: starEach es X.env := by rfl) : PDA X B (e :: es) (dCons t u) :=
  imA (pa_cons he hr hs) fun σ H Q ⟨G, ρ, μ, k, g0, hh, sl, q, kk⟩ => by
    refine ⟨G, ρ, μ, _, g0, hh, sl, q, fun v H1 G1 d μ1 s1 h1 a1 q1 => ?_⟩
    refine ⟨G1, ρ, μ1, _, g0.trans s1, h1, sl.mono s1, q1, fun vs H2 G2 ds μ2 s2 h2 a2 q2 => ?_⟩
    exact kk _ H2 G2 _ μ2 (s1.trans s2) h2 (.cons (a1.mono s2) a2) q2
def dTup (t : TAD) : TED := fun ρ μ k => t ρ μ fun xs μ1 => xs.length ≤ 100000 ∧ k (.tup xs) μ1
def dLst (t : TAD) : TED := fun ρ μ k => t ρ μ fun xs μ1 => xs.length ≤ 100000 ∧ k (.lst xs) μ1
/-- a list that may change -/
def dLstM (t : TAD) : TED := fun ρ μ k => t ρ μ fun xs μ1 => xs.length ≤ 100000 ∧ ∀ p, μ1 p = none → k (.ref p) (mput μ1 p (.lst xs))
theorem line_of {n : Nat} (h : n ≤ 100000) : n ≤ sizeLine := Nat.le_trans h (by decide)
theorem line_lt {n : Nat} (h : n ≤ 100000) : n < sizeLine := Nat.lt_of_le_of_lt h (by decide)
theorem pd_tup {es : List Expr} {t : TAD} {x1 pos} (h : PDA X B es t) : PD X B (.Tuple es x1 pos) (dTup t) := imE (pe_tup h) fun σ H Q ⟨G, ρ, μ, k, g0, hh, sl, q, kk⟩ => by
  refine ⟨G, ρ, μ, _, g0, hh, sl, q, fun vs H1 G1 ds μ1 s1 h1 a1 q1 => ⟨by rw [a1.length]; exact line_of q1.1, fun p np => ?_⟩⟩
  have gn := h1.g_none np
  exact kk _ _ (upd G1 p (.tup vs)) _ μ1 (s1.trans (same_upd gn)) (h1.new np _) (.tup (SqT.of upd_same) (a1.mono (same_upd gn))) q1.2
theorem pd_lst {es : List Expr} {t : TAD} {pos} (h : PDA X B es t) : PD X B (.List es pos) (dLst t) := imE (pe_lst h) fun σ H Q ⟨G, ρ, μ, k, g0, hh, sl, q, kk⟩ => by
  refine ⟨G, ρ, μ, _, g0, hh, sl, q, fun vs H1 G1 ds μ1 s1 h1 a1 q1 => ⟨by rw [a1.length]; exact line_of q1.1, fun p np => ?_⟩⟩
  have gn := h1.g_none np
  exact kk _ _ (upd G1 p (.lst vs)) _ μ1 (s1.trans (same_upd gn)) (h1.new np _) (.lst (SqL.of upd_same) (a1.mono (same_upd gn))) q1.2
theorem pd_lstM {es : List Expr} {t : TAD} {pos} (h : PDA X B es t) : PD X B (.List es pos) (dLstM t) := imE (pe_lst h) fun σ H Q ⟨G, ρ, μ, k, g0, hh, sl, q, kk⟩ => by
  refine ⟨G, ρ, μ, _, g0, hh, sl, q, fun vs H1 G1 ds μ1 s1 h1 a1 q1 => ⟨by rw [a1.length]; exact line_of q1.1, fun p np => ?_⟩⟩
  exact kk _ _ G1 _ _ s1 (h1.newM (m := .lst ds) np ⟨vs, upd_same, a1⟩) (.ref p) (q1.2 p (h1.mu_none np))
/-! ### and, or, not, if else -/
def dAndV (ta tb : TED) : TED := fun ρ μ k => ta ρ μ fun x μ1 => ∃ c, x = .bl c ∧ if c = true then tb ρ μ1 k else k (.bl false) μ1
def dOrV (ta tb : TED) : TED := fun ρ μ k => ta ρ μ fun x μ1 => ∃ c, x = .bl c ∧ if c = true then k (.bl true) μ1 else tb ρ μ1 k
def dNotV (ta : TED) : TED := fun ρ μ k => ta ρ μ fun x μ1 => ∃ c, x = .bl c ∧ k (.bl (!c)) μ1
theorem pd_and {a b : Expr} {rest : List Expr} {ta tb : TED} {pos : Pos} (ha : PD X B a ta) (hb : PD X B (.BoolOp .And (b :: rest) pos) tb) : PD X B (.BoolOp .And (a :: b :: rest) pos) (dAndV ta tb) := imE (pe_and ha hb) fun σ H Q ⟨G, ρ, μ, k, g0, hh, sl, q, kk⟩ => by
  refine ⟨G, ρ, μ, _, g0, hh, sl, q, fun v H1 G1 d μ1 s1 h1 a1 q1 => ?_⟩
  obtain ⟨c, rfl, q1⟩ := q1
  refine ⟨c, a1.bl_inv, ?_⟩
  cases c with
  | true =>
    rw [if_pos rfl] at q1 ⊢
    exact ⟨G1, ρ, μ1, k, g0.trans s1, h1, sl.mono s1, q1, fun v3 H3 G3 d3 μ3 s3 => kk v3 H3 G3 d3 μ3 (s1.trans s3)⟩
  | false =>
    rw [if_neg Bool.false_ne_true] at q1 ⊢
    exact kk _ H1 G1 _ μ1 s1 h1 (.bl false) q1
theorem pd_or {a b : Expr} {rest : List Expr} {ta tb : TED} {pos : Pos} (ha : PD X B a ta) (hb : PD X B (.BoolOp .Or (b :: rest) pos) tb) : PD X B (.BoolOp .Or (a :: b :: rest) pos) (dOrV ta tb) := imE (pe_or ha hb) fun σ H Q ⟨G, ρ, μ, k, g0, hh, sl, q, kk⟩ => by
  refine ⟨G, ρ, μ, _, g0, hh, sl, q, fun v H1 G1 d μ1 s1 h1 a1 q1 => ?_⟩
  obtain ⟨c, rfl, q1⟩ := q1
  refine ⟨c, a1.bl_inv, ?_⟩
  cases c with
  | false =>
    rw [if_neg Bool.false_ne_true] at q1 ⊢
    exact ⟨G1, ρ, μ1, k, g0.trans s1, h1, sl.mono s1, q1, fun v3 H3 G3 d3 μ3 s3 => kk v3 H3 G3 d3 μ3 (s1.trans s3)⟩
  | true =>
    rw [if_pos rfl] at q1 ⊢
    exact kk _ H1 G1 _ μ1 s1 h1 (.bl true) q1
theorem pd_one {a : Expr} {op} {t : TED} {pos : Pos} (h : PD X B a t) : PD X B (.BoolOp op [a] pos) t := pe_one h
theorem pd_not {a : Expr} {ta : TED} {pos : Pos} (ha : PD X B a ta) : PD X B (.UnaryOp .Not a pos) (dNotV ta) := imE (pe_not ha) fun σ H Q ⟨G, ρ, μ, k, g0, hh, sl, q, kk⟩ => by
  refine ⟨G, ρ, μ, _, g0, hh, sl, q, fun v H1 G1 d μ1 s1 h1 a1 q1 => ?_⟩
  obtain ⟨c, rfl, q1⟩ := q1
  exact ⟨c, a1.bl_inv, kk _ H1 G1 _ μ1 s1 h1 (.bl (!c)) q1⟩
def dAnd (t u : TTD) : TTD := fun ρ μ k => t ρ μ fun c μ1 => if c = true then u ρ μ1 k else k false μ1
def dOr (t u : TTD) : TTD := fun ρ μ k => t ρ μ fun c μ1 => if c = true then k true μ1 else u ρ μ1 k
def dNot (t : TTD) : TTD := fun ρ μ k => t ρ μ fun c μ1 => k (!c) μ1
theorem pdw_and1 {a : Expr} {t : TTD} {pos : Pos} (ha : PDT X B a t) : PDW X B (.BoolOp .And [a] pos) t := pw_and1 ha
theorem pdw_or1 {a : Expr} {t : TTD} {pos : Pos} (ha : PDT X B a t) : PDW X B (.BoolOp .Or [a] pos) t := pw_or1 ha
theorem pdw_and {a b : Expr} {rest : List Expr} {t u : TTD} {pos : Pos} (ha : PDT X B a t) (hb : PDW X B (.BoolOp .And (b :: rest) pos) u) : PDW X B (.BoolOp .And (a :: b :: rest) pos) (dAnd t u) := imW (pw_and ha hb) fun σ H Q ⟨G, ρ, μ, k, g0, hh, sl, q, kk⟩ => by
  refine ⟨G, ρ, μ, _, g0, hh, sl, q, fun c H1 G1 μ1 s1 h1 q1 => ?_⟩
  cases c with
  | true =>
    rw [if_pos rfl] at q1 ⊢
    exact ⟨G1, ρ, μ1, k, g0.trans s1, h1, sl.mono s1, q1, fun b3 H3 G3 μ3 s3 => kk b3 H3 G3 μ3 (s1.trans s3)⟩
  | false =>
    rw [if_neg Bool.false_ne_true] at q1 ⊢
    exact kk _ H1 G1 μ1 s1 h1 q1
theorem pdw_or {a b : Expr} {rest : List Expr} {t u : TTD} {pos : Pos} (ha : PDT X B a t) (hb : PDW X B (.BoolOp .Or (b :: rest) pos) u) : PDW X B (.BoolOp .Or (a :: b :: rest) pos) (dOr t u) := imW (pw_or ha hb) fun σ H Q ⟨G, ρ, μ, k, g0, hh, sl, q, kk⟩ => by
  refine ⟨G, ρ, μ, _, g0, hh, sl, q, fun c H1 G1 μ1 s1 h1 q1 => ?_⟩
  cases c with
  | false =>
    rw [if_neg Bool.false_ne_true] at q1 ⊢
    exact ⟨G1, ρ, μ1, k, g0.trans s1, h1, sl.mono s1, q1, fun b3 H3 G3 μ3 s3 => kk b3 H3 G3 μ3 (s1.trans s3)⟩
  | true =>
    rw [if_pos rfl] at q1 ⊢
    exact kk _ H1 G1 μ1 s1 h1 q1
theorem pdt_w {e : Expr} {t : TTD} (h : PDW X B e t) : PDT X B e t := h.pt
theorem pdt_not {a : Expr} {t : TTD} {pos : Pos} (ha : PDT X B a t) : PDT X B (.UnaryOp .Not a pos) (dNot t) := imT (pt_not ha) fun σ H Q ⟨G, ρ, μ, k, g0, hh, sl, q, kk⟩ =>
  ⟨G, ρ, μ, _, g0, hh, sl, q, fun c H1 G1 μ1 s1 h1 q1 => kk _ H1 G1 μ1 s1 h1 q1⟩
def dIf (t : TTD) (ta tb : TED) : TED := fun ρ μ k => t ρ μ fun c μ1 => if c = true then ta ρ μ1 k else tb ρ μ1 k
theorem pd_if {c a b : Expr} {t : TTD} {ta tb : TED} {pos : Pos} (hc : PDT X B c t) (ha : PD X B a ta) (hb : PD X B b tb) : PD X B (.IfExp c a b pos) (dIf t ta tb) := imE (pe_ifExp hc ha hb) fun σ H Q ⟨G, ρ, μ, k, g0, hh, sl, q, kk⟩ => by
  refine ⟨G, ρ, μ, _, g0, hh, sl, q, fun c H1 G1 μ1 s1 h1 q1 => ?_⟩
  cases c with
  | true =>
    rw [if_pos rfl] at q1 ⊢
    exact ⟨G1, ρ, μ1, k, g0.trans s1, h1, sl.mono s1, q1, fun v3 H3 G3 d3 μ3 s3 => kk v3 H3 G3 d3 μ3 (s1.trans s3)⟩
  | false =>
    rw [if_neg Bool.false_ne_true] at q1 ⊢
    exact ⟨G1, ρ, μ1, k, g0.trans s1, h1, sl.mono s1, q1, fun v3 H3 G3 d3 μ3 s3 => kk v3 H3 G3 d3 μ3 (s1.trans s3)⟩
/-! ### statements -/
def dNext : TSD := fun E ρ μ => E.nx ρ μ
def dSeq (t u : TSD) : TSD := fun E ρ μ => t { E with nx := u E } ρ μ
theorem lSeq {t u : TSD} (D : Ends) (σ : St) (H : Hp) (h : lS X.K B (dSeq t u) D σ H) : tSeq (lS X.K B t) (lS X.K B u) D σ H := by
  obtain ⟨G, ρ, μ, E, g0, hh, sl, q, k1, k2, k3, k4⟩ := h
  refine ⟨G, ρ, μ, _, g0, hh, sl, q, fun σ' H' G' ρ' μ' s' h' sl' q' => ?_, k2, k3, k4⟩
  exact ⟨G', ρ', μ', E, g0.trans s', h', sl', q', fun σ2 H2 G2 ρ2 μ2 s2 => k1 σ2 H2 G2 ρ2 μ2 (s'.trans s2), fun v H2 G2 d μ2 s2 => k2 v H2 G2 d μ2 (s'.trans s2), fun σ2 H2 G2 ρ2 μ2 s2 => k3 σ2 H2 G2 ρ2 μ2 (s'.trans s2), fun σ2 H2 G2 ρ2 μ2 s2 => k4 σ2 H2 G2 ρ2 μ2 (s'.trans s2)⟩
theorem pdb_nil : PDB X B [] dNext := imB pss_nil fun D σ H ⟨G, ρ, μ, E, g0, hh, sl, q, k1, k2, k3, k4⟩ => k1 σ H G ρ μ (Same.refl G) hh sl q
theorem pdb_one {s : Stmt} {t : TSD} (h : PDS X B s t) : PDB X B [s] t := pss_one h
theorem pdb_cons {s : Stmt} {r : List Stmt} {t u : TSD} (h : PDS X B s t) (hr : PDB X B r u) : PDB X B (s :: r) (dSeq t u) := imB (pss_cons h hr) lSeq
theorem pds_pass {pos : Pos} : PDS X B (.Pass pos) dNext := imS ps_pass fun D σ H ⟨G, ρ, μ, E, g0, hh, sl, q, k1, k2, k3, k4⟩ => k1 σ H G ρ μ (Same.refl G) hh sl q
def dBreak : TSD := fun E ρ μ => E.bk ρ μ
def dCont : TSD := fun E ρ μ => E.ct ρ μ
theorem pds_break {pos : Pos} : PDS X B (.Break pos) dBreak := imS ps_break fun D σ H ⟨G, ρ, μ, E, g0, hh, sl, q, k1, k2, k3, k4⟩ => k3 σ H G ρ μ (Same.refl G) hh sl q
theorem pds_cont {pos : Pos} : PDS X B (.Continue pos) dCont := imS ps_continue fun D σ H ⟨G, ρ, μ, E, g0, hh, sl, q, k1, k2, k3, k4⟩ => k4 σ H G ρ μ (Same.refl G) hh sl q
/-- a statement that is not reached -/
def dNever : TSD := fun _ _ _ => False
theorem pds_never {s : Stmt} : PDS X B s dNever := imS (ps_never (st := s)) fun D σ H ⟨G, ρ, μ, E, g0, hh, sl, q, _⟩ => q
def dRet (t : TED) : TSD := fun E ρ μ => t ρ μ E.rt
theorem pds_ret {e : Expr} {t : TED} {pos : Pos} (he : PD X B e t) : PDS X B (.Return (some e) pos) (dRet t) := imS (ps_ret he) fun D σ H ⟨G, ρ, μ, E, g0, hh, sl, q, k1, k2, k3, k4⟩ => ⟨G, ρ, μ, _, g0, hh, sl, q, k2⟩
def dRetN : TSD := fun E _ μ => E.rt .non μ
theorem pds_retN {pos : Pos} : PDS X B (.Return none pos) dRetN := imS ps_retN fun D σ H ⟨G, ρ, μ, E, g0, hh, sl, q, k1, k2, k3, k4⟩ => k2 .non H G .non μ (Same.refl G) hh .non q
def dDrop (t : TED) : TSD := fun E ρ μ => t ρ μ fun _ μ1 => E.nx ρ μ1
theorem pds_expr {e : Expr} {t : TED} {pos : Pos} (he : PD X B e t) (hs : swapsWith e none pos.line X.env = pure false := by rfl) : PDS X B (.Expr e pos) (dDrop t) := imS (ps_expr he hs) fun D σ H ⟨G, ρ, μ, E, g0, hh, sl, q, k1, k2, k3, k4⟩ =>
  ⟨G, ρ, μ, _, g0, hh, sl, q, fun v H1 G1 d μ1 s1 h1 a1 q1 => k1 σ H1 G1 ρ μ1 s1 h1 (sl.mono s1) q1⟩
def dIfS (c : TTD) (t u : TSD) : TSD := fun E ρ μ => c ρ μ fun b μ1 => if b = true then t E ρ μ1 else u E ρ μ1
theorem lS_go {t : TSD} {G : Hp} {ρ : SD} {μ1 : Mu} {E : EndsD} {D : Ends} {σ : St} {H1 G1 : Hp} (g0 : Same B.g G) (s1 : Same G G1) (h1 : Hold X.K H1 G1 B.f μ1) (sl : Slots X.K G1 σ ρ) (q : t E ρ μ1)
    (k1 : ∀ σ' H' G' ρ' μ', Same G G' → Hold X.K H' G' B.f μ' → Slots X.K G' σ' ρ' → E.nx ρ' μ' → D.nx σ' H') (k2 : ∀ v H' G' d μ', Same G G' → Hold X.K H' G' B.f μ' → At X.K G' v d → E.rt d μ' → D.rt v H')
    (k3 : ∀ σ' H' G' ρ' μ', Same G G' → Hold X.K H' G' B.f μ' → Slots X.K G' σ' ρ' → E.bk ρ' μ' → D.bk σ' H') (k4 : ∀ σ' H' G' ρ' μ', Same G G' → Hold X.K H' G' B.f μ' → Slots X.K G' σ' ρ' → E.ct ρ' μ' → D.ct σ' H') : lS X.K B t D σ H1 :=
  ⟨G1, ρ, μ1, E, g0.trans s1, h1, sl, q, fun σ2 H2 G2 ρ2 μ2 s2 => k1 σ2 H2 G2 ρ2 μ2 (s1.trans s2), fun v H2 G2 d μ2 s2 => k2 v H2 G2 d μ2 (s1.trans s2), fun σ2 H2 G2 ρ2 μ2 s2 => k3 σ2 H2 G2 ρ2 μ2 (s1.trans s2), fun σ2 H2 G2 ρ2 μ2 s2 => k4 σ2 H2 G2 ρ2 μ2 (s1.trans s2)⟩
theorem pds_if {c : Expr} {a b : List Stmt} {tc : TTD} {t u : TSD} {pos : Pos} (hc : PDT X B c tc) (ha : PDB X B a t) (hb : PDB X B b u) : PDS X B (.If c a b pos) (dIfS tc t u) := imS (ps_if hc ha hb) fun D σ H ⟨G, ρ, μ, E, g0, hh, sl, q, k1, k2, k3, k4⟩ => by
  refine ⟨G, ρ, μ, _, g0, hh, sl, q, fun c H1 G1 μ1 s1 h1 q1 => ?_⟩
  cases c with
  | true =>
    rw [if_pos rfl] at q1 ⊢
    exact lS_go g0 s1 h1 (sl.mono s1) q1 k1 k2 k3 k4
  | false =>
    rw [if_neg Bool.false_ne_true] at q1 ⊢
    exact lS_go g0 s1 h1 (sl.mono s1) q1 k1 k2 k3 k4
end
end Dl
namespace Dl
open PySem L2
/-! ### targets: a name, a row of names -/
inductive Tg where
  | nm (i : Nat)
  | tp (l : List Nat)
def gsOf : List Nat → TGs
  | [] => gNil
  | i :: r => gCons (gName i) (gsOf r)
def Tg.g (K : PySem.W.Frag) : Tg → TG
  | .nm i => gName i
  | .tp l => gTup K l.length (gsOf l)
def setAll : List Nat → List D → SD → SD
  | i :: r, x :: xs, ρ => setAll r xs (ρ.set i (some x))
  | _, _, ρ => ρ
def Tg.d : Tg → D → SD → (SD → Prop) → Prop
  | .nm i, x, ρ, k => k (ρ.set i (some x))
  | .tp l, .tup xs, ρ, k => xs.length = l.length ∧ k (setAll l xs ρ)
  | .tp _, _, _, _ => False
def Tg.slots : Tg → List Nat
  | .nm i => [i]
  | .tp l => l
def setAllV : List Nat → List V → St → St
  | i :: r, x :: xs, σ => setAllV r xs (σ.set i (some x))
  | _, _, σ => σ
theorem gsOf_go : ∀ (l : List Nat) (vs : List V) (σ : St) (H : Hp) (Q : St → Hp → Prop), vs.length = l.length → Q (setAllV l vs σ) H → gsOf l vs σ H Q
  | [], [], σ, H, Q, _, q => ⟨rfl, q⟩
  | i :: r, v :: vs, σ, H, Q, e, q => ⟨v, vs, rfl, gsOf_go r vs _ H Q (by simpa using e) q⟩
theorem slots_all {K : PySem.W.Frag} {G : Hp} : ∀ (l : List Nat) {vs : List V} {ds : List D} {σ : St} {ρ : SD}, Ats K G vs ds → Slots K G σ ρ → Slots K G (setAllV l vs σ) (setAll l ds ρ)
  | [], _, _, _, _, _, s => by
    unfold setAllV setAll
    exact s
  | i :: r, _, _, _, _, .nil, s => by
    unfold setAllV setAll
    exact s
  | i :: r, _, _, _, _, .cons h t, s => slots_all r t (s.set i h)
theorem wipe_set {σ : St} {i : Nat} {v : Option V} : ∀ {vs : List Nat}, i ∈ vs → wipe (σ.set i v) vs = wipe σ vs
  | j :: vs, h => by
    show (wipe (σ.set i v) vs).set j none = (wipe σ vs).set j none
    by_cases hm : i ∈ vs
    · rw [wipe_set hm]
    · have e : i = j := by
        rcases List.mem_cons.mp h with e | e
        · exact e
        · exact absurd e hm
      subst e
      have key : ∀ (ws : List Nat), i ∉ ws → wipe (σ.set i v) ws = (wipe σ ws).set i v := by
        intro ws
        induction ws with
        | nil => intro _; rfl
        | cons a r ih =>
          intro hn
          show (wipe (σ.set i v) r).set a none = ((wipe σ r).set a none).set i v
          rw [ih (fun z => hn (List.mem_cons_of_mem _ z)), List.set_comm]
          intro z; subst z; exact hn List.mem_cons_self
      rw [key vs hm, List.set_set]
theorem wipe_setAllV : ∀ (l : List Nat) (xs : List V) (σ : St) {vs : List Nat}, (∀ i ∈ l, i ∈ vs) → wipe (setAllV l xs σ) vs = wipe σ vs
  | [], _, σ, _, _ => by unfold setAllV; rfl
  | i :: r, [], σ, _, _ => by unfold setAllV; rfl
  | i :: r, x :: xs, σ, vs, h => by
    show wipe (setAllV r xs (σ.set i (some x))) vs = _
    rw [wipe_setAllV r xs _ (fun j hj => h j (List.mem_cons_of_mem _ hj)), wipe_set (h i List.mem_cons_self)]
theorem Tg.go {K : PySem.W.Frag} {H G F : Hp} {μ : Mu} {σ : St} {ρ : SD} {v : V} {d : D} {k : SD → Prop} {Q : St → Hp → Prop} (p : Tg) (hh : Hold K H G F μ) (sl : Slots K G σ ρ) (a : At K G v d) (h : p.d d ρ k)
    (kk : ∀ σ' ρ', Slots K G σ' ρ' → k ρ' → (∀ vs, (∀ i ∈ p.slots, i ∈ vs) → wipe σ' vs = wipe σ vs) → Q σ' H) : p.g K v σ H Q := by
  cases p with
  | nm i => exact kk _ _ (sl.set i a) h fun vs hv => wipe_set (hv i (List.mem_singleton.mpr rfl))
  | tp l =>
    cases a with
    | tup hq r =>
      obtain ⟨e, h⟩ := h
      refine ⟨_, _, rfl, same_seqT hh.sub hq, r.length.trans e, gsOf_go l _ σ H Q (r.length.trans e) (kk _ _ (slots_all l r sl) h fun vs hv => wipe_setAllV l _ σ hv)⟩
    | _ => exact h.elim
/-! ### what is walked -/
structure ItD (K : PySem.W.Frag) (J : It) (G : Hp) (ds : List D) : Prop where
  goes : ∀ i H G' F μ, i < ds.length → Same G G' → Hold K H G' F μ → J.go i H
  stops : ∀ H G' F μ, Same G G' → Hold K H G' F μ → J.stop ds.length H
  yields : ∀ i H x H' G' F μ, i < ds.length → Same G G' → Hold K H G' F μ → J.yld i H x H' → ∃ G'' d, Same G' G'' ∧ Hold K H' G'' F μ ∧ At K G'' x d ∧ ds[i]? = some d
def lI (K : PySem.W.Frag) (B : Bs) (t : TAD) : TI := fun σ H R => ∃ (G : Hp) (ρ : SD) (μ : Mu) (k : List D → Mu → Prop), Same B.g G ∧ Hold K H G B.f μ ∧ Slots K G σ ρ ∧ t ρ μ k ∧
  ∀ J H' G' ds μ', Same G G' → Hold K H' G' B.f μ' → ItD K J G' ds → k ds μ' → R J H'
abbrev PDI (X : Cx) (B : Bs) (tg iter : Expr) (t : TAD) : Prop := PI X tg iter (lI X.K B t)
theorem imI {X : Cx} {tg e : Expr} {t t' : TI} (h : PI X tg e t) (i : ∀ σ H R, t' σ H R → t σ H R) : PI X tg e t' := ⟨fun pins s σ H R I q => h.run pins s σ H R I (i _ _ _ q)⟩
section
variable {X : Cx} {B : Bs}
theorem itd_list {K : PySem.W.Frag} {G : Hp} {a : Addr} {vs : List V} {ds : List D} (h : SqL K G a vs) (r : Ats K G vs ds) : ItD K (Itl K a) G ds := by
  refine ⟨fun i H G' F μ hi s hh => ?_, fun H G' F μ s hh => ?_, fun i H x H' G' F μ hi s hh y => ?_⟩
  · obtain ⟨v, e, _⟩ := r.get (List.getElem?_eq_getElem hi)
    exact ⟨vs, v, (s.trans hh.sub).seq h, e⟩
  · exact ⟨vs, (s.trans hh.sub).seq h, by rw [r.length]; exact Nat.le_refl _⟩
  · obtain ⟨rfl, q⟩ := y
    obtain ⟨d, e, ad⟩ := r.get' (q vs ((s.trans hh.sub).seq h))
    exact ⟨G', d, Same.refl _, hh, ad.mono s, e⟩
theorem itd_tup {K : PySem.W.Frag} {G : Hp} {a : Addr} {vs : List V} {ds : List D} (h : SqT K G a vs) (r : Ats K G vs ds) : ItD K (Itt K a) G ds := by
  refine ⟨fun i H G' F μ hi s hh => ?_, fun H G' F μ s hh => ?_, fun i H x H' G' F μ hi s hh y => ?_⟩
  · obtain ⟨v, e, _⟩ := r.get (List.getElem?_eq_getElem hi)
    exact ⟨vs, v, same_seqT (s.trans hh.sub) h, e⟩
  · exact ⟨vs, same_seqT (s.trans hh.sub) h, by rw [r.length]; exact Nat.le_refl _⟩
  · obtain ⟨rfl, q⟩ := y
    obtain ⟨d, e, ad⟩ := r.get' (q vs (same_seqT (s.trans hh.sub) h))
    exact ⟨G', d, Same.refl _, hh, ad.mono s, e⟩
/-- lists and tuples alike: one of the two rules -/
theorem orI {tg e : Expr} {t t' : TI} (h : PI X tg e t) (h' : PI X tg e t') : PI X tg e (fun σ H R => t σ H R ∨ t' σ H R) := ⟨fun pins s σ H R I q => by
  rcases q with q | q
  · exact h.run pins s σ H R I q
  · exact h'.run pins s σ H R I q⟩
def dIs (f : D → Option (List D)) (t : TED) : TAD := fun ρ μ k => t ρ μ fun x μ1 => ∃ xs, f x = some xs ∧ k xs μ1
def asL : D → Option (List D)
  | .lst xs => some xs
  | _ => none
def asT : D → Option (List D)
  | .tup xs => some xs
  | _ => none
theorem pdi_list {tg e : Expr} {t : TED} (he : PD X B e t) : PDI X B tg e (dIs asL t) := imI (pi_list he) fun σ H R ⟨G, ρ, μ, k, g0, hh, sl, q, kk⟩ => by
  refine ⟨G, ρ, μ, _, g0, hh, sl, q, fun v H1 G1 d μ1 s1 h1 a1 q1 => ?_⟩
  obtain ⟨xs, e, q1⟩ := q1
  cases a1 with
  | lst hq r =>
    cases e
    exact ⟨_, rfl, ⟨_, h1.sub.seq hq⟩, kk _ H1 G1 _ μ1 s1 h1 (itd_list hq r) q1⟩
  | _ => cases e
theorem pdi_tup {tg e : Expr} {t : TED} (he : PD X B e t) : PDI X B tg e (dIs asT t) := imI (pi_tup he) fun σ H R ⟨G, ρ, μ, k, g0, hh, sl, q, kk⟩ => by
  refine ⟨G, ρ, μ, _, g0, hh, sl, q, fun v H1 G1 d μ1 s1 h1 a1 q1 => ?_⟩
  obtain ⟨xs, e, q1⟩ := q1
  cases a1 with
  | tup hq r =>
    cases e
    exact ⟨_, rfl, ⟨_, same_seqT h1.sub hq⟩, kk _ H1 G1 _ μ1 s1 h1 (itd_tup hq r) q1⟩
  | _ => cases e
/-- range -/
def rngD (lo : Int) (n : Nat) : List D := (List.range n).map fun (i : Nat) => D.int (lo + i)
theorem itd_range {K : PySem.W.Frag} {G : Hp} {lo : Int} {n : Nat} : ItD K (Itr lo n) G (rngD lo n) := by
  have hl : (rngD lo n).length = n := by unfold rngD; rw [List.length_map, List.length_range]
  refine ⟨fun i H G' F μ hi s hh => by rw [hl] at hi; exact hi, fun H G' F μ s hh => by rw [hl]; exact Nat.le_refl _, fun i H x H' G' F μ hi s hh y => ?_⟩
  obtain ⟨rfl, rfl⟩ := y
  refine ⟨G', .int (lo + i), Same.refl _, hh, .int _, ?_⟩
  rw [hl] at hi
  unfold rngD
  rw [List.getElem?_map, List.getElem?_range hi]
  rfl
def dRange1 (t : TAD) : TAD := fun ρ μ k => t ρ μ fun vs μ1 => ∃ j : Int, vs = [.int j] ∧ (-(2 ^ 62) ≤ j ∧ j < 2 ^ 62) ∧ k (rngD 0 j.toNat) μ1
def dRange2 (t : TAD) : TAD := fun ρ μ k => t ρ μ fun vs μ1 => ∃ i j : Int, vs = [.int i, .int j] ∧ (-(2 ^ 62) ≤ i ∧ i < 2 ^ 62 ∧ -(2 ^ 62) ≤ j ∧ j < 2 ^ 62) ∧ k (rngD i (j - i).toNat) μ1
theorem Ats.one {K : PySem.W.Frag} {G : Hp} {vs : List V} {d : D} (h : Ats K G vs [d]) : ∃ v, vs = [v] ∧ At K G v d := by
  cases h with
  | cons a t => cases t; exact ⟨_, rfl, a⟩
theorem Ats.two {K : PySem.W.Frag} {G : Hp} {vs : List V} {d e : D} (h : Ats K G vs [d, e]) : ∃ v w, vs = [v, w] ∧ At K G v d ∧ At K G w e := by
  cases h with
  | cons a t =>
    obtain ⟨w, rfl, b⟩ := t.one
    exact ⟨_, _, rfl, a, b⟩
theorem Ats.three {K : PySem.W.Frag} {G : Hp} {vs : List V} {d e f : D} (h : Ats K G vs [d, e, f]) : ∃ v w z, vs = [v, w, z] ∧ At K G v d ∧ At K G w e ∧ At K G z f := by
  cases h with
  | cons a t =>
    obtain ⟨w, z, rfl, b, c⟩ := t.two
    exact ⟨_, _, _, rfl, a, b, c⟩
theorem pdi_range1 {tg a : Expr} {t : TAD} {p pos : Pos} (hm : X.mg "range" = none) (ha : PDA X B [a] t) (hg : Gl X "range" := by rfl) (hs : starEach [a] X.env = [(false, eval a X.env)] := by rfl) : PDI X B tg (.Call (.Name "range" p) [a] [] pos) (dRange1 t) := imI (pi_range1 hg hm ha hs) fun σ H R ⟨G, ρ, μ, k, g0, hh, sl, q, kk⟩ => by
  refine ⟨G, ρ, μ, _, g0, hh, sl, q, fun vs H1 G1 ds μ1 s1 h1 a1 q1 => ?_⟩
  obtain ⟨j, rfl, ⟨b1, b2⟩, q1⟩ := q1
  obtain ⟨v, rfl, av⟩ := a1.one
  rw [av.int_inv]
  exact ⟨j, rfl, b1, b2, kk _ H1 G1 _ μ1 s1 h1 itd_range q1⟩
theorem pdi_range2 {tg a b : Expr} {t : TAD} {p pos : Pos} (hm : X.mg "range" = none) (ha : PDA X B [a, b] t) (hg : Gl X "range" := by rfl) (hs : starEach [a, b] X.env = [(false, eval a X.env), (false, eval b X.env)] := by rfl) (hs2 : starEach [b] X.env = [(false, eval b X.env)] := by rfl) : PDI X B tg (.Call (.Name "range" p) [a, b] [] pos) (dRange2 t) := imI (pi_range2 hg hm ha hs hs2) fun σ H R ⟨G, ρ, μ, k, g0, hh, sl, q, kk⟩ => by
  refine ⟨G, ρ, μ, _, g0, hh, sl, q, fun vs H1 G1 ds μ1 s1 h1 a1 q1 => ?_⟩
  obtain ⟨i, j, rfl, b, q1⟩ := q1
  obtain ⟨v, w, rfl, av, aw⟩ := a1.two
  rw [av.int_inv, aw.int_inv]
  exact ⟨i, j, rfl, b, kk _ H1 G1 _ μ1 s1 h1 itd_range q1⟩
/-! ### pairs: zip, enumerate -/
def zipD : List D → List D → List D
  | x :: xs, y :: ys => .tup [x, y] :: zipD xs ys
  | _, _ => []
theorem zipD_len : ∀ xs ys : List D, (zipD xs ys).length = min xs.length ys.length
  | x :: xs, y :: ys => by
    show (zipD xs ys).length + 1 = min (xs.length + 1) (ys.length + 1)
    rw [zipD_len xs ys]; omega
  | [], _ => by simp [zipD]
  | _ :: _, [] => by simp [zipD]
theorem zipD_get : ∀ (xs ys : List D) (i : Nat) (x y : D), xs[i]? = some x → ys[i]? = some y → (zipD xs ys)[i]? = some (.tup [x, y])
  | x :: xs, y :: ys, 0, a, b, h, h2 => by
    cases h; cases h2; rfl
  | x :: xs, y :: ys, i + 1, a, b, h, h2 => zipD_get xs ys i a b h h2
  | [], _, _, _, _, h, _ => by simp at h
  | _ :: _, [], _, _, _, _, h => by simp at h
theorem yld_pair {K : PySem.W.Frag} {H G F : Hp} {μ : Mu} {T : Addr} {v w : V} {x y : D} (hh : Hold K H G F μ) (n : H T = none) (a : At K G v x) (b : At K G w y) : ∃ G'', Same G G'' ∧ Hold K (upd H T (.tup [v, w])) G'' F μ ∧ At K G'' (.ref T) (.tup [x, y]) := by
  have gn := hh.g_none n
  exact ⟨upd G T (.tup [v, w]), same_upd gn, hh.new n _, .tup (SqT.of upd_same) (.cons (a.mono (same_upd gn)) (.cons (b.mono (same_upd gn)) .nil))⟩
theorem itd_zip {K : PySem.W.Frag} {G : Hp} {a b : Addr} {vs ws : List V} {ds es : List D} (h : SqL K G a vs) (h2 : SqL K G b ws) (r : Ats K G vs ds) (r2 : Ats K G ws es) : ItD K (Itz K a b) G (zipD ds es) := by
  have w := walk_zip (K := K) (a := a) (b := b) (xs := vs) (ys := ws) (n := min vs.length ws.length) rfl
  have hl : (zipD ds es).length = min vs.length ws.length := by rw [zipD_len, r.length, r2.length]
  have st : ∀ {H G' F : Hp} {μ : Mu}, Same G G' → Hold K H G' F μ → SqL K H a vs ∧ SqL K H b ws := fun s hh => ⟨(s.trans hh.sub).seq h, (s.trans hh.sub).seq h2⟩
  refine ⟨fun i H G' F μ hi s hh => w.goes i H (by omega) (st s hh), fun H G' F μ s hh => by rw [hl]; exact w.stops H (st s hh), fun i H x H' G' F μ hi s hh y => ?_⟩
  obtain ⟨T, v1, v2, rfl, nT, rfl, e1, e2⟩ := w.yields i H x H' (by omega) (st s hh) y
  obtain ⟨d1, f1, ad1⟩ := r.get' e1
  obtain ⟨d2, f2, ad2⟩ := r2.get' e2
  obtain ⟨G'', s2, h3, a3⟩ := yld_pair hh nT (ad1.mono s) (ad2.mono s)
  exact ⟨G'', _, s2, h3, a3, zipD_get _ _ _ _ _ f1 f2⟩
def dZip (t : TAD) : TAD := fun ρ μ k => t ρ μ fun vs μ1 => ∃ xs ys, vs = [.lst xs, .lst ys] ∧ k (zipD xs ys) μ1
def enumD (i : Int) : List D → List D
  | [] => []
  | x :: xs => .tup [.int i, x] :: enumD (i + 1) xs
theorem enumD_len : ∀ (i : Int) (xs : List D), (enumD i xs).length = xs.length
  | _, [] => rfl
  | i, x :: xs => by show (enumD (i + 1) xs).length + 1 = _; rw [enumD_len]; rfl
theorem enumD_get : ∀ (j : Int) (xs : List D) (i : Nat) (x : D), xs[i]? = some x → (enumD j xs)[i]? = some (.tup [.int (j + i), x])
  | j, x :: xs, 0, a, h => by
    cases h
    show some (D.tup [.int j, x]) = _
    rw [show j + ((0 : Nat) : Int) = j by omega]
  | j, x :: xs, i + 1, a, h => by
    show (enumD (j + 1) xs)[i]? = _
    rw [enumD_get (j + 1) xs i a h, show j + 1 + (i : Int) = j + ((i + 1 : Nat) : Int) by omega]
  | _, [], _, _, h => by simp at h
theorem itd_enum {K : PySem.W.Frag} {G : Hp} {a : Addr} {vs : List V} {ds : List D} (h : SqL K G a vs) (r : Ats K G vs ds) : ItD K (Ite K a) G (enumD 0 ds) := by
  have w := walk_enum (K := K) (a := a) (xs := vs)
  have hl : (enumD 0 ds).length = vs.length := by rw [enumD_len, r.length]
  have st : ∀ {H G' F : Hp} {μ : Mu}, Same G G' → Hold K H G' F μ → SqL K H a vs := fun s hh => (s.trans hh.sub).seq h
  refine ⟨fun i H G' F μ hi s hh => w.goes i H (by omega) (st s hh), fun H G' F μ s hh => by rw [hl]; exact w.stops H (st s hh), fun i H x H' G' F μ hi s hh y => ?_⟩
  obtain ⟨T, v1, v2, rfl, nT, rfl, e1, e2⟩ := w.yields i H x H' (by omega) (st s hh) y
  cases e1
  obtain ⟨d2, f2, ad2⟩ := r.get' e2
  obtain ⟨G'', s2, h3, a3⟩ := yld_pair hh nT (.int _) (ad2.mono s)
  exact ⟨G'', _, s2, h3, a3, by rw [enumD_get 0 ds i d2 f2, Int.zero_add]⟩
def dEnum (t : TAD) : TAD := fun ρ μ k => t ρ μ fun vs μ1 => ∃ xs, vs = [.lst xs] ∧ k (enumD 0 xs) μ1
theorem pdi_zip {e e2 : Expr} {t : TAD} {p pos tpos : Pos} {elts : List Expr} {kk : Nat} (hm : X.mg "zip" = none) (ha : PDA X B [e, e2] t) (hg : Gl X "zip" := by rfl) (hs : starEach [e, e2] X.env = (false, eval e X.env) :: starEach [e2] X.env := by rfl) (hpl : (backTo pos (starEach [e2] X.env)).any (·.1) = false := by rfl) : PDI X B (.Tuple elts kk tpos) (.Call (.Name "zip" p) [e, e2] [] pos) (dZip t) := imI (pi_zip hg hm ha hs hpl) fun σ H R ⟨G, ρ, μ, k, g0, hh, sl, q, kk⟩ => by
  refine ⟨G, ρ, μ, _, g0, hh, sl, q, fun vs H1 G1 ds μ1 s1 h1 a1 q1 => ?_⟩
  obtain ⟨xs, ys, rfl, q1⟩ := q1
  obtain ⟨v, w, rfl, av, aw⟩ := a1.two
  cases av with
  | lst hv rv =>
    cases aw with
    | lst hw rw_ => exact ⟨_, _, _, _, rfl, h1.sub.seq hv, h1.sub.seq hw, kk _ H1 G1 _ μ1 s1 h1 (itd_zip hv hw rv rw_) q1⟩
theorem pdi_enum {e : Expr} {t : TAD} {p pos tpos : Pos} {elts : List Expr} {kk : Nat} (hm : X.mg "enumerate" = none) (ha : PDA X B [e] t) (hg : Gl X "enumerate" := by rfl) (hs : starEach [e] X.env = [(false, eval e X.env)] := by rfl) : PDI X B (.Tuple elts kk tpos) (.Call (.Name "enumerate" p) [e] [] pos) (dEnum t) := imI (pi_enum hg hm ha hs) fun σ H R ⟨G, ρ, μ, k, g0, hh, sl, q, kk⟩ => by
  refine ⟨G, ρ, μ, _, g0, hh, sl, q, fun vs H1 G1 ds μ1 s1 h1 a1 q1 => ?_⟩
  obtain ⟨xs, rfl, q1⟩ := q1
  obtain ⟨v, rfl, av⟩ := a1.one
  cases av with
  | lst hv rv => exact ⟨_, _, rfl, h1.sub.seq hv, kk _ H1 G1 _ μ1 s1 h1 (itd_enum hv rv) q1⟩
/-! ### for, while -/
def dLoop (p : Tg) (tb : TSD) (E : EndsD) : List D → SD → Mu → Prop
  | [], ρ, μ => E.nx ρ μ
  | x :: r, ρ, μ => p.d x ρ fun ρ2 => tb { E with nx := dLoop p tb E r, ct := dLoop p tb E r, bk := E.nx } ρ2 μ
def dFor (src : TAD) (p : Tg) (tb : TSD) : TSD := fun E ρ μ => src ρ μ fun ds μ1 => dLoop p tb E ds ρ μ1
theorem drop_cons {α : Type} {l : List α} {i : Nat} {x : α} (h : l[i]? = some x) : l.drop i = x :: l.drop (i + 1) := by
  have hi : i < l.length := by
    rcases Nat.lt_or_ge i l.length with h1 | h1
    · exact h1
    · rw [List.getElem?_eq_none h1] at h; cases h
  rw [List.drop_eq_getElem_cons hi]
  rw [List.getElem?_eq_getElem hi] at h
  cases h; rfl
theorem pds_for {tg iter : Expr} {body : List Stmt} {src : TAD} {p : Tg} {tb : TSD} {pos : Pos} (hp : PassesOwn (model X.prog X.w) X.A X.env X.xe) (hc : X.calm = true) (hi : PDI X B tg iter src) (hg : PG X tg (p.g X.K)) (hb : PDB X B body tb)
    (hs : ∀ x, foldedSetIterable iter X.env x = pure x := by intro _; rfl) : PDS X B (.For tg iter body [] pos) (dFor src p tb) := imS (ps_for hp hc hi hg hb hs) fun D σ H ⟨G, ρ, μ, E, g0, hh, sl, q, k1, k2, k3, k4⟩ => by
  refine ⟨G, ρ, μ, _, g0, hh, sl, q, fun J H1 G1 ds μ1 s1 h1 it q1 => ?_⟩
  refine ⟨fun i m σ H => i + m = ds.length ∧ ∃ G2 ρ μ, Same G1 G2 ∧ Hold X.K H G2 B.f μ ∧ Slots X.K G2 σ ρ ∧ dLoop p tb E (ds.drop i) ρ μ, ⟨ds.length, by omega, G1, ρ, μ1, Same.refl _, h1, sl.mono s1, q1⟩, ?_⟩
  rintro i m σ H ⟨em, G2, ρ, μ, s2, h2, sl2, q2⟩
  by_cases hlt : i < ds.length
  · right
    refine ⟨it.goes i H G2 B.f μ hlt s2 h2, fun σ' H' => ∃ G3 ρ μ, Same G1 G3 ∧ Hold X.K H' G3 B.f μ ∧ Slots X.K G3 σ' ρ ∧ dLoop p tb E (ds.drop (i + 1)) ρ μ, fun σ' H' ⟨G3, ρ', μ', s3, h3, sl3, q3⟩ => ⟨m - 1, by omega, by omega, G3, ρ', μ', s3, h3, sl3, q3⟩, fun x H' hy => ?_⟩
    obtain ⟨G3, d, s3, h3, a3, ed⟩ := it.yields i H x H' G2 B.f μ hlt s2 h2 hy
    rw [drop_cons ed] at q2
    refine Tg.go p h3 (sl2.mono s3) a3 q2 fun σ' ρ' sl' q' _ => ?_
    have s03 : Same G G3 := (s1.trans s2).trans s3
    refine ⟨G3, ρ', μ, _, g0.trans s03, h3, sl', q', fun σ4 H4 G4 ρ4 μ4 s4 h4 sl4 q4 => ⟨G4, ρ4, μ4, (s2.trans s3).trans s4, h4, sl4, q4⟩, fun v H4 G4 d4 μ4 s4 => k2 v H4 G4 d4 μ4 (s03.trans s4), fun σ4 H4 G4 ρ4 μ4 s4 => k1 σ4 H4 G4 ρ4 μ4 (s03.trans s4), fun σ4 H4 G4 ρ4 μ4 s4 h4 sl4 q4 => ⟨G4, ρ4, μ4, (s2.trans s3).trans s4, h4, sl4, q4⟩⟩
  · left
    have e : i = ds.length := by omega
    subst e
    rw [List.drop_length] at q2
    exact ⟨it.stops H G2 B.f μ s2 h2, k1 σ H G2 ρ μ (s1.trans s2) h2 sl2 q2⟩
def dWhile (c : TTD) (tb : TSD) : TSD := fun E ρ μ => ∃ W : Nat → SD → Mu → Prop, (∃ m, W m ρ μ) ∧ ∀ m ρ μ, W m ρ μ →
  c ρ μ fun b μ1 => if b = true then ∃ N : SD → Mu → Prop, (∀ ρ' μ', N ρ' μ' → ∃ m', m' < m ∧ W m' ρ' μ') ∧ tb { E with nx := N, ct := N, bk := E.nx } ρ μ1 else E.nx ρ μ1
theorem pds_while {c : Expr} {body : List Stmt} {tc : TTD} {tb : TSD} {pos : Pos} (hp : PassesOwn (model X.prog X.w) X.A X.env X.xe) (hc : PDT X B c tc) (hb : PDB X B body tb) : PDS X B (.While c body [] pos) (dWhile tc tb) := imS (ps_while hp hc hb) fun D σ H ⟨G, ρ, μ, E, g0, hh, sl, ⟨W, ⟨m, w0⟩, hW⟩, k1, k2, k3, k4⟩ => by
  refine ⟨fun m σ H => ∃ G1 ρ μ, Same G G1 ∧ Hold X.K H G1 B.f μ ∧ Slots X.K G1 σ ρ ∧ W m ρ μ, ⟨m, G, ρ, μ, Same.refl _, hh, sl, w0⟩, ?_⟩
  rintro m σ H ⟨G1, ρ, μ, s1, h1, sl1, w1⟩
  refine ⟨G1, ρ, μ, _, g0.trans s1, h1, sl1, hW m ρ μ w1, fun b H2 G2 μ2 s2 h2 q2 => ?_⟩
  cases b with
  | true =>
    rw [if_pos rfl] at q2 ⊢
    obtain ⟨N, hN, q2⟩ := q2
    have s02 := s1.trans s2
    refine ⟨fun σ' H' => ∃ G1 ρ μ, Same G G1 ∧ Hold X.K H' G1 B.f μ ∧ Slots X.K G1 σ' ρ ∧ N ρ μ, fun σ' H' ⟨G3, ρ', μ', s3, h3, sl3, q3⟩ => ?_, ?_⟩
    · obtain ⟨m', hm, hw⟩ := hN _ _ q3
      exact ⟨m', hm, G3, ρ', μ', s3, h3, sl3, hw⟩
    · exact ⟨G2, ρ, μ2, _, g0.trans s02, h2, sl1.mono s2, q2, fun σ4 H4 G4 ρ4 μ4 s4 h4 sl4 q4 => ⟨G4, ρ4, μ4, s02.trans s4, h4, sl4, q4⟩, fun v H4 G4 d4 μ4 s4 => k2 v H4 G4 d4 μ4 (s02.trans s4), fun σ4 H4 G4 ρ4 μ4 s4 => k1 σ4 H4 G4 ρ4 μ4 (s02.trans s4), fun σ4 H4 G4 ρ4 μ4 s4 h4 sl4 q4 => ⟨G4, ρ4, μ4, s02.trans s4, h4, sl4, q4⟩⟩
  | false =>
    rw [if_neg Bool.false_ne_true] at q2 ⊢
    exact k1 σ H2 G2 ρ μ2 (s1.trans s2) h2 (sl1.mono s2) q2
end
end Dl
namespace Dl
open PySem L2
section
variable {X : Cx} {B : Bs}
/-! ### assignments -/
def dAsg (t : TED) (p : Tg) : TSD := fun E ρ μ => t ρ μ fun x μ1 => p.d x ρ fun ρ2 => E.nx ρ2 μ1
theorem lAsg {t : TED} {p : Tg} (D : Ends) (σ : St) (H : Hp) (h : lS X.K B (dAsg t p) D σ H) : tAsg (lE X.K B t) (p.g X.K) D σ H := by
  obtain ⟨G, ρ, μ, E, g0, hh, sl, q, k1, k2, k3, k4⟩ := h
  refine ⟨G, ρ, μ, _, g0, hh, sl, q, fun v H1 G1 d μ1 s1 h1 a1 q1 => ?_⟩
  exact Tg.go p h1 (sl.mono s1) a1 q1 fun σ' ρ' sl' q' _ => k1 σ' H1 G1 ρ' μ1 s1 h1 sl' q'
theorem pds_set {i : Nat} {x : Str} {e : Expr} {t : TED} {pos pos' : Pos} (hN : X.N.Nodup) (he : PD X B e t) (hi : X.N[i]? = some x := by rfl) (hx : Loc X.env.scope x := by first | exact Or.inl rfl | exact Or.inr rfl) (hs : swapsWith e (some (.Name x pos')) pos.line X.env = pure false := by rfl) (hf : X.fn x = true ∨ X.env.scope.names.lookup x = some .local := by first | exact .inl rfl | exact .inr rfl | assumption) :
    PDS X B (.Assign [.Name x pos'] e pos) (dAsg t (.nm i)) := imS (ps_set hN hi hx he hs hf) (lAsg (p := .nm i))
/-- (a, b, ..) = e, e a tuple -/
theorem pds_unp {tg e : Expr} {t : TED} {p : Tg} {pos : Pos} (he : PD X B e t) (hg : PG X tg (p.g X.K)) (hs : swapsWithSole [tg] e pos.line X.env = pure false := by rfl) (hw : swappedStores [tg] e X.env = pure none := by rfl) (h1 : (assignEach [tg] X.env).map (·.2) = [assign tg X.env] := by rfl) :
    PDS X B (.Assign [tg] e pos) (dAsg t p) := imS (ps_asg he hg hs hw h1) lAsg
/-- a, b = x, y, both local -/
def dPar (i j : Nat) (t : TAD) : TSD := fun E ρ μ => t ρ μ fun ds μ1 => ∃ x y, ds = [x, y] ∧ E.nx ((ρ.set i (some x)).set j (some y)) μ1
theorem pds_par {i j : Nat} {x y : Str} {a b : Expr} {t : TAD} {px py pt pos : Pos} {kt k2 pt2} (hc : X.calm = true) (hN : X.N.Nodup) (ha : PDA X B [a, b] t) (hi : X.N[i]? = some x := by rfl) (hj : X.N[j]? = some y := by rfl) (hij : i ≠ j := by decide)
    (hx : X.env.scope.names.lookup x = some .local := by rfl) (hy : X.env.scope.names.lookup y = some .local := by rfl)
    (hw : swappedStores [.Tuple [.Name x px, .Name y py] kt pt] (.Tuple [a, b] k2 pt2) X.env = pure (some [x, y]) := by rfl)
    (hs : swapsWithSole [.Tuple [.Name x px, .Name y py] kt pt] (.Tuple [a, b] k2 pt2) pos.line X.env = pure false := by rfl) :
    PDS X B (.Assign [.Tuple [.Name x px, .Name y py] kt pt] (.Tuple [a, b] k2 pt2) pos) (dPar i j t) := imS (ps_par hc hN hi hj hij hx hy ha hw hs) fun D σ H ⟨G, ρ, μ, E, g0, hh, sl, q, k1, k2, k3, k4⟩ => by
  refine ⟨G, ρ, μ, _, g0, hh, sl, q, fun vs H1 G1 ds μ1 s1 h1 a1 q1 => ?_⟩
  obtain ⟨x, y, rfl, q1⟩ := q1
  obtain ⟨v, w, rfl, av, aw⟩ := a1.two
  exact ⟨v, w, rfl, k1 _ H1 G1 _ μ1 s1 h1 (((sl.mono s1).set i av).set j aw) q1⟩
/-! ### comprehensions -/
def wipeD (ρ : SD) : List Nat → SD
  | [] => ρ
  | v :: vs => (wipeD ρ vs).set v none
theorem slots_wipe {K : PySem.W.Frag} {G : Hp} {σ : St} {ρ : SD} (s : Slots K G σ ρ) : ∀ vs : List Nat, Slots K G (wipe σ vs) (wipeD ρ vs)
  | [] => s
  | v :: vs => (slots_wipe s vs).wipe v none
theorem wipe_wipe (σ : St) (vs : List Nat) : wipe (wipe σ vs) vs = wipe σ vs := by
  refine List.ext_getElem? fun i => ?_
  by_cases hi : i ∈ vs
  · have key : ∀ τ : St, τ.length = σ.length → (wipe τ vs)[i]? = if i < σ.length then some none else none := by
      intro τ ht
      cases e : (wipe τ vs)[i]? with
      | none =>
        have := List.getElem?_eq_none_iff.mp e
        rw [wipe_length, ht] at this
        rw [if_neg (by omega)]
      | some o =>
        have hl : i < (wipe τ vs).length := by
          rcases Nat.lt_or_ge i (wipe τ vs).length with h | h
          · exact h
          · rw [List.getElem?_eq_none h] at e; cases e
        rw [wipe_length, ht] at hl
        rw [if_pos hl]
        cases o with
        | none => rfl
        | some v => exact absurd hi (wipe_some e).2
    rw [key _ (wipe_length σ vs), key σ rfl]
  · rw [wipe_out hi]
def lcGo (p : Tg) (tt : TTD) (te : TED) (ρ : SD) : List D → List D → Mu → (List D → Mu → Prop) → Prop
  | [], acc, μ, k => k acc μ
  | x :: r, acc, μ, k => p.d x ρ fun ρ2 => tt ρ2 μ fun b μ1 => if b = true then te ρ2 μ1 fun y μ2 => lcGo p tt te ρ r (acc ++ [y]) μ2 k else lcGo p tt te ρ r acc μ1 k
def dLc (src : TAD) (p : Tg) (tt : TTD) (te : TED) (vs : List Nat) : TED := fun ρ μ k => src ρ μ fun ds μ1 => ds.length ≤ 100000 ∧ lcGo p tt te (wipeD ρ vs) ds [] μ1 fun out μ2 => k (.lst out) μ2
def dYes : TTD := fun _ μ k => k true μ
/-- the block's readings, whatever the frame -/
def aE (K : PySem.W.Frag) (g : Hp) (t : TED) : TE := fun σ H Q => ∃ f, lE K ⟨g, f⟩ t σ H Q
def aT (K : PySem.W.Frag) (g : Hp) (t : TTD) : TT := fun σ H Q => ∃ f, lT K ⟨g, f⟩ t σ H Q
theorem allE {e : Expr} {g : Hp} {t : TED} (h : ∀ f, PD X ⟨g, f⟩ e t) : PE X e (aE X.K g t) := ⟨fun pins s σ H Q I ⟨f, q⟩ => (h f).run pins s σ H Q I q⟩
theorem allT {e : Expr} {g : Hp} {t : TTD} (h : ∀ f, PDT X ⟨g, f⟩ e t) : PT X e (aT X.K g t) := ⟨fun pins s σ H Q I ⟨f, q⟩ => (h f).run pins s σ H Q I q⟩
theorem pts_yes {g : Hp} : PTs X [] (aT X.K g dYes) := ⟨fun pins s σ H Q I ⟨f, G, ρ, μ, k, g0, hh, sl, q, kk⟩ => pts_nil.run pins s σ H Q I (kk true H G μ (Same.refl G) hh q)⟩
theorem pts_if {c : Expr} {g : Hp} {t : TTD} (h : ∀ f, PDT X ⟨g, f⟩ c t) : PTs X [c] (aT X.K g t) := pts_one (allT h)
theorem lLc {src : TAD} {p : Tg} {tt : TTD} {te : TED} {vs : List Nat} (hv : ∀ i ∈ p.slots, i ∈ vs) (σ : St) (H : Hp) (Q : VK) (h : lE X.K B (dLc src p tt te vs) σ H Q) :
    tLc (lI X.K B src) (p.g X.K) (aT X.K B.g tt) (aE X.K B.g te) vs σ H Q := by
  obtain ⟨G, ρ, μ, k, g0, hh, sl, q, kk⟩ := h
  refine ⟨G, ρ, μ, _, g0, hh, sl, q, fun J H1 G1 ds μ1 s1 h1 it q1 D nD => ?_⟩
  obtain ⟨hz, q1⟩ := q1
  have slw := slots_wipe (sl.mono s1) vs
  have fD := h1.f_none nD
  refine ⟨fun i m H => i + m = ds.length ∧ ∃ G2 μ2 acc ys, Same G1 G2 ∧ H D = some (.lst acc) ∧ acc.length ≤ i ∧ Hold X.K H G2 (upd B.f D (.lst acc)) μ2 ∧ Ats X.K G2 acc ys ∧ lcGo p tt te (wipeD ρ vs) (ds.drop i) ys μ2 fun out μ2 => k (.lst out) μ2,
    ⟨ds.length, by omega, G1, μ1, [], [], Same.refl _, upd_same, Nat.zero_le _, h1.newF nD _, .nil, q1⟩, ?_⟩
  rintro i m H ⟨em, G2, μ2, acc, ys, s2, hD, la, h2, ra, q2⟩
  by_cases hlt : i < ds.length
  · right
    refine ⟨it.goes i H G2 _ μ2 hlt s2 h2, fun H' => ∃ G3 μ3 acc ys, Same G1 G3 ∧ H' D = some (.lst acc) ∧ acc.length ≤ i + 1 ∧ Hold X.K H' G3 (upd B.f D (.lst acc)) μ3 ∧ Ats X.K G3 acc ys ∧ lcGo p tt te (wipeD ρ vs) (ds.drop (i + 1)) ys μ3 fun out μ2 => k (.lst out) μ2, fun H' ⟨G3, μ3, acc3, ys3, z⟩ => ⟨m - 1, by omega, by omega, G3, μ3, acc3, ys3, z⟩, fun x H' hy => ?_⟩
    obtain ⟨G3, d, s3, h3, a3, ed⟩ := it.yields i H x H' G2 _ μ2 hlt s2 h2 hy
    rw [drop_cons ed] at q2
    refine Tg.go p h3 (slw.mono (s2.trans s3)) a3 q2 fun σ' ρ' sl' q' hw => ⟨(hw vs hv).trans ?_, ?_⟩
    · exact wipe_wipe σ vs
    · have s13 := s2.trans s3
      refine ⟨upd B.f D (.lst acc), G3, ρ', μ2, _, g0.trans (s1.trans s13), h3, sl', q', fun b H4 G4 μ4 s4 h4 q4 => ?_⟩
      have hD4 : H4 D = some (.lst acc) := h4.fr D _ upd_same
      cases b with
      | true =>
        dsimp only at q4 ⊢
        rw [if_pos rfl] at q4 ⊢
        refine ⟨upd B.f D (.lst acc), G4, ρ', μ4, _, g0.trans ((s1.trans s13).trans s4), h4, sl'.mono s4, q4, fun y H5 G5 d5 μ5 s5 h5 a5 q5 => ?_⟩
        refine ⟨acc, h5.fr D _ upd_same, Nat.lt_of_le_of_lt la (Nat.lt_of_lt_of_le hlt (line_of hz)), G5, μ5, _, ys ++ [d5], (s13.trans s4).trans s5, upd_same, by rw [List.length_append]; simp; omega, ?_, (((ra.mono s3).mono s4).mono s5).append (.cons a5 .nil), q5⟩
        have w := h5.writeF (p := D) (u := .lst acc) upd_same (.lst (acc ++ [y]))
        rw [upd_upd] at w
        exact w
      | false =>
        dsimp only at q4 ⊢
        rw [if_neg Bool.false_ne_true] at q4 ⊢
        exact ⟨G4, μ4, acc, ys, s13.trans s4, hD4, by omega, h4, (ra.mono s3).mono s4, q4⟩
  · left
    have e : i = ds.length := by omega
    subst e
    rw [List.drop_length] at q2
    obtain ⟨h3, s3⟩ := h2.freezeF (F0 := B.f) (p := D) (o := .lst acc) upd_same fD (fun b x e => by rw [upd_ne (ne_of_none e fD)]; exact e)
    exact ⟨it.stops H G2 _ μ2 s2 h2, kk _ H _ _ μ2 ((s1.trans s2).trans s3) h3 (.lst (SqL.of upd_same) (ra.mono s3)) q2⟩
end
end Dl
namespace Dl
open PySem L2
section
variable {X : Cx} {B : Bs}
theorem pd_lc {elt tg iter : Expr} {ifs : List Expr} {scope : Scope} {own : List (Str × Nat)} {pos : Pos} {src : TAD} {p : Tg} {tt : TTD} {te : TED} (hc : X.calm = true) (hN : X.N.Nodup) (hi : PDI X B tg iter src) (ok : BlkOk X.N X.env.scope scope own)
    (hg : ∀ (s : Shared) (H : Hp) (C : Addr) (cl : List (Str × Addr)) (fp : List Addr), PG (X.blk s H scope (compEnvC scope cl C X.env) fp) tg (p.g X.K))
    (ht : ∀ (s : Shared) (H : Hp) (C : Addr) (cl : List (Str × Addr)) (fp : List Addr), PTs (X.blk s H scope (compEnvC scope cl C X.env) fp) ifs (aT X.K B.g tt))
    (he : ∀ (s : Shared) (H : Hp) (C : Addr) (cl : List (Str × Addr)) (fp : List Addr) (f : Hp), PD (X.blk s H scope (compEnvC scope cl C X.env) fp) ⟨B.g, f⟩ elt te)
    (hv : ∀ i ∈ p.slots, i ∈ own.map (·.2) := by decide) (hs : ∀ x, foldedSetIterable iter X.env x = pure x := by intro _; rfl) : PD X B (.ListComp elt [⟨tg, iter, ifs, 0⟩] scope pos) (dLc src p tt te (own.map (·.2))) :=
  imE (pe_lc hc hN hi ok hg ht (fun s H C cl fp => allE (fun f => he s H C cl fp f)) hs) (lLc hv)
theorem pds_setLc {i : Nat} {y : Str} {py : Pos} {elt tg iter : Expr} {ifs : List Expr} {scope : Scope} {own : List (Str × Nat)} {pos spos : Pos} {src : TAD} {p : Tg} {tt : TTD} {te : TED} (hc : X.calm = true) (hN : X.N.Nodup) (hi : PDI X B tg iter src) (ok : BlkOk X.N X.env.scope scope own)
    (hg : ∀ (s : Shared) (H : Hp) (C : Addr) (cl : List (Str × Addr)) (fp : List Addr), PG (X.blk s H scope (compEnvC scope cl C X.env) fp) tg (p.g X.K))
    (ht : ∀ (s : Shared) (H : Hp) (C : Addr) (cl : List (Str × Addr)) (fp : List Addr), PTs (X.blk s H scope (compEnvC scope cl C X.env) fp) ifs (aT X.K B.g tt))
    (he : ∀ (s : Shared) (H : Hp) (C : Addr) (cl : List (Str × Addr)) (fp : List Addr) (f : Hp), PD (X.blk s H scope (compEnvC scope cl C X.env) fp) ⟨B.g, f⟩ elt te)
    (hy : X.N[i]? = some y := by rfl) (hyl : X.env.scope.names.lookup y = some .local := by rfl)
    (hsw : swapsWith (.ListComp elt [⟨tg, iter, ifs, 0⟩] scope pos) (some (.Name y py)) spos.line X.env = pure true := by first | exact sw_true rfl rfl rfl (by decide +kernel) | rfl)
    (hv : ∀ i ∈ p.slots, i ∈ own.map (·.2) := by decide) (hs : ∀ x, foldedSetIterable iter X.env x = pure x := by intro _; rfl) : PDS X B (.Assign [.Name y py] (.ListComp elt [⟨tg, iter, ifs, 0⟩] scope pos) spos) (dAsg (dLc src p tt te (own.map (·.2))) (.nm i)) :=
  imS (ps_setLc hc hN hy hyl hsw hi ok hg ht (fun s H C cl fp => allE (fun f => he s H C cl fp f)) hs) fun D σ H h => by
    obtain ⟨G, ρ, μ, E, g0, hh, sl, q, k1, k2, k3, k4⟩ := h
    have z : lE X.K B (dLc src p tt te (own.map (·.2))) σ H (fun x H1 => gName i x σ H1 D.nx) := ⟨G, ρ, μ, _, g0, hh, sl, q, fun v H1 G1 d μ1 s1 h1 a1 q1 => k1 _ H1 G1 _ μ1 s1 h1 ((sl.mono s1).set i a1) q1⟩
    exact lLc hv σ H _ z
end
end Dl
namespace Dl
open PySem PySem.Spec PyProof.Rows L2
/-! ### promises over data -/
abbrev XD := Addr → List (Str × D) → Mu → Prop
abbrev SpD := List D → Mu → KD → XD → Prop
/-- what an error carries -/
def AtX (K : PySem.W.Frag) (G : Hp) : Option Addr → List (Str × D) → Prop
  | none, fs => fs = []
  | some a, fs => ∃ vs, G a = some (.xd vs) ∧ Atf K G vs fs
def lSp (K : PySem.W.Frag) (sp : SpD) : Sp := fun vs H Q E => ∃ (G F : Hp) (μ : Mu) (ds : List D) (k : KD) (ex : XD), Hold K H G F μ ∧ Ats K G vs ds ∧ sp ds μ k ex ∧
  (∀ v H' G' d μ', Same G G' → Hold K H' G' F μ' → At K G' v d → k d μ' → Q v H') ∧
  ∀ C dd H' G' fs μ', Same G G' → Hold K H' G' F μ' → AtX K G' dd fs → ex C fs μ' → E (.ref C) dd H'
/-- the wish of an error, over data -/
abbrev WD := Addr → List (Str × D) → SD → Mu → Prop
def lW (K : PySem.W.Frag) (B : Bs) (W : WD) : WX := fun cls d σ H => ∃ (G : Hp) (ρ : SD) (μ : Mu) (C : Addr) (fs : List (Str × D)), Same B.g G ∧ Hold K H G B.f μ ∧ Slots K G σ ρ ∧ AtX K G d fs ∧ cls = .ref C ∧ W C fs ρ μ
/-- no error -/
abbrev x0 : XD := fun _ _ _ => False
abbrev CXe (P : Program) (w : World) : CXT := L2.CX P w
theorem passE0 {X : Cx} : Passes (CXe X.prog X.w) X (fun _ _ _ => False) := passes_call takes0 fun _ _ _ _ h => h
section
variable {P : Program} {w : World} {K : PySem.W.Frag} {mg : Str → Option Value} {base : Heap}
def startD (N : List Str) (ds : List D) : SD := ds.map some ++ List.replicate (N.length - ds.length) none
theorem slots_start {G : Hp} {N : List Str} {vs : List V} {ds : List D} (r : Ats K G vs ds) : Slots K G (L2.start N vs) (startD N ds) := by
  refine ⟨by unfold L2.start startD; rw [List.length_append, List.length_append, List.length_map, List.length_map, r.length, List.length_replicate, List.length_replicate], fun i d e => ?_⟩
  unfold startD at e
  unfold L2.start
  by_cases hi : i < ds.length
  · rw [List.getElem?_append_left (by rw [List.length_map]; exact hi), List.getElem?_map] at e
    cases q : ds[i]? with
    | none => rw [q] at e; cases e
    | some x =>
      rw [q] at e
      cases e
      obtain ⟨v, h1, h2⟩ := r.get q
      refine ⟨v, ?_, h2⟩
      rw [List.getElem?_append_left (by rw [List.length_map, r.length]; exact hi), List.getElem?_map, h1]
      rfl
  · rw [List.getElem?_append_right (by rw [List.length_map]; omega), List.getElem?_replicate] at e
    split at e <;> cases e
/-- THE RULE for a def: its body as a term of rules, its reading over data -/
theorem okD {x qual : Str} {params : Arguments} {body : List Stmt} {scope : Scope} {dvs : List V} {kws : List (Str × V)} {f : Addr} {fd : FuncData} {N ps : List Str} {j : Nat} {sp : SpD} {t : XD → TSD}
    (F : FunD K x qual params body scope dvs kws f fd) (S : FnScope N ps scope) (len : ∀ ds μ k ex, sp ds μ k ex → ds.length = ps.length)
    (hb : ∀ (cdv : Value) (A : Around) (outer : List Env) (s : Shared) (H : Hp) (E : XK) (B : Bs) (ex : XD), Room j (A.deeper (envOfC qual scope s.heap.objs.size f cdv)) →
      Takes (cxOf (CXe P w) P w K mg base N qual scope f cdv A outer s H E) (lW K B fun C fs _ μ => ex C fs μ) → PDB (cxOf (CXe P w) P w K mg base N qual scope f cdv A outer s H E) B body (t ex))
    (h : ∀ ds μ k ex, sp ds μ k ex → t ex { nx := fun _ μ' => k .non μ', rt := k } (startD N ds) μ) : FnOk P w K mg base (CXe P w) (j + 1) f fd ps (lSp K sp) := by
  refine F.ok S (fun vs H Q E ⟨G, F, μ, ds, k, ex, _, r, q, _⟩ => r.length.trans (len ds μ k ex q)) fun cdv A outer s H vs Q E hr hsp => ?_
  obtain ⟨G, F, μ, ds, k, ex, hh, r, q, k1, k2⟩ := hsp
  refine ⟨_, hb cdv A outer s H E ⟨G, F⟩ ex hr ((takes_of (E := E) rfl rfl rfl rfl).imp ?_), ?_⟩
  · rintro cls d σ H' ⟨G', ρ, μ', C, fs, s', h', sl', a', rfl, q'⟩
    exact k2 C d H' G' fs μ' s' h' a' q'
  · exact ⟨G, _, μ, _, Same.refl _, hh, slots_start r, h ds μ k ex q, fun σ' H' G' ρ' μ' s' h' sl' q' => k1 .non H' G' .non μ' s' h' .non q', k1, fun σ' H' G' ρ' μ' s' h' sl' q' => q'.elim, fun σ' H' G' ρ' μ' s' h' sl' q' => q'.elim⟩
end
/-! ### calls -/
section
variable {X : Cx} {B : Bs} {P : Program} {w : World} {K : PySem.W.Frag} {mg : Str → Option Value} {base : Heap}
/-- a call whose callee raises nothing here -/
def dCall (sp : SpD) (t : TAD) : TED := fun ρ μ k => t ρ μ fun ds μ1 => sp ds μ1 k x0
/-- a call whose callee may raise -/
def dCallX (sp : SpD) (W : WD) (t : TAD) : TED := fun ρ μ k => t ρ μ fun ds μ1 => sp ds μ1 k fun C fs μ2 => W C fs ρ μ2
theorem lSp_go {sp : SpD} {vs : List V} {ds : List D} {H G : Hp} {μ : Mu} {k : KD} {Q : VK} (hh : Hold X.K H G B.f μ) (r : Ats X.K G vs ds) (q : sp ds μ k x0) (kk : ∀ v H' G' d μ', Same G G' → Hold X.K H' G' B.f μ' → At X.K G' v d → k d μ' → Q v H') :
    lSp X.K sp vs H Q (fun _ _ _ => False) := ⟨G, B.f, μ, ds, k, x0, hh, r, q, kk, fun _ _ _ _ _ _ _ _ _ h => h⟩
/-- a context over such a module -/
structure XIs (X : Cx) (P : Program) (w : World) (K : PySem.W.Frag) (mg : Str → Option Value) (base : Heap) : Prop where
  p : X.prog = P
  w : X.w = w
  k : X.K = K
  m : X.mg = mg
  b : X.base = base
/-- a def of the module, by its name: where it stands, its promise -/
structure FnG (P : Program) (w : World) (K : PySem.W.Frag) (mg : Str → Option Value) (base : Heap) (j : Nat) (x : Str) (ps : List Str) (sp : SpD) : Prop where
  ex : ∃ (f : Addr) (fd : FuncData), mg x = some (.ref f) ∧ PySem.W.keepIn K (.ref f) = true ∧ Binds K fd ps [] ∧ FnOk P w K mg base (CXe P w) j f fd ps (lSp K sp)
theorem pd_call {j : Nat} {x : Str} {ps : List Str} {sp : SpD} {t : TAD} {e : Expr} {es : List Expr} {p pos : Pos} (Fg : FnG P w K mg base j x ps sp) (hr : Room j X.A) (ha : PDA X B (e :: es) t) (hX : XIs X P w K mg base := by exact ⟨rfl, rfl, rfl, rfl, rfl⟩) (hg : Gl X x := by rfl) (hdb : (x == ("__debug__" : Str)) = false := by decide)
    (he : starEach (e :: es) X.env = (false, eval e X.env) :: starEach es X.env := by rfl) (hpl : (backTo pos (starEach es X.env)).any (·.1) = false := by rfl) : PD X B (.Call (.Name x p) (e :: es) [] pos) (dCall sp t) := by
  obtain ⟨rfl, rfl, rfl, rfl, rfl⟩ := hX
  obtain ⟨f, fd, hm, hk, hb, F⟩ := Fg.ex
  refine imE (pe_call F hr hg hm hk hb .nil passE0 ha hdb he hpl) fun σ H Q ⟨G, ρ, μ, k, g0, hh, sl, q, kk⟩ => ?_
  refine ⟨G, ρ, μ, _, g0, hh, sl, q, fun vs H1 G1 ds μ1 s1 h1 a1 q1 => ?_⟩
  show lSp X.K sp (vs ++ []) H1 Q _
  rw [List.append_nil]
  exact lSp_go h1 a1 q1 fun v H' G' d μ' s' => kk v H' G' d μ' (s1.trans s')
theorem pd_call0 {j : Nat} {x : Str} {sp : SpD} {p pos : Pos} (Fg : FnG P w K mg base j x [] sp) (hr : Room j X.A) (hX : XIs X P w K mg base := by exact ⟨rfl, rfl, rfl, rfl, rfl⟩) (hg : Gl X x := by rfl) (hdb : (x == ("__debug__" : Str)) = false := by decide) : PD X B (.Call (.Name x p) [] [] pos) (dCall sp dNil) := by
  obtain ⟨rfl, rfl, rfl, rfl, rfl⟩ := hX
  obtain ⟨f, fd, hm, hk, hb, F⟩ := Fg.ex
  refine imE (pe_call0 F hr hg hm hk hb .nil passE0 hdb) fun σ H Q ⟨G, ρ, μ, k, g0, hh, sl, q, kk⟩ => ?_
  exact lSp_go (ds := []) hh .nil q fun v H' G' d μ' s' => kk v H' G' d μ' s'
end
end Dl
namespace Dl
open PySem PySem.Spec PyProof.Rows L2
section
variable {X : Cx} {B : Bs} {P : Program} {w : World} {K : PySem.W.Frag} {mg : Str → Option Value} {base : Heap}
/-! ### instances: fields, methods, making -/
def insOf (μ : Mu) : D → Option (Addr × List (Str × D))
  | .ins C fs => some (C, fs)
  | .ref a => match μ a with
    | some (.ins C fs) => some (C, fs)
    | _ => none
  | _ => none
theorem insOf_at {K : PySem.W.Frag} {H G F : Hp} {μ : Mu} {v : V} {d : D} {C : Addr} {fs : List (Str × D)} (hh : Hold K H G F μ) (a : At K G v d) (e : insOf μ d = some (C, fs)) : ∃ p dx vs, v = .ref p ∧ H p = some (.ins C dx vs) ∧ Atf K G vs fs := by
  cases a with
  | ins h r =>
    have e2 : some (_, _) = some (C, fs) := e
    cases e2
    exact ⟨_, _, _, rfl, hh.sub _ _ h, r⟩
  | ref a =>
    unfold insOf at e
    dsimp only at e
    cases q : μ a with
    | none => rw [q] at e; cases e
    | some o =>
      rw [q] at e
      cases o with
      | ins C' fs' =>
        cases e
        obtain ⟨_, dx, vs, h1, h2⟩ := hh.mu a _ q
        exact ⟨a, dx, vs, rfl, h1, h2⟩
      | _ => cases e
  | _ => cases e
structure Fld (K : PySem.W.Frag) (C : Addr) (f : Str) : Prop where
  cl : Cls K C
  no : NoAttr K C f
def dFld (C : Addr) (f : Str) (t : TED) : TED := fun ρ μ k => t ρ μ fun x μ1 => ∃ fs d, insOf μ1 x = some (C, fs) ∧ fs.lookup f = some d ∧ k d μ1
theorem pd_fld {C : Addr} {f : Str} {e : Expr} {t : TED} {pos : Pos} (hf : Fld K C f) (he : PD X B e t) (hb : attributeBase e f X.env (eval e X.env) = eval e X.env := by rfl) (hK : X.K = K := by rfl) : PD X B (.Attribute e f pos) (dFld C f t) := imE (pe_fld he hb) fun σ H Q ⟨G, ρ, μ, k, g0, hh, sl, q, kk⟩ => by
  subst hK
  refine ⟨G, ρ, μ, _, g0, hh, sl, q, fun v H1 G1 d μ1 s1 h1 a1 q1 => ?_⟩
  obtain ⟨fs, y, e1, e2, q1⟩ := q1
  obtain ⟨p, dx, vs, rfl, h2, r⟩ := insOf_at h1 a1 e1
  obtain ⟨w, e3, aw⟩ := r.look e2
  exact ⟨p, C, dx, vs, w, rfl, h2, hf.cl, hf.no, e3, kk w H1 G1 y μ1 s1 h1 aw q1⟩
theorem Atf.put {K : PySem.W.Frag} {G : Hp} {f : Str} {x : V} {y : D} (h : At K G x y) : ∀ {v : List (Str × V)} {d : List (Str × D)}, Atf K G v d → Atf K G (putF f x v) (putD f y d)
  | _, _, .nil => .cons h .nil
  | _, _, .cons (f := g) q t => by
    unfold putF putD
    split
    · rename_i e; subst e; exact .cons h t
    · exact .cons q (Atf.put h t)
def dSetF (C : Addr) (f : Str) (to te : TED) : TSD := fun E ρ μ => te ρ μ fun y μ1 => to ρ μ1 fun x μ2 => ∃ a fs, x = .ref a ∧ μ2 a = some (.ins C fs) ∧ fs.length < 1000 ∧ E.nx ρ (mput μ2 a (.ins C (putD f y fs)))
theorem pds_fld {C : Addr} {f : Str} {o e : Expr} {to te : TED} {pos pos' : Pos} (hf : Fld K C f) (ho : PD X B o to) (he : PD X B e te) (hs : swapsWith e (some (.Attribute o f pos')) pos.line X.env = pure false := by rfl) (hK : X.K = K := by rfl) : PDS X B (.Assign [.Attribute o f pos'] e pos) (dSetF C f to te) := imS (ps_fld ho he hs) fun D σ H ⟨G, ρ, μ, E, g0, hh, sl, q, k1, k2, k3, k4⟩ => by
  subst hK
  refine ⟨G, ρ, μ, _, g0, hh, sl, q, fun v H1 G1 d μ1 s1 h1 a1 q1 => ?_⟩
  refine ⟨G1, ρ, μ1, _, g0.trans s1, h1, sl.mono s1, q1, fun v2 H2 G2 d2 μ2 s2 h2 a2 q2 => ?_⟩
  obtain ⟨a, fs, rfl, e1, hl, q2⟩ := q2
  obtain ⟨_, dx, vs, h3, r⟩ := h2.mu a _ e1
  cases a2
  exact ⟨a, C, dx, vs, rfl, h3, hf.cl, hf.no, by rw [r.length]; exact hl, k1 σ _ G2 ρ _ (s1.trans s2) (h2.write (m := .ins C (putD f d fs)) e1 ⟨dx, _, upd_same, r.put (a1.mono s2)⟩) ((sl.mono s1).mono s2) q2⟩
/-- a method of a class, its promise -/
structure MethG (P : Program) (w : World) (K : PySem.W.Frag) (mg : Str → Option Value) (base : Heap) (j : Nat) (C : Addr) (m : Str) (ps : List Str) (sp : SpD) : Prop where
  cl : Cls K C
  ex : ∃ (f : Addr) (fd : FuncData), Meth K C m f ∧ Binds K fd ps [] ∧ FnOk P w K mg base (CXe P w) j f fd ps (lSp K sp)
def dMeth (C : Addr) (m : Str) (sp : SpD) (to : TED) (t : TAD) : TED := fun ρ μ k => to ρ μ fun x μ1 => ∃ fs, insOf μ1 x = some (C, fs) ∧ fs.lookup m = none ∧ t ρ μ1 fun ds μ2 => sp (x :: ds) μ2 k x0
theorem pd_meth {pl : Sem Bool} {j : Nat} {C : Addr} {m : Str} {ps : List Str} {sp : SpD} {o e : Expr} {es : List Expr} {to : TED} {t : TAD} {apos pos : Pos} (M : MethG P w K mg base j C m ps sp) (hr : Room j X.A) (ho : PD X B o to) (ha : PDA X B (e :: es) t) (hX : XIs X P w K mg base := by exact ⟨rfl, rfl, rfl, rfl, rfl⟩)
    (hst : starEach (e :: es) X.env = (false, eval e X.env) :: starEach es X.env := by rfl) (hpl : (backTo pos (starEach es X.env)).any (·.1) = false := by rfl)
    (ht : eval (.Call (.Attribute o m apos) (e :: es) [] pos) X.env = (do
      let ov ← eval o X.env
      standAt apos.atName
      let (f, first) ← holding [ov] (getMethod ov m pl)
      callWith pos f first (backTo pos (starEach (e :: es) X.env)) (backToKw pos (keywordEach [] X.env))) := by rfl) : PD X B (.Call (.Attribute o m apos) (e :: es) [] pos) (dMeth C m sp to t) := by
  obtain ⟨rfl, rfl, rfl, rfl, rfl⟩ := hX
  obtain ⟨f, fd, hm, hb, F⟩ := M.ex
  refine imE (pe_meth ho M.cl hm F hr hb .nil passE0 ha hst hpl ht) fun σ H Q ⟨G, ρ, μ, k, g0, hh, sl, q, kk⟩ => ?_
  refine ⟨G, ρ, μ, _, g0, hh, sl, q, fun v H1 G1 d μ1 s1 h1 a1 q1 => ?_⟩
  obtain ⟨fs, e1, e2, q1⟩ := q1
  obtain ⟨p, dx, vs, rfl, h2, r⟩ := insOf_at h1 a1 e1
  refine ⟨p, dx, vs, rfl, h2, r.look_none e2, ?_⟩
  refine ⟨G1, ρ, μ1, _, g0.trans s1, h1, sl.mono s1, q1, fun ws H2 G2 ds μ2 s2 h2 a2 q2 => ?_⟩
  show lSp X.K sp (_ :: (ws ++ [])) H2 Q _
  rw [List.append_nil]
  exact lSp_go h2 (.cons (a1.mono s2) a2) q2 fun v H' G' d μ' s' => kk v H' G' d μ' ((s1.trans s2).trans s')
theorem pd_meth0 {pl : Sem Bool} {j : Nat} {C : Addr} {m : Str} {ps : List Str} {sp : SpD} {o : Expr} {to : TED} {apos pos : Pos} (M : MethG P w K mg base j C m ps sp) (hr : Room j X.A) (ho : PD X B o to) (hX : XIs X P w K mg base := by exact ⟨rfl, rfl, rfl, rfl, rfl⟩)
    (ht : eval (.Call (.Attribute o m apos) [] [] pos) X.env = (do
      let ov ← eval o X.env
      standAt apos.atName
      let (f, first) ← holding [ov] (getMethod ov m pl)
      callWith pos f first (backTo pos (starEach [] X.env)) (backToKw pos (keywordEach [] X.env))) := by rfl) : PD X B (.Call (.Attribute o m apos) [] [] pos) (dMeth C m sp to dNil) := by
  obtain ⟨rfl, rfl, rfl, rfl, rfl⟩ := hX
  obtain ⟨f, fd, hm, hb, F⟩ := M.ex
  refine imE (pe_meth0 ho M.cl hm F hr hb .nil passE0 ht) fun σ H Q ⟨G, ρ, μ, k, g0, hh, sl, q, kk⟩ => ?_
  refine ⟨G, ρ, μ, _, g0, hh, sl, q, fun v H1 G1 d μ1 s1 h1 a1 q1 => ?_⟩
  obtain ⟨fs, e1, e2, q1⟩ := q1
  obtain ⟨p, dx, vs, rfl, h2, r⟩ := insOf_at h1 a1 e1
  refine ⟨p, dx, vs, rfl, h2, r.look_none e2, ?_⟩
  exact lSp_go (ds := [_]) h1 (.cons a1 .nil) q1 fun v H' G' d μ' s' => kk v H' G' d μ' (s1.trans s')
/-- a class of the module, by its name; its __init__'s promise -/
structure MkG (P : Program) (w : World) (K : PySem.W.Frag) (mg : Str → Option Value) (base : Heap) (j : Nat) (x : Str) (C : Addr) (ps : List Str) (sp : SpD) : Prop where
  hg : mg x = some (.ref C)
  ex : ∃ (f : Addr) (fd : FuncData), Mk K C f ∧ Binds K fd ps [] ∧ FnOk P w K mg base (CXe P w) j f fd ps (lSp K sp)
/-- C(..) of a class whose things never change behind the making -/
def rMake (C : Addr) (sp : SpD) : RAD := fun ds μ k => ∀ x, μ x = none → sp (.ref x :: ds) (mput μ x (.ins C [])) (fun v μ2 => v = .non ∧ ∃ fs, μ2 x = some (.ins C fs) ∧ k (.ins C fs) (mdel μ2 x)) x0
/-- .. whose things may change -/
def rMakeM (C : Addr) (sp : SpD) : RAD := fun ds μ k => ∀ x, μ x = none → sp (.ref x :: ds) (mput μ x (.ins C [])) (fun v μ2 => v = .non ∧ k (.ref x) μ2) x0
def dArgs (r : RAD) (t : TAD) : TED := fun ρ μ k => t ρ μ fun ds μ1 => r ds μ1 k
theorem make_hold {K : PySem.W.Frag} {H G F : Hp} {μ : Mu} {x dx C : Addr} (h : Hold K H G F μ) (nx : H x = none) (nd : H dx = none) (ne : dx ≠ x) : Hold K (upd (upd H dx (.own x)) x (.ins C dx [])) G F (mput μ x (.ins C [])) :=
  (h.junk nd _).newM (m := .ins C []) (by rw [upd_ne ne.symm]; exact nx) ⟨dx, [], upd_same, .nil⟩
theorem lMake {C : Addr} {sp : SpD} {vs : List V} {ds : List D} {H G : Hp} {μ : Mu} {k : KD} {Q : VK} (hh : Hold X.K H G B.f μ) (r : Ats X.K G vs ds) (q : rMake C sp ds μ k) (kk : ∀ v H' G' d μ', Same G G' → Hold X.K H' G' B.f μ' → At X.K G' v d → k d μ' → Q v H')
    (x dx : Addr) (nx : H x = none) (nd : H dx = none) (ne : dx ≠ x) : lSp X.K sp (.ref x :: vs) (upd (upd H dx (.own x)) x (.ins C dx [])) (fun v H2 => v = .non ∧ Q (.ref x) H2) (fun _ _ _ => False) := by
  refine lSp_go (make_hold hh nx nd ne) (.cons (.ref x) r) (q x (hh.mu_none nx)) fun v H' G' d μ' s' h' a' ⟨e1, fs, e2, q2⟩ => ?_
  subst e1
  obtain ⟨_, dx', vs', h3, r3⟩ := h'.mu x _ e2
  obtain ⟨h4, s4⟩ := h'.freeze e2 h3
  exact ⟨a'.non_inv, kk _ H' _ _ _ (s'.trans s4) h4 (.ins upd_same (r3.mono s4)) q2⟩
theorem lMakeM {C : Addr} {sp : SpD} {vs : List V} {ds : List D} {H G : Hp} {μ : Mu} {k : KD} {Q : VK} (hh : Hold X.K H G B.f μ) (r : Ats X.K G vs ds) (q : rMakeM C sp ds μ k) (kk : ∀ v H' G' d μ', Same G G' → Hold X.K H' G' B.f μ' → At X.K G' v d → k d μ' → Q v H')
    (x dx : Addr) (nx : H x = none) (nd : H dx = none) (ne : dx ≠ x) : lSp X.K sp (.ref x :: vs) (upd (upd H dx (.own x)) x (.ins C dx [])) (fun v H2 => v = .non ∧ Q (.ref x) H2) (fun _ _ _ => False) := by
  refine lSp_go (make_hold hh nx nd ne) (.cons (.ref x) r) (q x (hh.mu_none nx)) fun v H' G' d μ' s' h' a' ⟨e1, q2⟩ => ?_
  subst e1
  exact ⟨a'.non_inv, kk _ H' G' _ _ s' h' (.ref x) q2⟩
theorem pd_make {j : Nat} {x : Str} {C : Addr} {ps : List Str} {sp : SpD} {t : TAD} {e : Expr} {es : List Expr} {p pos : Pos} (M : MkG P w K mg base j x C ps sp) (hr : Room (j + 1) X.A) (ha : PDA X B (e :: es) t) (hX : XIs X P w K mg base := by exact ⟨rfl, rfl, rfl, rfl, rfl⟩) (hg : Gl X x := by rfl) (hdb : (x == ("__debug__" : Str)) = false := by decide)
    (he : starEach (e :: es) X.env = (false, eval e X.env) :: starEach es X.env := by rfl) (hpl : (backTo pos (starEach es X.env)).any (·.1) = false := by rfl) : PD X B (.Call (.Name x p) (e :: es) [] pos) (dArgs (rMake C sp) t) := by
  obtain ⟨rfl, rfl, rfl, rfl, rfl⟩ := hX
  obtain ⟨f, fd, hm, hb, F⟩ := M.ex
  refine imE (pe_make hm F hr hg M.hg hb .nil passE0 ha hdb he hpl) fun σ H Q ⟨G, ρ, μ, k, g0, hh, sl, q, kk⟩ => ?_
  refine ⟨G, ρ, μ, _, g0, hh, sl, q, fun vs H1 G1 ds μ1 s1 h1 a1 q1 x dx nx nd ne => ?_⟩
  rw [List.append_nil]
  exact lMake h1 a1 q1 (fun v H' G' d μ' s' => kk v H' G' d μ' (s1.trans s')) x dx nx nd ne
theorem pd_makeM {j : Nat} {x : Str} {C : Addr} {ps : List Str} {sp : SpD} {t : TAD} {e : Expr} {es : List Expr} {p pos : Pos} (M : MkG P w K mg base j x C ps sp) (hr : Room (j + 1) X.A) (ha : PDA X B (e :: es) t) (hX : XIs X P w K mg base := by exact ⟨rfl, rfl, rfl, rfl, rfl⟩) (hg : Gl X x := by rfl) (hdb : (x == ("__debug__" : Str)) = false := by decide)
    (he : starEach (e :: es) X.env = (false, eval e X.env) :: starEach es X.env := by rfl) (hpl : (backTo pos (starEach es X.env)).any (·.1) = false := by rfl) : PD X B (.Call (.Name x p) (e :: es) [] pos) (dArgs (rMakeM C sp) t) := by
  obtain ⟨rfl, rfl, rfl, rfl, rfl⟩ := hX
  obtain ⟨f, fd, hm, hb, F⟩ := M.ex
  refine imE (pe_make hm F hr hg M.hg hb .nil passE0 ha hdb he hpl) fun σ H Q ⟨G, ρ, μ, k, g0, hh, sl, q, kk⟩ => ?_
  refine ⟨G, ρ, μ, _, g0, hh, sl, q, fun vs H1 G1 ds μ1 s1 h1 a1 q1 x dx nx nd ne => ?_⟩
  rw [List.append_nil]
  exact lMakeM h1 a1 q1 (fun v H' G' d μ' s' => kk v H' G' d μ' (s1.trans s')) x dx nx nd ne
/-! ### subscripts -/
def seqOf (μ : Mu) : D → Option (List D)
  | .lst xs => some xs
  | .tup xs => some xs
  | .ref a => match μ a with
    | some (.lst xs) => some xs
    | _ => none
  | _ => none
theorem seqOf_at {K : PySem.W.Frag} {H G F : Hp} {μ : Mu} {v : V} {d : D} {xs : List D} (hh : Hold K H G F μ) (a : At K G v d) (e : seqOf μ d = some xs) : ∃ p vs, v = .ref p ∧ (SqL K H p vs ∨ SqT K H p vs) ∧ Ats K G vs xs := by
  cases a with
  | tup h r =>
    have e2 : some _ = some xs := e
    cases e2
    exact ⟨_, _, rfl, .inr (same_seqT hh.sub h), r⟩
  | lst h r =>
    have e2 : some _ = some xs := e
    cases e2
    exact ⟨_, _, rfl, .inl (hh.sub.seq h), r⟩
  | ref a =>
    unfold seqOf at e
    dsimp only at e
    cases q : μ a with
    | none => rw [q] at e; cases e
    | some o =>
      rw [q] at e
      cases o with
      | lst xs =>
        cases e
        obtain ⟨_, vs, h1, h2⟩ := hh.mu a _ q
        exact ⟨a, vs, rfl, .inl (SqL.of h1), h2⟩
      | _ => cases e
  | _ => cases e
theorem Ats.atI {K : PySem.W.Frag} {G : Hp} {vs : List V} {ds : List D} {i : Int} {x : D} (r : Ats K G vs ds) (e : L2.atI ds i = some x) : ∃ v, L2.atI vs i = some v ∧ At K G v x := by
  unfold L2.atI at e ⊢
  rw [r.length]
  cases q : ixN ds.length i with
  | none => rw [q] at e; cases e
  | some j => rw [q] at e; exact r.get e
/-- xs[i], t[i], s[i] -/
def rIxD : R2D := fun x y μ k => match x, y with
  | .str z, .int i => z.length ≤ 100000 ∧ ∃ c, L2.atI z.cps.toList i = some c ∧ k (.str ⟨#[c]⟩) μ
  | x, .int i => ∃ xs v, seqOf μ x = some xs ∧ L2.atI xs i = some v ∧ k v μ
  | _, _ => False
theorem orIx {r r' : R2} (h : IxR X r) (h' : IxR X r') : IxR X (fun x y H Q => r x y H Q ∨ r' x y H Q) := fun value slice pins s σ H x y v u Q I rx ry q hs => by
  rcases q with q | q
  · exact h value slice pins s σ H x y v u Q I rx ry q hs
  · exact h' value slice pins s σ H x y v u Q I rx ry q hs
theorem pd_ix {a b : Expr} {ta tb : TED} {pos : Pos} (ha : PD X B a ta) (hb : PD X B b tb) (hs : PlainIx b := by exact fun _ _ => rfl) : PD X B (.Subscript a b pos) (dOp rIxD ta tb) := imE (pe_ix (orIx (orIx ix_list ix_tup) ix_str) ha hb hs) fun σ H Q h => by
  refine (fun z => ?_ : ∀ z : tOp (l2 X.K B rIxD) (lE X.K B ta) (lE X.K B tb) σ H Q, _) (lOp σ H Q h)
  obtain ⟨G, ρ, μ, k, g0, hh, sl, q, kk⟩ := z
  refine ⟨G, ρ, μ, k, g0, hh, sl, q, fun v H1 G1 d μ1 s1 h1 a1 q1 => ?_⟩
  obtain ⟨G2, ρ2, μ2, k2, g2, hh2, sl2, q2, kk2⟩ := kk v H1 G1 d μ1 s1 h1 a1 q1
  refine ⟨G2, ρ2, μ2, k2, g2, hh2, sl2, q2, fun v2 H2 G3 d2 μ3 s3 h3 a3 q3 => ?_⟩
  obtain ⟨G4, μ4, dx, dy, k4, g4, h4, ax, ay, r4, kk4⟩ := kk2 v2 H2 G3 d2 μ3 s3 h3 a3 q3
  cases dy with
  | int i =>
    have ei := ay.int_inv
    subst ei
    cases dx with
    | str z =>
      obtain ⟨hz, c, e, r4⟩ := r4
      rw [ax.str_inv]
      exact .inr ⟨z, i, c, rfl, rfl, line_of hz, e, kk4 _ H2 G4 _ μ4 (Same.refl _) h4 (.str _) r4⟩
    | _ =>
      obtain ⟨xs, w, e1, e2, r4⟩ := r4
      obtain ⟨p, vs, rfl, hq, rr⟩ := seqOf_at h4 ax e1
      obtain ⟨y, e3, ay2⟩ := rr.atI e2
      rcases hq with hq | hq
      · exact .inl (.inl ⟨p, vs, i, y, rfl, rfl, hq, e3, kk4 _ H2 G4 _ μ4 (Same.refl _) h4 ay2 r4⟩)
      · exact .inl (.inr ⟨p, vs, i, y, rfl, rfl, hq, e3, kk4 _ H2 G4 _ μ4 (Same.refl _) h4 ay2 r4⟩)
  | _ => cases dx <;> exact r4.elim
end
end Dl
namespace Dl
open PySem PySem.Spec PyProof.Rows L2
section
variable {X : Cx} {B : Bs}
/-! ### ints -/
theorem opd_int {f : Value → Value → Sem Value} {C : Int → Int → Prop} {g : Int → Int → V} {gd : Int → Int → D} (h : OpR X f (rI C g)) (e : ∀ i j G, At X.K G (g i j) (gd i j)) :
    OpD X B f (fun a b μ k => match a, b with
      | .int i, .int j => C i j ∧ k (gd i j) μ
      | _, _ => False) := imO h fun x y H Q ⟨G, μ, dx, dy, k, g0, hh, ax, ay, r, kk⟩ => by
  cases dx with
  | int i =>
    cases dy with
    | int j =>
      obtain ⟨c, r⟩ := r
      exact ⟨i, j, ax.int_inv, ay.int_inv, c, kk _ H G _ μ (Same.refl _) hh (e i j G) r⟩
    | _ => exact r.elim
  | _ => cases dy <;> exact r.elim
theorem opd_int0 {f : Value → Value → Sem Value} {g : Int → Int → V} {gd : Int → Int → D} (h : OpR X f (rI0 g)) (e : ∀ i j G, At X.K G (g i j) (gd i j)) :
    OpD X B f (fun a b μ k => match a, b with
      | .int i, .int j => k (gd i j) μ
      | _, _ => False) := imO h fun x y H Q ⟨G, μ, dx, dy, k, g0, hh, ax, ay, r, kk⟩ => by
  cases dx with
  | int i =>
    cases dy with
    | int j => exact ⟨i, j, ax.int_inv, ay.int_inv, kk _ H G _ μ (Same.refl _) hh (e i j G) r⟩
    | _ => exact r.elim
  | _ => cases dy <;> exact r.elim
/-- an int's work as a reading -/
def rII (C : Int → Int → Prop) (g : Int → Int → D) : R2D := fun a b μ k => match a, b with
  | .int i, .int j => C i j ∧ k (g i j) μ
  | _, _ => False
def rI2 (g : Int → Int → D) : R2D := fun a b μ k => match a, b with
  | .int i, .int j => k (g i j) μ
  | _, _ => False
def CMulD (i j : Int) : Prop := ((-(2 ^ 64) < i ∧ i < 2 ^ 64) ∨ (-(2 ^ 64) < j ∧ j < 2 ^ 64)) ∨ i.natAbs.log2 + j.natAbs.log2 < 1000000
def CDivD (i j : Int) : Prop := j ≠ 0 ∧ j.natAbs.log2 < 9000
abbrev rSubD : R2D := rI2 fun i j => .int (i - j)
abbrev rMulD : R2D := rII CMulD fun i j => .int (i * j)
abbrev rFdivD : R2D := rII CDivD fun i j => .int (i.fdiv j)
abbrev rModD : R2D := rII (fun _ j => j ≠ 0) fun i j => .int (i.fmod j)
abbrev rPowD : R2D := rII CPow fun i j => .int (i ^ j.toNat)
abbrev rLtD : R2D := rI2 fun i j => .bl (decide (i < j))
abbrev rLeD : R2D := rI2 fun i j => .bl (decide (i ≤ j))
abbrev rGtD : R2D := rI2 fun i j => .bl (decide (j < i))
abbrev rGeD : R2D := rI2 fun i j => .bl (decide (j ≤ i))
theorem od_sub : OpD X B (binaryOp .Sub) rSubD := opd_int0 op_sub fun i j _ => .int _
theorem op_mulD : OpR X (binaryOp .Mult) (rI CMulD fun i j => .int (i * j)) := opI fun i j _ _ _ _ _ hc q => by
  rcases hc with hc | hc
  · exact mul_int q (CMul.ok hc)
  · exact mul_int q (CMulW.ok hc)
theorem od_mul : OpD X B (binaryOp .Mult) rMulD := opd_int op_mulD fun i j _ => .int _
theorem op_fdivD : OpR X (binaryOp .FloorDiv) (rI CDivD fun i j => .int (i.fdiv j)) := opI fun i j _ _ _ _ _ hc q => floordiv_int hc.1 q (.inl (PyProof.noPylong_of_log2 hc.2))
theorem od_fdiv : OpD X B (binaryOp .FloorDiv) rFdivD := opd_int op_fdivD fun i j _ => .int _
theorem od_mod : OpD X B (binaryOp .Mod) rModD := opd_int op_modN fun i j _ => .int _
theorem od_pow : OpD X B (binaryOp .Pow) rPowD := opd_int op_pow fun i j _ => .int _
theorem od_lt : OpD X B (compareOp .Lt) rLtD := opd_int0 op_lt fun i j _ => .bl _
theorem od_le : OpD X B (compareOp .LtE) rLeD := opd_int0 op_le fun i j _ => .bl _
theorem od_gt : OpD X B (compareOp .Gt) rGtD := opd_int0 op_gt fun i j _ => .bl _
theorem od_ge : OpD X B (compareOp .GtE) rGeD := opd_int0 op_ge fun i j _ => .bl _
def rU1 (g : Int → D) : R1D := fun a μ k => match a with
  | .int i => k (g i) μ
  | _ => False
theorem ud_neg : UnD X B (unaryOp .USub) (rU1 fun i => .int (-i)) := imU un_neg fun x H Q ⟨G, μ, dx, k, g0, hh, ax, r, kk⟩ => by
  cases dx with
  | int i => exact ⟨i, ax.int_inv, kk _ H G _ μ (Same.refl _) hh (.int _) r⟩
  | _ => exact r.elim
/-! ### +: ints, texts, lists, tuples -/
def rAddD : R2D := fun a b μ k => match a, b with
  | .int i, .int j => k (.int (i + j)) μ
  | .str x, .str y => x.length + y.length ≤ 100000 ∧ k (.str (x ++ y)) μ
  | _, _ => False
theorem od_add : OpD X B (binaryOp .Add) rAddD := imO (orO op_add op_add_str) fun x y H Q ⟨G, μ, dx, dy, k, g0, hh, ax, ay, r, kk⟩ => by
  cases dx with
  | int i =>
    cases dy with
    | int j => exact .inl ⟨i, j, ax.int_inv, ay.int_inv, kk _ H G _ μ (Same.refl _) hh (.int _) r⟩
    | _ => exact r.elim
  | str i =>
    cases dy with
    | str j => exact .inr ⟨i, j, ax.str_inv, ay.str_inv, line_of r.1, kk _ H G _ μ (Same.refl _) hh (.str _) r.2⟩
    | _ => exact r.elim
  | _ => cases dy <;> exact r.elim
/-! ### == of data -/
mutual
def toP : D → Option PyData
  | .non => some .none
  | .bl b => some (.bool b)
  | .int i => some (.int i)
  | .str x => some (.str x)
  | .tup xs => (toPs xs).map .tuple
  | .lst xs => (toPs xs).map .list
  | _ => none
def toPs : List D → Option (List PyData)
  | [] => some []
  | x :: xs => match toP x, toPs xs with
    | some p, some ps => some (p :: ps)
    | _, _ => none
end
mutual
theorem toP_dp {K : PySem.W.Frag} {G : Hp} : ∀ {v : V} {d : D} {p : PyData}, At K G v d → toP d = some p → Dp K G v p
  | _, _, _, .non, e => by cases e; exact .non
  | _, _, _, .bl b, e => by cases e; exact .bl b
  | _, _, _, .int i, e => by cases e; exact .int i
  | _, _, _, .str x, e => by cases e; exact .str x
  | _, _, _, .ty n, e => by cases e
  | _, _, _, .ref a, e => by cases e
  | _, _, _, .tup h r, e => by
    obtain ⟨ps, e1, rfl⟩ := Option.map_eq_some_iff.mp (show (toPs _).map PyData.tuple = some _ from e)
    exact .tup h (toPs_dp r e1)
  | _, _, _, .lst h r, e => by
    obtain ⟨ps, e1, rfl⟩ := Option.map_eq_some_iff.mp (show (toPs _).map PyData.list = some _ from e)
    exact .lst h (toPs_dp r e1)
  | _, _, _, .ins h r, e => by cases e
  | _, _, _, .dK h r, e => by cases e
  | _, _, _, .dT h r, e => by cases e
theorem toPs_dp {K : PySem.W.Frag} {G : Hp} : ∀ {v : List V} {d : List D} {p : List PyData}, Ats K G v d → toPs d = some p → DpAll K G v p
  | _, _, _, .nil, e => by cases e; exact .nil
  | _, _, _, .cons (d := d) (ds := ds) h r, e => by
    have e2 : (match toP d, toPs ds with
      | some p, some ps => some (p :: ps)
      | _, _ => none) = some _ := e
    split at e2
    · rename_i p ps h1 h2
      cases e2
      exact .cons (toP_dp h h1) (toPs_dp r h2)
    · cases e2
end
mutual
theorem dp_mono {K : PySem.W.Frag} {G G' : Hp} (e : Same G G') : ∀ {v : V} {p : PyData}, Dp K G v p → Dp K G' v p
  | _, _, .non => .non
  | _, _, .bl b => .bl b
  | _, _, .int i => .int i
  | _, _, .str x => .str x
  | _, _, .lst h r => .lst (e.seq h) (dps_mono e r)
  | _, _, .tup h r => .tup (same_seqT e h) (dps_mono e r)
theorem dps_mono {K : PySem.W.Frag} {G G' : Hp} (e : Same G G') : ∀ {v : List V} {p : List PyData}, DpAll K G v p → DpAll K G' v p
  | _, _, .nil => .nil
  | _, _, .cons h r => .cons (dp_mono e h) (dps_mono e r)
end
def toPm (μ : Mu) : D → Option PyData
  | .ref a => match μ a with
    | some (.lst xs) => (toPs xs).map .list
    | _ => none
  | d => toP d
theorem toPm_dp {K : PySem.W.Frag} {H G F : Hp} {μ : Mu} {v : V} {d : D} {p : PyData} (hh : Hold K H G F μ) (a : At K G v d) (e : toPm μ d = some p) : Dp K H v p := by
  cases d with
  | ref b =>
    cases a
    unfold toPm at e
    dsimp only at e
    cases q : μ b with
    | none => rw [q] at e; cases e
    | some o =>
      rw [q] at e
      cases o with
      | lst xs =>
        obtain ⟨_, vs, h1, h2⟩ := hh.mu b _ q
        obtain ⟨ps, e1, rfl⟩ := Option.map_eq_some_iff.mp e
        exact .lst (SqL.of h1) (dps_mono hh.sub (toPs_dp h2 e1))
      | _ => cases e
  | _ => exact dp_mono hh.sub (toP_dp a e)
/-- == (neg: !=) of data -/
def rEqB (neg : Bool) : R2D := fun a b μ k => match a, b with
  | .int i, .int j => k (.bl (decide (i = j) ^^ neg)) μ
  | .str x, .str y => k (.bl (decide (x = y) ^^ neg)) μ
  | a, b => ∃ p q, toPm μ a = some p ∧ toPm μ b = some q ∧ SeqAt.shaped p = true ∧ SeqAt.shaped q = true ∧ k (.bl (PyData.eqv p q ^^ neg)) μ
theorem beqd_int {i j : Int} : decide (V.int i = V.int j) = decide (i = j) := by simp
theorem beqd_str {i j : Str} : decide (V.str i = V.str j) = decide (i = j) := by simp
theorem od_eq (hu : X.A.units + 64 < cLine) : OpD X B (compareOp .Eq) (rEqB false) := imO (orO op_eq (op_eqD hu)) fun x y H Q ⟨G, μ, dx, dy, k, g0, hh, ax, ay, r, kk⟩ => by
  unfold rEqB at r
  split at r
  · rename_i i j
    rw [ax.int_inv, ay.int_inv]
    refine .inl ⟨rfl, ?_⟩
    rw [beqd_int]
    rw [Bool.xor_false] at r
    exact kk _ H G _ μ (Same.refl _) hh (.bl _) r
  · rename_i i j
    rw [ax.str_inv, ay.str_inv]
    refine .inl ⟨rfl, ?_⟩
    rw [beqd_str]
    rw [Bool.xor_false] at r
    exact kk _ H G _ μ (Same.refl _) hh (.bl _) r
  · obtain ⟨p, q, e1, e2, s1, s2, r⟩ := r
    rw [Bool.xor_false] at r
    exact .inr ⟨p, q, toPm_dp hh ax e1, toPm_dp hh ay e2, s1, s2, kk _ H G _ μ (Same.refl _) hh (.bl _) r⟩
theorem od_ne (hu : X.A.units + 64 < cLine) : OpD X B (compareOp .NotEq) (rEqB true) := imO (orO op_ne (op_neD hu)) fun x y H Q ⟨G, μ, dx, dy, k, g0, hh, ax, ay, r, kk⟩ => by
  unfold rEqB at r
  split at r
  · rename_i i j
    rw [ax.int_inv, ay.int_inv]
    refine .inl ⟨rfl, ?_⟩
    rw [beqd_int]
    rw [Bool.xor_true] at r
    exact kk _ H G _ μ (Same.refl _) hh (.bl _) r
  · rename_i i j
    rw [ax.str_inv, ay.str_inv]
    refine .inl ⟨rfl, ?_⟩
    rw [beqd_str]
    rw [Bool.xor_true] at r
    exact kk _ H G _ μ (Same.refl _) hh (.bl _) r
  · obtain ⟨p, q, e1, e2, s1, s2, r⟩ := r
    rw [Bool.xor_true] at r
    exact .inr ⟨p, q, toPm_dp hh ax e1, toPm_dp hh ay e2, s1, s2, kk _ H G _ μ (Same.refl _) hh (.bl _) r⟩
/-- is None, is not None -/
def isNonD : D → Bool
  | .non => true
  | _ => false
def rIsB (neg : Bool) : R2D := fun a b μ k => match b with
  | .non => k (.bl (isNonD a ^^ neg)) μ
  | _ => False
theorem isNonD_at {K : PySem.W.Frag} {G : Hp} {v : V} {d : D} (a : At K G v d) : decide (v = .non) = isNonD d := by
  cases a <;> simp [isNonD]
theorem od_is : OpD X B (compareOp .Is) (rIsB false) := imO op_isN fun x y H Q ⟨G, μ, dx, dy, k, g0, hh, ax, ay, r, kk⟩ => by
  cases dy with
  | non =>
    refine ⟨ay.non_inv, ?_⟩
    rw [isNonD_at ax]
    have r2 : k (.bl (isNonD dx ^^ false)) μ := r
    rw [Bool.xor_false] at r2
    exact kk _ H G _ μ (Same.refl _) hh (.bl _) r2
  | _ => exact r.elim
theorem od_isnot : OpD X B (compareOp .IsNot) (rIsB true) := imO op_notN fun x y H Q ⟨G, μ, dx, dy, k, g0, hh, ax, ay, r, kk⟩ => by
  cases dy with
  | non =>
    refine ⟨ay.non_inv, ?_⟩
    rw [isNonD_at ax]
    have r2 : k (.bl (isNonD dx ^^ true)) μ := r
    rw [Bool.xor_true] at r2
    exact kk _ H G _ μ (Same.refl _) hh (.bl _) r2
  | _ => exact r.elim
end
end Dl
namespace Dl
open PySem PySem.Spec PyProof.Rows L2
open PySem.W (Frag InstAt Looks findIn isFn subIn typeIn notFirst CmpBack looks_findIn looks_typeIn looks_subIn check_slot clsIn)
/-! ### != by object.__ne__ over an own __eq__ -/
section
variable {prog : Program} {w : World} {A : Around} {E : Value → Shared → Prop} {s : Shared} {K : Frag} {x C L f : Addr} {h₀ : Heap} {m : Str → Option Value} {ox : Obj} {od : Option Obj} {b tb : Value}
theorem ne_entry {Q : PySem.Fin → Shared → Prop} (X : K.In s.heap) (I : InstAt s.heap x ox C od) (hs : findIn K (.ref C) "__eq__" = some (some (.ref f))) (hf : isFn K (.ref f) = true) (hu : A.units < cLine)
    (h : wpAny (model prog w) A (call (.ref f) [.ref x, b]) (fun v s' => ∃ c, v = .bool c ∧ Q (.done (.ret (.bool (!c)))) s') E s) :
    wpAny (model prog w) A (Builtin.«object.__ne__» ⟨[.ref x, b], []⟩) Q E s := by
  obtain ⟨hp, g, d, tk, os⟩ := s
  unfold Builtin.«object.__ne__»
  repeat (first
    | with_reducible refine wpAny_cRoomFor hu ?_
    | (refine wpAny_bind (m := callSpecialIfBound? (.ref x) (Str.ofString "__eq__") [b])
        (PySem.W.ifBound_K X I hs hf (wpAny_mono h (fun r s' hr => by
          obtain ⟨b, rfl, hq⟩ := hr
          repeat (first | exact hq | exact wpAny_pure hq | exact wpAny_truthy_bool hq | (refine wpAny_bind (m := truthy (.bool _)) (wpAny_truthy_bool ?_)) | wp_step)) fun _ _ e => e)))
    | wp_step)
theorem ne_try {Q : Value → Shared → Prop} (hu : A.units + 1 < cLine) (F : Fr h₀ L s.heap m) (X₀ : K.In h₀) (I : InstAt s.heap x ox C od)
    (hne : findIn K (.ref C) "__ne__" = some (some (.builtin "object.__ne__"))) (hob : subIn K (.ref C) (.type "object") = some true) (hs : findIn K (.ref C) "__eq__" = some (some (.ref f))) (hf : isFn K (.ref f) = true)
    (h : wpAny (model prog w) A.in1 (call (.ref f) [.ref x, b]) (fun v s' => ∃ c, v = .bool c ∧ Q (.bool (!c)) s') E s) : wpAny (model prog w) A (tryCompare (.ref x) "__ne__" b) (fun r s' => ∃ v, r = some v ∧ Q v s') E s := by
  have X := X₀.keeps F.keep
  have sub : Looks (model prog w) s.heap (isInstance (.ref x) (.type "object")) true := I.type.andThen (looks_subIn X hob)
  unfold tryCompare
  have bc : wpAny (model prog w) A (callSpecialIfBound? (.ref x) "__ne__" [b]) (fun r s' => ∃ c, r = some (.bool c) ∧ Q (.bool c) s') E s := by
    have cl : wpAny (model prog w) A (call (.builtin "object.__ne__") [.ref x, b]) (fun v s' => ∃ c, v = .bool c ∧ Q (.bool c) s') E s := by
      refine wpAny_call (codeAny_call_builtin PySem.F.cmp_object.ne.plain PySem.F.cmpEntry_ne (@check_slot (model prog w) _ _ s "object.__ne__" "object" "__ne__" (.ref x) [b] [] _ PySem.F.cmpKind_ne PySem.F.cmpSplit_ne sub (PySem.F.cmpArgs_ne _ _) ?_))
      refine ne_entry (A := A.in1) X I hs hf hu (wpAny_mono h (fun v s' hv => ?_) fun _ _ e => e)
      obtain ⟨c, rfl, hq⟩ := hv
      exact ⟨c, rfl, !c, rfl, hq⟩
    simp only [callSpecialIfBound?, bindSpecialIfBound?]
    refine wpAny_holding (wpAny_bind (wpAny_bind (wpAny_bind (I.type.here ((looks_findIn X hne).here ?_)))))
    refine wpAny_bind (wpAny_askSetting (wpAny_ite ?_))
    have fin : wpAny (model prog w) A (call (.builtin "object.__ne__") ([.ref x] ++ [b]) >>= fun v => pure (some v)) (fun r s' => ∃ c, r = some (.bool c) ∧ Q (.bool c) s') E s := wpAny_bind (wpAny_mono cl (fun v s' ⟨c, e, q⟩ => wpAny_pure ⟨c, by rw [e], q⟩) fun _ _ h' => h')
    have bd : bindSpecial (.builtin "object.__ne__") (.ref x) = pure (.builtin "object.__ne__", [.ref x]) := by kernel_rfl
    rw [bd]
    split
    · exact wpAny_bind (wpAny_pure (wpAny_pure (by exact fin)))
    · exact wpAny_tryCatch (wpAny_bind (wpAny_pure (wpAny_pure (by exact fin))))
  refine wpAny_bind (wpAny_mono bc (fun r s' hr => ?_) fun _ _ e => e)
  obtain ⟨c, rfl, hq⟩ := hr
  exact wpAny_pure ⟨_, rfl, hq⟩
/-- a comparison whose left one is an instance, by what its first try gives -/
theorem left_K {op : CmpOp} {Q : Value → Shared → Prop} (hu : A.units < cLine) (X : K.In s.heap) (I : InstAt s.heap x ox C od) (hb : Looks (model prog w) s.heap (typeOf b) tb) (hn : notFirst K C tb = true)
    (one : wpAny (model prog w) A (tryCompare (.ref x) (cmpInfo op).2.1 b) (fun r s' => ∃ v, r = some v ∧ Q v s') E s) : wpAny (model prog w) A (richCompare op (.ref x) b) Q E s := by
  unfold richCompare
  simp only [oneThing_ref]
  refine wpAny_holding (wpAny_bind (wpAny_cRoomFor hu ?_))
  refine wpAny_bind (I.type.here (wpAny_bind (hb.here ?_)))
  split
  · rename_i q
    have e : subIn K tb (.ref C) = some false := by
      rcases Bool.or_eq_true_iff.mp hn with e | e
      · rw [beq_iff_eq.mp e] at q; simp at q
      · exact beq_iff_eq.mp e
    refine wpAny_bind ((looks_subIn X e).here ?_)
    simp only [Bool.false_eq_true, if_false]
    refine wpAny_bind (wpAny_mono one (fun r s' z => ?_) fun _ _ e => e)
    obtain ⟨v, rfl, hq⟩ := z
    exact wpAny_pure hq
  · refine wpAny_bind (wpAny_pure ?_)
    simp only [Bool.false_eq_true, if_false]
    refine wpAny_bind (wpAny_mono one (fun r s' z => ?_) fun _ _ e => e)
    obtain ⟨v, rfl, hq⟩ := z
    exact wpAny_pure hq
theorem ne_K {Q : Value → Shared → Prop} (hu : A.units + 1 < cLine) (F : Fr h₀ L s.heap m) (X₀ : K.In h₀) (I : InstAt s.heap x ox C od) (hb : Looks (model prog w) s.heap (typeOf b) tb) (hn : notFirst K C tb = true)
    (hne : findIn K (.ref C) "__ne__" = some (some (.builtin "object.__ne__"))) (hob : subIn K (.ref C) (.type "object") = some true) (hs : findIn K (.ref C) "__eq__" = some (some (.ref f))) (hf : isFn K (.ref f) = true)
    (h : wpAny (model prog w) A.in1 (call (.ref f) [.ref x, b]) (fun v s' => ∃ c, v = .bool c ∧ Q (.bool (!c)) s') E s) : wpAny (model prog w) A (richCompare .NotEq (.ref x) b) Q E s :=
  left_K (op := .NotEq) (by omega) (X₀.keeps F.keep) I hb hn (by rw [cmpInfo_NotEq]; exact ne_try hu F X₀ I hne hob hs hf h)
end
/-! ### the types of data -/
def tyD (μ : Mu) : D → Option Value
  | .non => some (.type "NoneType")
  | .bl _ => some (.type "bool")
  | .int _ => some (.type "int")
  | .str _ => some (.type "str")
  | .tup _ => some (.type "tuple")
  | .lst _ => some (.type "list")
  | .ins C _ => some (.ref C)
  | .dK _ => some (.type "dict")
  | .dT _ => some (.type "dict")
  | .ref a => match μ a with
    | some (.lst _) => some (.type "list")
    | some (.ins C _) => some (.ref C)
    | some (.dK _) => some (.type "dict")
    | some (.dT _) => some (.type "dict")
    | none => none
  | .ty _ => none
/-- what isinstance asks of a class of one's own -/
structure InsC (K : Frag) (C : Addr) : Prop where
  cl : Cls K C
  ha : findIn K (.ref C) "__class__" = some (some (.builtin "object.__class__"))
  hn : PySem.W.specialIn K (.builtin "object.__class__") "__get__" = some (some (.builtin "getset_descriptor.__get__"))
  tk : PySem.W.takesIn K (.builtin "object.__class__") = some true
  mr : PySem.W.mroIn K C (.type "object") = some true
theorem tyD_ins {K : Frag} {H : Hp} {a C dx : Addr} {fs : List (Str × V)} (e : H a = some (.ins C dx fs)) (c : InsC K C) : TyX K H (.ref a) (.ref C) := .base (.ins e c.cl c.ha c.hn c.tk c.mr)
theorem sqT_ty {K : Frag} {H : Hp} {a : Addr} {xs : List V} (h : SqT K H a xs) : TyX K H (.ref a) (.type "tuple") := by
  rcases h with (h | ⟨o, h⟩) | ⟨o, its, n, h1, h2, _⟩
  · exact .base (.tup h)
  · exact .fTuple h
  · exact .kTuple h1 h2
theorem sqL_ty {K : Frag} {H : Hp} {a : Addr} {xs : List V} (h : SqL K H a xs) : TyX K H (.ref a) (.type "list") := by
  rcases h with (h | ⟨o, h⟩) | ⟨o, its, n, h1, h2, _⟩
  · exact .base (.lst h)
  · exact .base (.frz h)
  · exact .kList h1 h2
theorem tyD_at {K : Frag} {H G F : Hp} {μ : Mu} {v : V} {d : D} {t : Value} (hh : Hold K H G F μ) (a : At K G v d) (e : tyD μ d = some t) (hi : ∀ C, t = .ref C → InsC K C) (hd : ∀ kvs, d ≠ .dT kvs) : TyX K H v t := by
  cases a with
  | non => cases e; exact .base .non
  | bl b => cases e; exact .base (.bl b)
  | int b => cases e; exact .base (.int b)
  | str b => cases e; exact .base (.str b)
  | ty n => cases e
  | tup h r => cases e; exact sqT_ty (same_seqT hh.sub h)
  | lst h r => cases e; exact sqL_ty (hh.sub.seq h)
  | ins h r => cases e; exact tyD_ins (hh.sub _ _ h) (hi _ rfl)
  | dK h r =>
    cases e
    rcases same_rd hh.sub h with h | ⟨o, h⟩
    · exact .base (.dK h)
    · exact .fDict h
  | dT h r => exact absurd rfl (hd _)
  | ref a =>
    unfold tyD at e
    dsimp only at e
    cases q : μ a with
    | none => rw [q] at e; cases e
    | some o =>
      rw [q] at e
      obtain ⟨_, m⟩ := hh.mu a o q
      cases o with
      | lst xs => cases e; obtain ⟨vs, h1, _⟩ := m; exact .base (.lst h1)
      | ins C fs => cases e; obtain ⟨dx, vs, h1, _⟩ := m; exact tyD_ins h1 (hi _ rfl)
      | dK xs => cases e; obtain ⟨vs, h1, _⟩ := m; exact .base (.dK h1)
      | dT xs => cases e; obtain ⟨vs, h1, _⟩ := m; exact .base (.dT h1)
section
variable {X : Cx} {B : Bs} {P : Program} {w : World} {K : Frag} {mg : Str → Option Value} {base : Heap}
theorem looks_ty {pins : List (Addr × Obj)} {σ : L2.St} {H : Hp} {s : Shared} {x : V} {u t : Value} {M : Model} (I : Inv X pins σ H s) (rx : RelV x u) (ty : TyX X.K H x t) : Looks M s.heap (typeOf u) t := by
  obtain ⟨P, k, p, _⟩ := kit_of I rx ty
  exact k.ty M _ I.kIn p
/-! ### comparisons by own methods -/
/-- an instance of the class at C, what stands beside it, the method's promise: a truth value -/
def rOwn (K : Frag) (C : Addr) (neg : Bool) (sp : SpD) : R2D := fun a b μ k => (∃ fs, insOf μ a = some (C, fs)) ∧ (∃ t, tyD μ b = some t ∧ notFirst K C t = true ∧ (∀ D, t = .ref D → InsC K D) ∧ ∀ kvs, b ≠ .dT kvs) ∧
  sp [a, b] μ (fun v μ' => ∃ c, v = .bl c ∧ k (.bl (c ^^ neg)) μ') x0
theorem run_own {CX : CXT} {j : Nat} {f : Addr} {fd : FuncData} {ps : List Str} {sp : Sp} {pins : List (Addr × Obj)} {σ : L2.St} {H : Hp} {s : Shared} {A : Around} {vs : List V} {us : List Value} {Q : VK} {E : XK} {Qs : Value → Shared → Prop}
    (F : FnOk X.prog X.w X.K X.mg X.base CX j f fd ps sp) (hr : Room j A) (hfr : A.frames = X.A.frames) (hb : Binds X.K fd ps []) (hx : Passes CX X E) (I : Inv X pins σ H s) (r : Vals vs us) (h : sp vs H Q E)
    (hq : ∀ u s', EP X pins σ Q u s' → Qs u s') : wpAny (model X.prog X.w) A (call (.ref f) us) Qs X.xe s := by
  have hl := F.len _ _ _ _ h
  have e0 : Env0 X.prog X.w X.K X.mg X.base A X.stack s H := by
    have e := I.env0
    exact ⟨by rw [hfr]; exact e.frames, e.mod, e.bs, e.bsz, e.funs, e.frf, e.hok, e.bare⟩
  refine wpAny_call (codeAny_mono (F.run A X.stack s H ⟨us, []⟩ us vs Q E hr e0 (by
    have := hb s us I.kIn (by rw [List.append_nil, ← r.length]; exact hl)
    rw [List.append_nil] at this
    exact this) r h) fun r s' hq' => ?_)
  cases r with
  | error e => exact hx pins σ H s e s' I hq'
  | ok fl =>
    cases fl with
    | ret w => exact hq w s' (I.after hq')
    | next => exact False.elim hq'
    | brk => exact False.elim hq'
    | cont => exact False.elim hq'
/-- a method of a class as an operator's: where it stands, its promise -/
structure OpG (P : Program) (w : World) (K : Frag) (mg : Str → Option Value) (base : Heap) (j : Nat) (C : Addr) (m : Str) (sp : SpD) : Prop where
  ex : ∃ (f : Addr) (fd : FuncData) (ps : List Str), findIn K (.ref C) m = some (some (.ref f)) ∧ isFn K (.ref f) = true ∧ Binds K fd ps [] ∧ FnOk P w K mg base (CXe P w) j f fd ps (lSp K sp)
theorem od_own {op : CmpOp} {j : Nat} {C : Addr} {m : Str} {sp : SpD} (M : OpG P w K mg base j C m sp) (hr : Room j X.A) (hm : (cmpInfo op).2.1 = m := by rfl) (hX : XIs X P w K mg base := by exact ⟨rfl, rfl, rfl, rfl, rfl⟩) (hop : ∀ a b, compareOp op a b = richCompare op a b := by intro _ _; rfl) : OpD X B (compareOp op) (rOwn K C false sp) := by
  subst hm
  obtain ⟨rfl, rfl, rfl, rfl, rfl⟩ := hX
  obtain ⟨f, fd, ps, hs, hf, hb, F⟩ := M.ex
  rintro pins s σ H x y u v Q I rx ry ⟨G, μ, dx, dy, k, g0, hh, ax, ay, ⟨⟨fs, e1⟩, ⟨t, e2, nf, hi, hd⟩, q⟩, kk⟩
  obtain ⟨p, dxx, vs, rfl, hH, _⟩ := insOf_at hh ax e1
  have ty := tyD_at hh ay e2 hi hd
  cases rx
  obtain ⟨mA, J, _⟩ := ins_get I.hok hH
  obtain ⟨od, J, _⟩ := J.look
  obtain ⟨m, hF⟩ := I.fr
  rw [hop]
  refine PySem.W.cmp_K (op := op) (tb := t) hr.units0 hF I.ok.mod.kin J (looks_ty I ry ty) nf hs hf ?_
  refine run_own F hr rfl hb passE0 I (.cons (show L2.RelV (.ref p) (.ref p) from rfl) (.cons ry .nil)) (lSp_go (Q := fun z H' => ∃ c, z = .bl c ∧ Q (.bl c) H') hh (.cons ax (.cons ay .nil)) q fun z H' G' d μ' s' h' a' ⟨c, e, q'⟩ => ?_) fun z s' hz => ?_
  · subst e
    rw [Bool.xor_false] at q'
    exact ⟨c, a'.bl_inv, kk _ H' G' _ μ' s' h' (.bl c) q'⟩
  · obtain ⟨z, H', I', rz, c, ez, q'⟩ := hz
    subst ez
    cases rz
    exact ⟨.bl c, H', I', rfl, q'⟩
/-- != over an own __eq__ -/
structure NeC (K : Frag) (C : Addr) : Prop where
  ne : findIn K (.ref C) "__ne__" = some (some (.builtin "object.__ne__"))
  ob : subIn K (.ref C) (.type "object") = some true
theorem od_ownNe {j : Nat} {C : Addr} {sp : SpD} (M : OpG P w K mg base j C "__eq__" sp) (N : NeC K C) (hr : Room (j + 1) X.A) (hX : XIs X P w K mg base := by exact ⟨rfl, rfl, rfl, rfl, rfl⟩) : OpD X B (compareOp .NotEq) (rOwn K C true sp) := by
  obtain ⟨rfl, rfl, rfl, rfl, rfl⟩ := hX
  obtain ⟨f, fd, ps, hs, hf, hb, F⟩ := M.ex
  rintro pins s σ H x y u v Q I rx ry ⟨G, μ, dx, dy, k, g0, hh, ax, ay, ⟨⟨fs, e1⟩, ⟨t, e2, nf, hi, hd⟩, q⟩, kk⟩
  obtain ⟨p, dxx, vs, rfl, hH, _⟩ := insOf_at hh ax e1
  have ty := tyD_at hh ay e2 hi hd
  cases rx
  obtain ⟨mA, J, _⟩ := ins_get I.hok hH
  obtain ⟨od, J, _⟩ := J.look
  obtain ⟨m, hF⟩ := I.fr
  show wpAny _ _ (richCompare .NotEq (.ref p) v) _ _ _
  refine ne_K (tb := t) (by have := hr.units; omega) hF I.ok.mod.kin J (looks_ty I ry ty) nf N.ne N.ob hs hf ?_
  refine run_own F hr.in1 rfl hb passE0 I (.cons (show L2.RelV (.ref p) (.ref p) from rfl) (.cons ry .nil)) (lSp_go (Q := fun z H' => ∃ c, z = .bl c ∧ Q (.bl (!c)) H') hh (.cons ax (.cons ay .nil)) q fun z H' G' d μ' s' h' a' ⟨c, e, q'⟩ => ?_) fun z s' hz => ?_
  · subst e
    rw [Bool.xor_true] at q'
    exact ⟨c, a'.bl_inv, kk _ H' G' _ μ' s' h' (.bl _) q'⟩
  · obtain ⟨z, H', I', rz, c, ez, q'⟩ := hz
    subst ez
    cases rz
    exact ⟨c, rfl, .bl (!c), H', I', rfl, q'⟩
/-! ### isinstance -/
theorem pd_fnB {id : String} {r : RAD} {x : Str} {e : Expr} {es : List Expr} {t : TAD} {p pos : Pos} (hc : CallD X B (.builtin id) r) (hm : X.mg x = none) (ha : PDA X B (e :: es) t) (hv : bootBuiltins x = some (.builtin id) := by decide +kernel) (hg : Gl X x := by rfl) (hn : x ≠ "__name__" := by decide) (hdb : (x == ("__debug__" : Str)) = false := by decide)
    (he : starEach (e :: es) X.env = (false, eval e X.env) :: starEach es X.env := by rfl) (hpl : (backTo pos (starEach es X.env)).any (·.1) = false := by rfl) : PD X B (.Call (.Name x p) (e :: es) [] pos) (dArgs r t) := imE (pe_callB hc hg hm hv ha hn hdb he hpl) fun σ H Q ⟨G, ρ, μ, k, g0, hh, sl, q, kk⟩ =>
  ⟨G, ρ, μ, _, g0, hh, sl, q, fun vs H1 G1 ds μ1 s1 h1 a1 q1 => ⟨G1, μ1, ds, k, g0.trans s1, h1, a1, q1, fun v3 H3 G3 d3 μ3 s3 => kk v3 H3 G3 d3 μ3 (s1.trans s3)⟩⟩
theorem pd_fnT {T : String} {r : RAD} {x : Str} {e : Expr} {es : List Expr} {t : TAD} {p pos : Pos} (hc : CallD X B (.type T) r) (hm : X.mg x = none) (ha : PDA X B (e :: es) t) (hv : bootBuiltins x = some (.type T) := by decide +kernel) (hg : Gl X x := by rfl) (hn : x ≠ "__name__" := by decide) (hdb : (x == ("__debug__" : Str)) = false := by decide)
    (he : starEach (e :: es) X.env = (false, eval e X.env) :: starEach es X.env := by rfl) (hpl : (backTo pos (starEach es X.env)).any (·.1) = false := by rfl) : PD X B (.Call (.Name x p) (e :: es) [] pos) (dArgs r t) := imE (pe_callTy hc hg hm hv ha hn hdb he hpl) fun σ H Q ⟨G, ρ, μ, k, g0, hh, sl, q, kk⟩ =>
  ⟨G, ρ, μ, _, g0, hh, sl, q, fun vs H1 G1 ds μ1 s1 h1 a1 q1 => ⟨G1, μ1, ds, k, g0.trans s1, h1, a1, q1, fun v3 H3 G3 d3 μ3 s3 => kk v3 H3 G3 d3 μ3 (s1.trans s3)⟩⟩
def clsV : D → Option Value
  | .ty n => some (.type n)
  | .ref C => some (.ref C)
  | _ => none
def rIsiD (K : Frag) : RAD := fun ds μ k => ∃ x c t u b, ds = [x, c] ∧ clsV c = some u ∧ tyD μ x = some t ∧ (∀ D, t = .ref D → InsC K D) ∧ (∀ kvs, x ≠ .dT kvs) ∧ PySem.W.kitOne K t u = some b ∧ k (.bl b) μ
theorem cd_isi (hK : X.K = K := by rfl) : CallD X B (.builtin "isinstance") (rIsiD K) := imC call_isi fun vs H Q ⟨G, μ, ds, k, g0, hh, a, ⟨x, c, t, u, b, e, e1, e2, hi, hd, e3, q⟩, kk⟩ => by
  subst hK
  subst e
  obtain ⟨v, w, rfl, av, aw⟩ := a.two
  refine ⟨v, w, t, u, b, rfl, ?_, tyD_at hh av e2 hi hd, e3, kk _ H G _ μ (Same.refl _) hh (.bl b) q⟩
  cases aw with
  | ty n => cases e1; exact .ty n
  | ref C => cases e1; exact .own C
  | _ => cases e1
/-! ### static methods of a class -/
structure SmG (P : Program) (w : World) (K : Frag) (mg : Str → Option Value) (base : Heap) (j : Nat) (x : Str) (C : Addr) (m : Str) (ps : List Str) (sp : SpD) : Prop where
  hg : mg x = some (.ref C)
  rd : ClX.CRead K C (.type "type")
  ex : ∃ (p f : Addr) (fd : FuncData), PySem.W.findCls K (.ref C) (.type "type") m = some (.get (.builtin "staticmethod.__get__") (.ref p) .none (.ref C)) ∧ (∃ rest, PySem.W.recIn K p "staticmethod" = some (.ref f :: rest)) ∧ PySem.W.keepIn K (.ref f) = true ∧
    Binds K fd ps [] ∧ FnOk P w K mg base (CXe P w) j f fd ps (lSp K sp)
theorem pd_sm {pl : Sem Bool} {j : Nat} {x : Str} {C : Addr} {m : Str} {ps : List Str} {sp : SpD} {t : TAD} {e : Expr} {es : List Expr} {p apos pos : Pos} (S : SmG P w K mg base j x C m ps sp) (hr : Room j X.A) (ha : PDA X B (e :: es) t) (hX : XIs X P w K mg base := by exact ⟨rfl, rfl, rfl, rfl, rfl⟩) (hg : Gl X x := by rfl) (hdb : (x == ("__debug__" : Str)) = false := by decide)
    (hst : starEach (e :: es) X.env = (false, eval e X.env) :: starEach es X.env := by rfl) (hpl : (backTo pos (starEach es X.env)).any (·.1) = false := by rfl)
    (ht : eval (.Call (.Attribute (.Name x p) m apos) (e :: es) [] pos) X.env = (do
      let ov ← eval (.Name x p) X.env
      standAt apos.atName
      let (f, first) ← holding [ov] (getMethod ov m pl)
      callWith pos f first (backTo pos (starEach (e :: es) X.env)) (backToKw pos (keywordEach [] X.env))) := by rfl) : PD X B (.Call (.Attribute (.Name x p) m apos) (e :: es) [] pos) (dCall sp t) := by
  obtain ⟨rfl, rfl, rfl, rfl, rfl⟩ := hX
  obtain ⟨q, f, fd, hc, ⟨rest, hrec⟩, hk, hb, F⟩ := S.ex
  refine ⟨fun pins s σ H Q I h => ?_⟩
  refine PySem.W.methodCall_KW (pl := pl) (ld_glob I hg S.hg ?_ hdb) ht
  refine PySem.W.method_cls I.kIn S.rd.ga ?_
  refine PySem.W.cls_bind I.kIn S.rd.rd hc ?_
  refine wpAny_call (PySem.W.sm_get (s := { s with toks := s.toks + 1 }) I.kIn hrec (PySem.W.handed_on rfl ?_))
  have I2 : Inv X pins σ H { s with toks := s.toks + 1 } := I.tok _
  obtain ⟨G, ρ, μ, k, g0, hh, sl, q1, kk⟩ := h
  refine PySem.W.callWith_K (h₀ := X.base) I2.ok.mod.kin hk (thn (ha.run pos pins _ σ H _ I2 ⟨G, ρ, μ, _, g0, hh, sl, q1, fun vs H1 G1 ds μ1 s1 h1 a1 q2 => (lSp_go h1 a1 q2 fun v H' G' d μ' s' => kk v H' G' d μ' (s1.trans s') : lSp X.K sp vs H1 Q _)⟩) fun us s1 ⟨vs, H1, I1, r, q⟩ => ⟨I1.kIn, ?_⟩) hst hpl
  exact run_fn F hr hb .nil passE0 I1 r (by rw [List.append_nil]; exact q)
/-! ### lists that grow; things that stay from now on -/
def dAppend (i : Nat) (t : TED) : TED := fun ρ μ k => ∃ p, ρ[i]? = some (some (.ref p)) ∧ t ρ μ fun x μ1 => ∃ xs, μ1 p = some (.lst xs) ∧ xs.length ≤ 100000 ∧ k .non (mput μ1 p (.lst (xs ++ [x])))
/-- the list in slot i is from here on data -/
def dFrz (i : Nat) (t : TSD) : TSD := fun E ρ μ => ∃ p xs, ρ[i]? = some (some (.ref p)) ∧ μ p = some (.lst xs) ∧ t E (ρ.set i (some (.lst xs))) (mdel μ p)
theorem slots_put {K : Frag} {G : Hp} {σ : L2.St} {ρ : SD} {i : Nat} {v : V} {d : D} (s : Slots K G σ ρ) (e : σ[i]? = some (some v)) (a : At K G v d) : Slots K G σ (ρ.set i (some d)) := by
  have h := s.set i a
  have z : σ.set i (some v) = σ := by
    refine List.ext_getElem? fun j => ?_
    by_cases hj : i = j
    · subst hj
      rw [e]
      exact List.getElem?_set_self (by
        rcases Nat.lt_or_ge i σ.length with h | h
        · exact h
        · rw [List.getElem?_eq_none h] at e; cases e)
    · rw [List.getElem?_set_ne hj]
  rw [z] at h
  exact h
theorem pds_frz {st : Stmt} {t : TSD} (i : Nat) (h : PDS X B st t) : PDS X B st (dFrz i t) := imS h fun D σ H ⟨G, ρ, μ, E, g0, hh, sl, ⟨p, xs, e1, e2, q⟩, k1, k2, k3, k4⟩ => by
  obtain ⟨_, vs, h1, r⟩ := hh.mu p _ e2
  obtain ⟨h2, s2⟩ := hh.freeze e2 h1
  obtain ⟨v, ev, av⟩ := sl.at_ i _ e1
  cases av
  exact lS_go g0 s2 h2 (slots_put (sl.mono s2) ev (.lst (SqL.of upd_same) (r.mono s2))) q k1 k2 k3 k4
end
end Dl
namespace Dl
open PySem PySem.Spec PyProof.Rows L2
section
variable {X : Cx} {B : Bs}
/-! ### built-in functions -/
def rLenD : RAD := fun ds μ k => match ds with
  | [.str z] => z.length ≤ 100000 ∧ k (.int z.length) μ
  | [d] => ∃ xs, seqOf μ d = some xs ∧ k (.int xs.length) μ
  | _ => False
theorem cd_len : CallD X B (.builtin "len") rLenD := imC call_len fun vs H Q ⟨G, μ, ds, k, g0, hh, a, q, kk⟩ => by
  cases a with
  | nil => exact q.elim
  | @cons v d _ _ a1 t =>
    cases t with
    | cons _ _ => exact (show False by unfold rLenD at q; split at q <;> simp_all).elim
    | nil =>
      by_cases hs : ∃ z, d = .str z
      · obtain ⟨z, rfl⟩ := hs
        have q2 : z.length ≤ 100000 ∧ k (.int z.length) μ := q
        rw [a1.str_inv]
        exact ⟨.str z, z.length, rfl, ⟨line_of q2.1, rfl⟩, kk _ H G _ μ (Same.refl _) hh (.int _) q2.2⟩
      · have q2 : ∃ xs, seqOf μ d = some xs ∧ k (.int xs.length) μ := by
          unfold rLenD at q
          split at q
          · rename_i z e; cases e; exact absurd ⟨z, rfl⟩ hs
          · rename_i d' _ e; cases e; exact q
          · exact q.elim
        obtain ⟨xs, e, q2⟩ := q2
        obtain ⟨p, ws, rfl, hq, r⟩ := seqOf_at hh a1 e
        refine ⟨.ref p, ws.length, rfl, ?_, by rw [r.length]; exact kk _ H G _ μ (Same.refl _) hh (.int _) q2⟩
        rcases hq with hq | hq
        · exact .inl ⟨ws, hq, rfl⟩
        · exact .inr ⟨ws, hq, rfl⟩
def rInt1 (g : Int → D) : RAD := fun ds μ k => match ds with
  | [.int i] => k (g i) μ
  | _ => False
theorem cd_abs : CallD X B (.builtin "abs") (rInt1 fun i => .int (if i < 0 then -i else i)) := imC call_abs fun vs H Q ⟨G, μ, ds, k, g0, hh, a, q, kk⟩ => by
  unfold rInt1 at q
  split at q
  · rename_i i
    obtain ⟨v, rfl, av⟩ := a.one
    rw [av.int_inv]
    exact ⟨i, rfl, kk _ H G _ μ (Same.refl _) hh (.int _) q⟩
  · exact q.elim
def rIntD : RAD := fun ds μ k => match ds with
  | [.int i] => k (.int i) μ
  | [.bl b] => k (.int (if b then 1 else 0)) μ
  | _ => False
theorem cd_int : CallD X B (.type "int") rIntD := imC call_int1 fun vs H Q ⟨G, μ, ds, k, g0, hh, a, q, kk⟩ => by
  unfold rIntD at q
  split at q
  · rename_i i
    obtain ⟨v, rfl, av⟩ := a.one
    rw [av.int_inv]
    exact .inl ⟨i, rfl, kk _ H G _ μ (Same.refl _) hh (.int _) q⟩
  · rename_i i
    obtain ⟨v, rfl, av⟩ := a.one
    rw [av.bl_inv]
    exact .inr ⟨i, rfl, kk _ H G _ μ (Same.refl _) hh (.int _) q⟩
  · exact q.elim
def rInt2 (g : Int → Int → D) : RAD := fun ds μ k => match ds with
  | [.int i, .int j] => k (g i j) μ
  | _ => False
theorem cd_max2 (hc : X.calm = true) : CallD X B (.builtin "max") (rInt2 fun i j => .int (if j > i then j else i)) := imC (call_max2 hc) fun vs H Q ⟨G, μ, ds, k, g0, hh, a, q, kk⟩ => by
  unfold rInt2 at q
  split at q
  · rename_i i j
    obtain ⟨v, w, rfl, av, aw⟩ := a.two
    rw [av.int_inv, aw.int_inv]
    exact ⟨i, j, rfl, kk _ H G _ μ (Same.refl _) hh (.int _) q⟩
  · exact q.elim
theorem cd_min2 (hc : X.calm = true) : CallD X B (.builtin "min") (rInt2 fun i j => .int (if j < i then j else i)) := imC (call_min2 hc) fun vs H Q ⟨G, μ, ds, k, g0, hh, a, q, kk⟩ => by
  unfold rInt2 at q
  split at q
  · rename_i i j
    obtain ⟨v, w, rfl, av, aw⟩ := a.two
    rw [av.int_inv, aw.int_inv]
    exact ⟨i, j, rfl, kk _ H G _ μ (Same.refl _) hh (.int _) q⟩
  · exact q.elim
/-- repr of what is flat -/
def reprD : D → Option Str
  | .non => some "None"
  | .bl b => some (if b then "True" else "False")
  | .int i => if i.natAbs.log2 < 1920 then some (toString i : String) else none
  | _ => none
def rRepr : RAD := fun ds μ k => ∃ d z, ds = [d] ∧ reprD d = some z ∧ k (.str z) μ
theorem call_repr : CallR X (.builtin "repr") (fun xs H Q => xs = [.non] ∧ Q (.str "None") H ∨ (∃ b, xs = [.bl b] ∧ Q (.str (if b then "True" else "False")) H) ∨ ∃ i, xs = [.int i] ∧ i.natAbs.log2 < 1920 ∧ Q (.str (toString i : String)) H) := by
  intro pins s σ H xs us Q I r h
  rcases h with ⟨rfl, q⟩ | ⟨b, rfl, q⟩ | ⟨i, rfl, hz, q⟩
  · cases r with
    | cons r1 r2 =>
      cases r2
      obtain rfl : _ = Value.none := r1
      exact PySem.P.repr_of_none ⟨.str _, H, I.tok _, ⟨_, rfl⟩, q⟩
  · cases r with
    | cons r1 r2 =>
      cases r2
      obtain rfl : _ = Value.bool b := r1
      refine PySem.P.repr_of_bool ⟨.str (if b then "True" else "False"), H, I.tok _, ?_, q⟩
      cases b <;> exact ⟨_, rfl⟩
  · cases r with
    | cons r1 r2 =>
      cases r2
      obtain ⟨t, rfl⟩ := r1
      exact PySem.P.repr_of_int hz ⟨.str _, H, I.tok _, ⟨_, rfl⟩, q⟩
theorem cd_repr : CallD X B (.builtin "repr") rRepr := imC call_repr fun vs H Q ⟨G, μ, ds, k, g0, hh, a, ⟨d, z, e0, e, q⟩, kk⟩ => by
  subst e0
  obtain ⟨v, rfl, av⟩ := a.one
  cases av with
  | non => cases e; exact .inl ⟨rfl, kk _ H G _ μ (Same.refl _) hh (.str _) q⟩
  | bl b => cases e; exact .inr (.inl ⟨b, rfl, kk _ H G _ μ (Same.refl _) hh (.str _) q⟩)
  | int i =>
    unfold reprD at e
    dsimp only at e
    split at e
    · rename_i hz
      cases e
      exact .inr (.inr ⟨i, rfl, hz, kk _ H G _ μ (Same.refl _) hh (.str _) q⟩)
    · cases e
  | _ => cases e
/-! ### append -/
def dApp (to : TED) (t : TAD) : TED := fun ρ μ k => to ρ μ fun o μ0 => ∃ p, o = .ref p ∧ (∃ ys, μ0 p = some (.lst ys)) ∧ t ρ μ0 fun ds μ1 => ∃ x xs, ds = [x] ∧ μ1 p = some (.lst xs) ∧ xs.length ≤ 100000 ∧ k .non (mput μ1 p (.lst (xs ++ [x])))
theorem pd_app {o e : Expr} {to : TED} {t : TAD} {apos cpos : Pos} (ho : PD X B o to) (ha : PDA X B [e] t)
    (hbase : attributeBase o "append" X.env (eval o X.env) = eval o X.env := by rfl)
    (hfew : ((backTo cpos (starEach [e] X.env)).all (fun x => !x.1) && (backToKw cpos (keywordEach [] X.env)).all (fun x => x.1.isSome)
      && decide ([e].length + ([] : List Keyword).length + (if ([] : List Keyword).isEmpty then 0 else 1) < 30)) = true := by rfl)
    (hline : (apos.endLine == cpos.line) = true := by rfl) (hs : starEach [e] X.env = (false, eval e X.env) :: starEach [] X.env := by rfl) (hplain : (backTo cpos (starEach [] X.env)).any (·.1) = false := by rfl) : PD X B (.Call (.Attribute o "append" apos) [e] [] cpos) (dApp to t) :=
  imE (pe_bm PySem.F.plainAttrs_list PySem.F.slot_list_append PySem.F.type_list_append mt_append ho ha hbase hfew hline hs hplain) fun σ H Q ⟨G, ρ, μ, k, g0, hh, sl, q, kk⟩ => by
    refine ⟨G, ρ, μ, _, g0, hh, sl, q, fun v H1 G1 d μ1 s1 h1 a1 q1 => ?_⟩
    obtain ⟨p, rfl, ⟨ys, e1⟩, q1⟩ := q1
    cases a1
    obtain ⟨_, ws, h2, _⟩ := h1.mu p _ e1
    refine ⟨.inl ⟨rfl, ws, SqL.of h2⟩, ?_⟩
    refine ⟨G1, ρ, μ1, _, g0.trans s1, h1, sl.mono s1, q1, fun vs H2 G2 ds μ2 s2 h2 a2 q2 => ?_⟩
    obtain ⟨x, xs, rfl, e2, hz, q2⟩ := q2
    obtain ⟨v, rfl, av⟩ := a2.one
    obtain ⟨_, zs, h3, r3⟩ := h2.mu p _ e2
    exact ⟨p, zs, v, rfl, rfl, h3, by rw [r3.length]; exact line_lt hz, kk _ _ G2 _ _ (s1.trans s2) (h2.write (m := .lst (xs ++ [x])) e2 ⟨_, upd_same, r3.append (.cons av .nil)⟩) .non q2⟩
/-- o[i] = e, o a list of the store -/
def dSetI (to ti te : TED) : TSD := fun E ρ μ => te ρ μ fun v μ1 => to ρ μ1 fun o μ2 => ti ρ μ2 fun i μ3 => ∃ p xs j n, o = .ref p ∧ i = .int j ∧ μ3 p = some (.lst xs) ∧ ixN xs.length j = some n ∧ E.nx ρ (mput μ3 p (.lst (xs.set n v)))
theorem pds_setI {o i e : Expr} {to ti te : TED} {p pos : Pos} (ho : PD X B o to) (hi : PD X B i ti) (he : PD X B e te)
    (hs : swapsWithSole [.Subscript o i p] e pos.line X.env = pure false := by rfl) (hw : swappedStores [.Subscript o i p] e X.env = pure none := by rfl) (h1 : (assignEach [.Subscript o i p] X.env).map (·.2) = [assign (.Subscript o i p) X.env] := by rfl)
    (ha : ∀ v, assign (.Subscript o i p) X.env v = (do
      let ov ← holding [v] (eval o X.env)
      let iv ← holding [v, ov] (eval i X.env)
      standAt p
      holding [v, ov, iv] (setItem ov iv v)
      release [v, ov, iv] []) := by intro _; rfl) : PDS X B (.Assign [.Subscript o i p] e pos) (dSetI to ti te) := imS (ps_asg he (pg_sub ho hi set_list ha) hs hw h1) fun D σ H ⟨G, ρ, μ, E, g0, hh, sl, q, k1, k2, k3, k4⟩ => by
  refine ⟨G, ρ, μ, _, g0, hh, sl, q, fun v H1 G1 d μ1 s1 h1 a1 q1 => ?_⟩
  refine ⟨G1, ρ, μ1, _, g0.trans s1, h1, sl.mono s1, q1, fun v2 H2 G2 d2 μ2 s2 h2 a2 q2 => ?_⟩
  refine ⟨G2, ρ, μ2, _, (g0.trans s1).trans s2, h2, (sl.mono s1).mono s2, q2, fun v3 H3 G3 d3 μ3 s3 h3 a3 q3 => ?_⟩
  obtain ⟨p, xs, j, n, e1, e2, e3, e4, q3⟩ := q3
  subst e1 e2
  cases a2
  obtain ⟨_, zs, h4, r4⟩ := h3.mu p _ e3
  rw [a3.int_inv]
  have s13 := (s1.trans s2).trans s3
  exact ⟨p, zs, j, n, rfl, rfl, h4, by rw [r4.length]; exact e4, k1 σ _ G3 ρ _ s13 (h3.write (m := .lst (xs.set n d)) e3 ⟨_, upd_same, r4.set ((a1.mono s2).mono s3) n⟩) (sl.mono s13) q3⟩
end
end Dl
namespace Dl
open PySem PySem.Spec PyProof.Rows L2
section
variable {X : Cx} {B : Bs}
/-- a built-in class as a value -/
theorem pd_ty {x : Str} {T : String} {pos : Pos} (hm : X.mg x = none) (hv : bootBuiltins x = some (.type T) := by decide +kernel) (hg : Gl X x := by rfl) (hn : x ≠ "__name__" := by decide) (hd : (x == ("__debug__" : Str)) = false := by decide) : PD X B (.Name x pos) (dC (.ty T)) :=
  pdc (pe_bltn (v := .ty T) hg hm hv rfl hn hd) fun _ => .ty T
theorem pd_gint {x : Str} {i : Int} {pos : Pos} (hm : ∃ t, X.mg x = some (.int i t)) (hg : Gl X x := by rfl) (hd : (x == ("__debug__" : Str)) = false := by decide) : PD X B (.Name x pos) (dC (.int i)) := by
  obtain ⟨t, hm⟩ := hm
  exact pd_glob (v := .int i) hm ⟨t, rfl⟩ (fun _ => .int i) hg hd
theorem pd_gstr {x z : Str} {pos : Pos} (hm : ∃ t, X.mg x = some (.str z t)) (hg : Gl X x := by rfl) (hd : (x == ("__debug__" : Str)) = false := by decide) : PD X B (.Name x pos) (dC (.str z)) := by
  obtain ⟨t, hm⟩ := hm
  exact pd_glob (v := .str z) hm ⟨t, rfl⟩ (fun _ => .str z) hg hd
end
/-! ### readings at data that is known: equations for simp -/
section
variable {μ : Mu} {k : KD}
theorem q_ixl {xs : List D} {i : Int} : rIxD (.lst xs) (.int i) μ k = ∃ v, L2.atI xs i = some v ∧ k v μ := by
  show (∃ ys v, some xs = some ys ∧ L2.atI ys i = some v ∧ k v μ) = _
  simp
theorem q_ixt {xs : List D} {i : Int} : rIxD (.tup xs) (.int i) μ k = ∃ v, L2.atI xs i = some v ∧ k v μ := by
  show (∃ ys v, some xs = some ys ∧ L2.atI ys i = some v ∧ k v μ) = _
  simp
theorem q_ixr {p : Addr} {i : Int} : rIxD (.ref p) (.int i) μ k = ∃ xs v, μ p = some (.lst xs) ∧ L2.atI xs i = some v ∧ k v μ := by
  show (∃ ys v, (match μ p with | some (.lst xs) => some xs | _ => none) = some ys ∧ L2.atI ys i = some v ∧ k v μ) = _
  apply propext
  constructor
  · rintro ⟨ys, v, e, e2, q⟩
    cases h : μ p with
    | none => rw [h] at e; cases e
    | some o =>
      rw [h] at e
      cases o with
      | lst zs => cases e; exact ⟨_, v, rfl, e2, q⟩
      | _ => cases e
  · rintro ⟨ys, v, e, e2, q⟩
    exact ⟨ys, v, by rw [e], e2, q⟩
theorem q_ixs {z : Str} {i : Int} : rIxD (.str z) (.int i) μ k = (z.length ≤ 100000 ∧ ∃ c, L2.atI z.cps.toList i = some c ∧ k (.str ⟨#[c]⟩) μ) := rfl
theorem q_at0 {α : Type} {x : α} {xs : List α} : L2.atI (x :: xs) 0 = some x := by
  unfold L2.atI ixN
  rw [if_pos (Int.le_refl 0), if_pos (by rw [List.length_cons]; omega)]
  rfl
theorem q_at1 {α : Type} {x y : α} {xs : List α} : L2.atI (x :: y :: xs) 1 = some y := by
  unfold L2.atI ixN
  rw [if_pos (by decide), if_pos (by rw [List.length_cons, List.length_cons]; omega)]
  rfl
theorem q_at2 {α : Type} {x y z : α} {xs : List α} : L2.atI (x :: y :: z :: xs) 2 = some z := by
  unfold L2.atI ixN
  rw [if_pos (by decide), if_pos (by rw [List.length_cons, List.length_cons, List.length_cons]; omega)]
  rfl
theorem q_at3 {α : Type} {x y z u : α} {xs : List α} : L2.atI (x :: y :: z :: u :: xs) 3 = some u := by
  unfold L2.atI ixN
  rw [if_pos (by decide), if_pos (by rw [List.length_cons, List.length_cons, List.length_cons, List.length_cons]; omega)]
  rfl
theorem q_ixn0 {n : Nat} : ixN (n + 1) 0 = some 0 := by
  unfold ixN
  rw [if_pos (Int.le_refl 0), if_pos (by omega)]
  rfl
theorem q_ixn1 {n : Nat} : ixN (n + 2) 1 = some 1 := by
  unfold ixN
  rw [if_pos (by decide), if_pos (by omega)]
  rfl
theorem q_i2 {g : Int → Int → D} {i j : Int} : rI2 g (.int i) (.int j) μ k = k (g i j) μ := rfl
theorem q_ii {C : Int → Int → Prop} {g : Int → Int → D} {i j : Int} : rII C g (.int i) (.int j) μ k = (C i j ∧ k (g i j) μ) := rfl
theorem q_u1 {g : Int → D} {i : Int} : rU1 g (.int i) μ k = k (g i) μ := rfl
theorem q_addi {i j : Int} : rAddD (.int i) (.int j) μ k = k (.int (i + j)) μ := rfl
theorem q_adds {x y : Str} : rAddD (.str x) (.str y) μ k = (x.length + y.length ≤ 100000 ∧ k (.str (x ++ y)) μ) := rfl
theorem q_eqi {i j : Int} {n : Bool} : rEqB n (.int i) (.int j) μ k = k (.bl (decide (i = j) ^^ n)) μ := rfl
theorem q_eqs {i j : Str} {n : Bool} : rEqB n (.str i) (.str j) μ k = k (.bl (decide (i = j) ^^ n)) μ := rfl
theorem q_isn {n : Bool} : rIsB n .non .non μ k = k (.bl (true ^^ n)) μ := rfl
theorem q_isb {b n : Bool} : rIsB n (.bl b) .non μ k = k (.bl (false ^^ n)) μ := rfl
theorem q_isi {i : Int} {n : Bool} : rIsB n (.int i) .non μ k = k (.bl (false ^^ n)) μ := rfl
theorem q_iss {x : Str} {n : Bool} : rIsB n (.str x) .non μ k = k (.bl (false ^^ n)) μ := rfl
theorem q_ist {xs : List D} {n : Bool} : rIsB n (.tup xs) .non μ k = k (.bl (false ^^ n)) μ := rfl
theorem q_isl {xs : List D} {n : Bool} : rIsB n (.lst xs) .non μ k = k (.bl (false ^^ n)) μ := rfl
theorem q_isx {C : Addr} {fs : List (Str × D)} {n : Bool} : rIsB n (.ins C fs) .non μ k = k (.bl (false ^^ n)) μ := rfl
theorem q_isr {a : Addr} {n : Bool} : rIsB n (.ref a) .non μ k = k (.bl (false ^^ n)) μ := rfl
theorem q_lenl {xs : List D} : rLenD [.lst xs] μ k = k (.int xs.length) μ := by
  show (∃ ys, some xs = some ys ∧ k (.int ys.length) μ) = _
  simp
theorem q_lent {xs : List D} : rLenD [.tup xs] μ k = k (.int xs.length) μ := by
  show (∃ ys, some xs = some ys ∧ k (.int ys.length) μ) = _
  simp
theorem q_lens {z : Str} : rLenD [.str z] μ k = (z.length ≤ 100000 ∧ k (.int z.length) μ) := rfl
theorem q_lenr {p : Addr} : rLenD [.ref p] μ k = ∃ xs, μ p = some (.lst xs) ∧ k (.int xs.length) μ := by
  show (∃ ys, (match μ p with | some (.lst xs) => some xs | _ => none) = some ys ∧ k (.int ys.length) μ) = _
  apply propext
  constructor
  · rintro ⟨ys, e, q⟩
    cases h : μ p with
    | none => rw [h] at e; cases e
    | some o =>
      rw [h] at e
      cases o with
      | lst zs => cases e; exact ⟨_, rfl, q⟩
      | _ => cases e
  · rintro ⟨ys, e, q⟩
    exact ⟨ys, by rw [e], q⟩
theorem q_int1 {g : Int → D} {i : Int} : rInt1 g [.int i] μ k = k (g i) μ := rfl
theorem q_inti {i : Int} : rIntD [.int i] μ k = k (.int i) μ := rfl
theorem q_intb {b : Bool} : rIntD [.bl b] μ k = k (.int (if b then 1 else 0)) μ := rfl
theorem q_int2 {g : Int → Int → D} {i j : Int} : rInt2 g [.int i, .int j] μ k = k (g i j) μ := rfl
theorem q_insi {C : Addr} {fs : List (Str × D)} : insOf μ (.ins C fs) = some (C, fs) := rfl
theorem q_insr {a C : Addr} {fs : List (Str × D)} (h : μ a = some (.ins C fs)) : insOf μ (.ref a) = some (C, fs) := by
  unfold insOf
  dsimp only
  rw [h]
theorem q_nm {i : Nat} {x : D} {ρ : SD} {k : SD → Prop} : (Tg.nm i).d x ρ k = k (ρ.set i (some x)) := rfl
theorem q_tp {l : List Nat} {xs : List D} {ρ : SD} {k : SD → Prop} : (Tg.tp l).d (.tup xs) ρ k = (xs.length = l.length ∧ k (setAll l xs ρ)) := rfl
theorem q_rl {xs : List D} : asL (.lst xs) = some xs := rfl
theorem q_rt {xs : List D} : asT (.tup xs) = some xs := rfl
end
end Dl
namespace Dl
open PySem PySem.Spec PyProof.Rows L2
section
variable {X : Cx} {B : Bs}
/-! ### a < b < c -/
def dChain (r r' : R2D) (ta tb tc : TED) : TED := fun ρ μ k => ta ρ μ fun x μ1 => tb ρ μ1 fun y μ2 => r x y μ2 fun z μ3 => ∃ c, z = .bl c ∧ if c = true then tc ρ μ3 fun w μ4 => r' y w μ4 k else k (.bl false) μ3
theorem pd_chain {a b c : Expr} {op op' : CmpOp} {r r' : R2D} {ta tb tc : TED} {pos : Pos} (ho : OpD X B (compareOp op) r) (ho' : OpD X B (compareOp op') r') (ha : PD X B a ta) (hb : PD X B b tb) (hc : PD X B c tc)
    (hm : lastMarks [op, op'] [b, c] = false := by with_unfolding_all rfl) : PD X B (.Compare a [op, op'] [b, c] pos) (dChain r r' ta tb tc) := imE (pe_chain ho ho' ha hb hc hm) fun σ H Q ⟨G, ρ, μ, k, g0, hh, sl, q, kk⟩ => by
  refine ⟨G, ρ, μ, _, g0, hh, sl, q, fun v H1 G1 d μ1 s1 h1 a1 q1 => ?_⟩
  refine ⟨G1, ρ, μ1, _, g0.trans s1, h1, sl.mono s1, q1, fun v2 H2 G2 d2 μ2 s2 h2 a2 q2 => ?_⟩
  have s12 := s1.trans s2
  refine ⟨G2, μ2, d, d2, _, g0.trans s12, h2, a1.mono s2, a2, q2, fun v3 H3 G3 d3 μ3 s3 h3 a3 ⟨c, e3, q3⟩ => ?_⟩
  subst e3
  have s13 := s12.trans s3
  refine ⟨c, a3.bl_inv, ?_⟩
  cases c with
  | true =>
    rw [if_pos rfl] at q3 ⊢
    refine ⟨G3, ρ, μ3, _, g0.trans s13, h3, sl.mono s13, q3, fun v4 H4 G4 d4 μ4 s4 h4 a4 q4 => ?_⟩
    exact ⟨G4, μ4, d2, d4, k, g0.trans (s13.trans s4), h4, (a2.mono s3).mono s4, a4, q4, fun v5 H5 G5 d5 μ5 s5 => kk v5 H5 G5 d5 μ5 ((s13.trans s4).trans s5)⟩
  | false =>
    rw [if_neg Bool.false_ne_true] at q3 ⊢
    exact kk _ H3 G3 _ μ3 s13 h3 (.bl false) q3
/-! ### methods of texts -/
abbrev RMD := D → List D → Mu → KD → Prop
def lM (K : PySem.W.Frag) (B : Bs) (r : RMD) : V → List V → Hp → VK → Prop := fun x xs H Q => ∃ (G : Hp) (μ : Mu) (d : D) (ds : List D) (k : KD), Same B.g G ∧ Hold K H G B.f μ ∧ At K G x d ∧ Ats K G xs ds ∧ r d ds μ k ∧
  ∀ v H' G' d μ', Same G G' → Hold K H' G' B.f μ' → At K G' v d → k d μ' → Q v H'
theorem imM {id : String} {r r' : V → List V → Hp → VK → Prop} (h : MtR X id r) (i : ∀ x xs H Q, r' x xs H Q → r x xs H Q) : MtR X id r' := fun pins s σ H x xs v us Q I rx rv q => h pins s σ H x xs v us Q I rx rv (i _ _ _ _ q)
/-- s.m(..), s a text -/
def dStr (r : RMD) (to : TED) (t : TAD) : TED := fun ρ μ k => to ρ μ fun x μ1 => ∃ z, x = .str z ∧ t ρ μ1 fun ds μ2 => r (.str z) ds μ2 k
theorem pd_str1 {name : Str} {id : String} {r : RMD} {o e : Expr} {es : List Expr} {to : TED} {t : TAD} {apos cpos : Pos} (slot : Slot "str" name id) (hty : typeOf (.builtin id) = pure (.type "method_descriptor")) (hm : MtR X id (lM X.K B r)) (ho : PD X B o to) (ha : PDA X B (e :: es) t)
    (hbase : attributeBase o name X.env (eval o X.env) = eval o X.env := by rfl)
    (hfew : ((backTo cpos (starEach (e :: es) X.env)).all (fun x => !x.1) && (backToKw cpos (keywordEach [] X.env)).all (fun x => x.1.isSome)
      && decide ((e :: es).length + ([] : List Keyword).length + (if ([] : List Keyword).isEmpty then 0 else 1) < 30)) = true := by rfl)
    (hline : (apos.endLine == cpos.line) = true := by rfl) (hs : starEach (e :: es) X.env = (false, eval e X.env) :: starEach es X.env := by rfl) (hplain : (backTo cpos (starEach es X.env)).any (·.1) = false := by rfl) : PD X B (.Call (.Attribute o name apos) (e :: es) [] cpos) (dStr r to t) :=
  imE (pe_bm PySem.F.plainAttrs_str slot hty hm ho ha hbase hfew hline hs hplain) fun σ H Q ⟨G, ρ, μ, k, g0, hh, sl, q, kk⟩ => by
    refine ⟨G, ρ, μ, _, g0, hh, sl, q, fun v H1 G1 d μ1 s1 h1 a1 q1 => ?_⟩
    obtain ⟨z, rfl, q1⟩ := q1
    have e := a1.str_inv
    subst e
    refine ⟨rfl, ?_⟩
    refine ⟨G1, ρ, μ1, _, g0.trans s1, h1, sl.mono s1, q1, fun vs H2 G2 ds μ2 s2 h2 a2 q2 => ?_⟩
    exact ⟨G2, μ2, _, ds, k, (g0.trans s1).trans s2, h2, .str z, a2, q2, fun v3 H3 G3 d3 μ3 s3 => kk v3 H3 G3 d3 μ3 ((s1.trans s2).trans s3)⟩
def rS1 (C : Str → Str → Prop) (g : Str → Str → D) : RMD := fun d ds μ k => match d, ds with
  | .str a, [.str b] => C a b ∧ k (g a b) μ
  | _, _ => False
theorem md_strip : MtR X "str.strip" (lM X.K B (rS1 (fun a _ => a.length ≤ 100000) fun a b => .str (Txt.stripChars a b))) := imM mt_stripChars fun x xs H Q ⟨G, μ, d, ds, k, g0, hh, ax, as, q, kk⟩ => by
  unfold rS1 at q
  split at q
  · rename_i a b
    obtain ⟨v, rfl, av⟩ := as.one
    exact ⟨a, b, ax.str_inv, by rw [av.str_inv], line_of q.1, kk _ H G _ μ (Same.refl _) hh (.str _) q.2⟩
  · exact q.elim
theorem q_s1 {C : Str → Str → Prop} {g : Str → Str → D} {a b : Str} {μ : Mu} {k : KD} : rS1 C g (.str a) [.str b] μ k = (C a b ∧ k (g a b) μ) := rfl
end
/-! ### isinstance by data -/
def Isi (K : PySem.W.Frag) (μ : Mu) (d : D) (c : Value) (b : Bool) : Prop := ∃ t, tyD μ d = some t ∧ (∀ D, t = .ref D → InsC K D) ∧ (∀ kvs, d ≠ .dT kvs) ∧ PySem.W.kitOne K t c = some b
section
variable {K : PySem.W.Frag} {μ : Mu} {P : Bool → Prop}
theorem q_isid {x c : D} {k : KD} : rIsiD K [x, c] μ k = ∃ u, clsV c = some u ∧ ∃ b, Isi K μ x u b ∧ k (.bl b) μ := by
  apply propext
  constructor
  · rintro ⟨x', c', t, u, b, e, h1, h2, h3, h4, h5, q⟩
    cases e
    exact ⟨u, h1, b, ⟨t, h2, h3, h4, h5⟩, q⟩
  · rintro ⟨u, h1, b, ⟨t, h2, h3, h4, h5⟩, q⟩
    exact ⟨x, c, t, u, b, rfl, h1, h2, h3, h4, h5, q⟩
theorem q_clsT {n : String} : clsV (.ty n) = some (.type n) := rfl
theorem q_clsR {C : Addr} : clsV (.ref C) = some (.ref C) := rfl
theorem isi_eq {d : D} {t c : Value} {r : Bool} (h1 : tyD μ d = some t) (h2 : ∀ D, t = .ref D → InsC K D) (h3 : ∀ kvs, d ≠ .dT kvs) (h4 : PySem.W.kitOne K t c = some r) : (∃ b, Isi K μ d c b ∧ P b) = P r := by
  apply propext
  constructor
  · rintro ⟨b, ⟨t', e1, _, _, e4⟩, q⟩
    rw [h1] at e1
    cases e1
    rw [h4] at e4
    cases e4
    exact q
  · intro q
    exact ⟨r, ⟨t, h1, h2, h3, h4⟩, q⟩
theorem isi_ty {d : D} {T n : String} {r : Bool} (h1 : tyD μ d = some (.type T)) (h3 : ∀ kvs, d ≠ .dT kvs) (h4 : kitB T n = some r) : (∃ b, Isi K μ d (.type n) b ∧ P b) = P r := isi_eq h1 (fun _ e => by cases e) h3 (kit_ty h4)
theorem q_isi_non_int : (∃ b, Isi K μ .non (.type "int") b ∧ P b) = P false := isi_ty rfl (fun _ e => by cases e) (by decide +kernel)
theorem q_isi_non_bool : (∃ b, Isi K μ .non (.type "bool") b ∧ P b) = P false := isi_ty rfl (fun _ e => by cases e) (by decide +kernel)
theorem q_isi_non_str : (∃ b, Isi K μ .non (.type "str") b ∧ P b) = P false := isi_ty rfl (fun _ e => by cases e) (by decide +kernel)
theorem q_isi_non_tuple : (∃ b, Isi K μ .non (.type "tuple") b ∧ P b) = P false := isi_ty rfl (fun _ e => by cases e) (by decide +kernel)
theorem q_isi_non_list : (∃ b, Isi K μ .non (.type "list") b ∧ P b) = P false := isi_ty rfl (fun _ e => by cases e) (by decide +kernel)
theorem q_isi_non_dict : (∃ b, Isi K μ .non (.type "dict") b ∧ P b) = P false := isi_ty rfl (fun _ e => by cases e) (by decide +kernel)
theorem q_isi_bl_int {b0 : Bool} : (∃ b, Isi K μ (.bl b0) (.type "int") b ∧ P b) = P true := isi_ty rfl (fun _ e => by cases e) (by decide +kernel)
theorem q_isi_bl_bool {b0 : Bool} : (∃ b, Isi K μ (.bl b0) (.type "bool") b ∧ P b) = P true := isi_ty rfl (fun _ e => by cases e) (by decide +kernel)
theorem q_isi_bl_str {b0 : Bool} : (∃ b, Isi K μ (.bl b0) (.type "str") b ∧ P b) = P false := isi_ty rfl (fun _ e => by cases e) (by decide +kernel)
theorem q_isi_bl_tuple {b0 : Bool} : (∃ b, Isi K μ (.bl b0) (.type "tuple") b ∧ P b) = P false := isi_ty rfl (fun _ e => by cases e) (by decide +kernel)
theorem q_isi_bl_list {b0 : Bool} : (∃ b, Isi K μ (.bl b0) (.type "list") b ∧ P b) = P false := isi_ty rfl (fun _ e => by cases e) (by decide +kernel)
theorem q_isi_bl_dict {b0 : Bool} : (∃ b, Isi K μ (.bl b0) (.type "dict") b ∧ P b) = P false := isi_ty rfl (fun _ e => by cases e) (by decide +kernel)
theorem q_isi_int_int {i0 : Int} : (∃ b, Isi K μ (.int i0) (.type "int") b ∧ P b) = P true := isi_ty rfl (fun _ e => by cases e) (by decide +kernel)
theorem q_isi_int_bool {i0 : Int} : (∃ b, Isi K μ (.int i0) (.type "bool") b ∧ P b) = P false := isi_ty rfl (fun _ e => by cases e) (by decide +kernel)
theorem q_isi_int_str {i0 : Int} : (∃ b, Isi K μ (.int i0) (.type "str") b ∧ P b) = P false := isi_ty rfl (fun _ e => by cases e) (by decide +kernel)
theorem q_isi_int_tuple {i0 : Int} : (∃ b, Isi K μ (.int i0) (.type "tuple") b ∧ P b) = P false := isi_ty rfl (fun _ e => by cases e) (by decide +kernel)
theorem q_isi_int_list {i0 : Int} : (∃ b, Isi K μ (.int i0) (.type "list") b ∧ P b) = P false := isi_ty rfl (fun _ e => by cases e) (by decide +kernel)
theorem q_isi_int_dict {i0 : Int} : (∃ b, Isi K μ (.int i0) (.type "dict") b ∧ P b) = P false := isi_ty rfl (fun _ e => by cases e) (by decide +kernel)
theorem q_isi_str_int {x0 : Str} : (∃ b, Isi K μ (.str x0) (.type "int") b ∧ P b) = P false := isi_ty rfl (fun _ e => by cases e) (by decide +kernel)
theorem q_isi_str_bool {x0 : Str} : (∃ b, Isi K μ (.str x0) (.type "bool") b ∧ P b) = P false := isi_ty rfl (fun _ e => by cases e) (by decide +kernel)
theorem q_isi_str_str {x0 : Str} : (∃ b, Isi K μ (.str x0) (.type "str") b ∧ P b) = P true := isi_ty rfl (fun _ e => by cases e) (by decide +kernel)
theorem q_isi_str_tuple {x0 : Str} : (∃ b, Isi K μ (.str x0) (.type "tuple") b ∧ P b) = P false := isi_ty rfl (fun _ e => by cases e) (by decide +kernel)
theorem q_isi_str_list {x0 : Str} : (∃ b, Isi K μ (.str x0) (.type "list") b ∧ P b) = P false := isi_ty rfl (fun _ e => by cases e) (by decide +kernel)
theorem q_isi_str_dict {x0 : Str} : (∃ b, Isi K μ (.str x0) (.type "dict") b ∧ P b) = P false := isi_ty rfl (fun _ e => by cases e) (by decide +kernel)
theorem q_isi_tup_int {xs0 : List D} : (∃ b, Isi K μ (.tup xs0) (.type "int") b ∧ P b) = P false := isi_ty rfl (fun _ e => by cases e) (by decide +kernel)
theorem q_isi_tup_bool {xs0 : List D} : (∃ b, Isi K μ (.tup xs0) (.type "bool") b ∧ P b) = P false := isi_ty rfl (fun _ e => by cases e) (by decide +kernel)
theorem q_isi_tup_str {xs0 : List D} : (∃ b, Isi K μ (.tup xs0) (.type "str") b ∧ P b) = P false := isi_ty rfl (fun _ e => by cases e) (by decide +kernel)
theorem q_isi_tup_tuple {xs0 : List D} : (∃ b, Isi K μ (.tup xs0) (.type "tuple") b ∧ P b) = P true := isi_ty rfl (fun _ e => by cases e) (by decide +kernel)
theorem q_isi_tup_list {xs0 : List D} : (∃ b, Isi K μ (.tup xs0) (.type "list") b ∧ P b) = P false := isi_ty rfl (fun _ e => by cases e) (by decide +kernel)
theorem q_isi_tup_dict {xs0 : List D} : (∃ b, Isi K μ (.tup xs0) (.type "dict") b ∧ P b) = P false := isi_ty rfl (fun _ e => by cases e) (by decide +kernel)
theorem q_isi_lst_int {xs0 : List D} : (∃ b, Isi K μ (.lst xs0) (.type "int") b ∧ P b) = P false := isi_ty rfl (fun _ e => by cases e) (by decide +kernel)
theorem q_isi_lst_bool {xs0 : List D} : (∃ b, Isi K μ (.lst xs0) (.type "bool") b ∧ P b) = P false := isi_ty rfl (fun _ e => by cases e) (by decide +kernel)
theorem q_isi_lst_str {xs0 : List D} : (∃ b, Isi K μ (.lst xs0) (.type "str") b ∧ P b) = P false := isi_ty rfl (fun _ e => by cases e) (by decide +kernel)
theorem q_isi_lst_tuple {xs0 : List D} : (∃ b, Isi K μ (.lst xs0) (.type "tuple") b ∧ P b) = P false := isi_ty rfl (fun _ e => by cases e) (by decide +kernel)
theorem q_isi_lst_list {xs0 : List D} : (∃ b, Isi K μ (.lst xs0) (.type "list") b ∧ P b) = P true := isi_ty rfl (fun _ e => by cases e) (by decide +kernel)
theorem q_isi_lst_dict {xs0 : List D} : (∃ b, Isi K μ (.lst xs0) (.type "dict") b ∧ P b) = P false := isi_ty rfl (fun _ e => by cases e) (by decide +kernel)
theorem q_isi_dK_int {xs0 : List (Key × D)} : (∃ b, Isi K μ (.dK xs0) (.type "int") b ∧ P b) = P false := isi_ty rfl (fun _ e => by cases e) (by decide +kernel)
theorem q_isi_dK_bool {xs0 : List (Key × D)} : (∃ b, Isi K μ (.dK xs0) (.type "bool") b ∧ P b) = P false := isi_ty rfl (fun _ e => by cases e) (by decide +kernel)
theorem q_isi_dK_str {xs0 : List (Key × D)} : (∃ b, Isi K μ (.dK xs0) (.type "str") b ∧ P b) = P false := isi_ty rfl (fun _ e => by cases e) (by decide +kernel)
theorem q_isi_dK_tuple {xs0 : List (Key × D)} : (∃ b, Isi K μ (.dK xs0) (.type "tuple") b ∧ P b) = P false := isi_ty rfl (fun _ e => by cases e) (by decide +kernel)
theorem q_isi_dK_list {xs0 : List (Key × D)} : (∃ b, Isi K μ (.dK xs0) (.type "list") b ∧ P b) = P false := isi_ty rfl (fun _ e => by cases e) (by decide +kernel)
theorem q_isi_dK_dict {xs0 : List (Key × D)} : (∃ b, Isi K μ (.dK xs0) (.type "dict") b ∧ P b) = P true := isi_ty rfl (fun _ e => by cases e) (by decide +kernel)
end
section
variable {X : Cx} {B : Bs}
theorem pd_gcls {x : Str} {C : Addr} {pos : Pos} (hm : X.mg x = some (.ref C)) (hg : Gl X x := by rfl) (hd : (x == ("__debug__" : Str)) = false := by decide) : PD X B (.Name x pos) (dC (.ref C)) := pd_glob (v := .ref C) hm rfl (fun _ => .ref C) hg hd
end
/-! ### == of rows -/
section
variable {μ : Mu} {k : KD}
theorem q_eqt {xs ys : List D} {n : Bool} : rEqB n (.tup xs) (.tup ys) μ k = ∃ ps qs, toPs xs = some ps ∧ toPs ys = some qs ∧ SeqAt.shaped (.tuple ps) = true ∧ SeqAt.shaped (.tuple qs) = true ∧ k (.bl (PyData.eqvAll ps qs ^^ n)) μ := by
  apply propext
  constructor
  · rintro ⟨p, q, e1, e2, s1, s2, r⟩
    obtain ⟨ps, f1, rfl⟩ := Option.map_eq_some_iff.mp (show (toPs xs).map PyData.tuple = some p from e1)
    obtain ⟨qs, f2, rfl⟩ := Option.map_eq_some_iff.mp (show (toPs ys).map PyData.tuple = some q from e2)
    refine ⟨ps, qs, f1, f2, s1, s2, ?_⟩
    rw [PyData.eqv] at r
    exact r
  · rintro ⟨ps, qs, f1, f2, s1, s2, r⟩
    refine ⟨.tuple ps, .tuple qs, ?_, ?_, s1, s2, ?_⟩
    · show (toPs xs).map PyData.tuple = _
      rw [f1] <;> rfl
    · show (toPs ys).map PyData.tuple = _
      rw [f2] <;> rfl
    · rw [PyData.eqv]
      exact r
theorem q_eql {xs ys : List D} {n : Bool} : rEqB n (.lst xs) (.lst ys) μ k = ∃ ps qs, toPs xs = some ps ∧ toPs ys = some qs ∧ SeqAt.shaped (.list ps) = true ∧ SeqAt.shaped (.list qs) = true ∧ k (.bl (PyData.eqvAll ps qs ^^ n)) μ := by
  apply propext
  constructor
  · rintro ⟨p, q, e1, e2, s1, s2, r⟩
    obtain ⟨ps, f1, rfl⟩ := Option.map_eq_some_iff.mp (show (toPs xs).map PyData.list = some p from e1)
    obtain ⟨qs, f2, rfl⟩ := Option.map_eq_some_iff.mp (show (toPs ys).map PyData.list = some q from e2)
    refine ⟨ps, qs, f1, f2, s1, s2, ?_⟩
    rw [PyData.eqv] at r
    exact r
  · rintro ⟨ps, qs, f1, f2, s1, s2, r⟩
    refine ⟨.list ps, .list qs, ?_, ?_, s1, s2, ?_⟩
    · show (toPs xs).map PyData.list = _
      rw [f1] <;> rfl
    · show (toPs ys).map PyData.list = _
      rw [f2] <;> rfl
    · rw [PyData.eqv]
      exact r
theorem dec_beq {i j : Int} : (i == j) = decide (i = j) := by
  by_cases h : i = j
  · subst h; simp
  · rw [decide_eq_false h]; exact beq_eq_false_iff_ne.mpr h
theorem q_eqt2 {a b c d : Int} {n : Bool} : rEqB n (.tup [.int a, .int b]) (.tup [.int c, .int d]) μ k = k (.bl ((decide (a = c) && decide (b = d)) ^^ n)) μ := by
  rw [q_eqt]
  have e : PyData.eqvAll [.int a, .int b] [.int c, .int d] = (decide (a = c) && decide (b = d)) := by
    simp only [PyData.eqvAll, PyData.eqv, dec_beq, Bool.and_true]
  apply propext
  constructor
  · rintro ⟨ps, qs, e1, e2, _, _, r⟩
    cases e1; cases e2
    rw [e] at r
    exact r
  · intro r
    exact ⟨_, _, rfl, rfl, rfl, rfl, by rw [e]; exact r⟩
theorem q_eqnn {n : Bool} : rEqB n .non .non μ k = k (.bl (true ^^ n)) μ := by
  apply propext
  constructor
  · rintro ⟨p, q, e1, e2, s1, s2, r⟩
    cases e1; cases e2
    exact r
  · intro r
    exact ⟨.none, .none, rfl, rfl, rfl, rfl, r⟩
end
theorem isi_own {K : PySem.W.Frag} {μ : Mu} {C : Addr} {fs : List (Str × D)} (h : InsC K C) : Isi K μ (.ins C fs) (.ref C) true := by
  refine ⟨.ref C, rfl, fun D e => ?_, fun _ e => ?_, ?_⟩
  · cases e; exact h
  · cases e
  · show (if (Value.ref C == Value.ref C) = true then some true else _) = some true
    rw [if_pos (by simp)]
theorem q_loopn {p : Tg} {tb : TSD} {E : EndsD} {ρ : SD} {μ : Mu} : dLoop p tb E [] ρ μ = E.nx ρ μ := rfl
theorem q_loopc {p : Tg} {tb : TSD} {E : EndsD} {x : D} {r : List D} {ρ : SD} {μ : Mu} : dLoop p tb E (x :: r) ρ μ = p.d x ρ fun ρ2 => tb { E with nx := dLoop p tb E r, ct := dLoop p tb E r, bk := E.nx } ρ2 μ := rfl
/-! ### an own comparison, by what stands beside -/
section
variable {K : PySem.W.Frag} {C : Addr} {neg : Bool} {sp : SpD} {μ : Mu} {k : KD} {fs gs : List (Str × D)} {b : D}
theorem nf_self : PySem.W.notFirst K C (.ref C) = true := by
  unfold PySem.W.notFirst
  simp
theorem own_self (h : InsC K C) (hs : sp [.ins C fs, .ins C gs] μ (fun v μ' => ∃ c, v = .bl c ∧ k (.bl (c ^^ neg)) μ') x0) : rOwn K C neg sp (.ins C fs) (.ins C gs) μ k :=
  ⟨⟨fs, rfl⟩, ⟨.ref C, rfl, nf_self, fun D e => by cases e; exact h, fun _ e => by cases e⟩, hs⟩
theorem own_cls {E : Addr} (h : InsC K E) (hn : PySem.W.subIn K (.ref E) (.ref C) = some false) (hs : sp [.ins C fs, .ins E gs] μ (fun v μ' => ∃ c, v = .bl c ∧ k (.bl (c ^^ neg)) μ') x0) : rOwn K C neg sp (.ins C fs) (.ins E gs) μ k :=
  ⟨⟨fs, rfl⟩, ⟨.ref E, rfl, by unfold PySem.W.notFirst; rw [hn]; simp, fun D e => by cases e; exact h, fun _ e => by cases e⟩, hs⟩
theorem nf_ty {T : String} {l : List Value} (h : PySem.fastBuiltinMro T = some l) (hc : l.contains (.ref C) = false) : PySem.W.notFirst K C (.type T) = true := by
  have e : PySem.W.subIn K (.type T) (.ref C) = some false := by
    show (PySem.fastBuiltinMro T).map (·.contains (Value.ref C)) = some false
    rw [h, Option.map_some, hc]
  unfold PySem.W.notFirst
  rw [e]
  simp
theorem nf_none : PySem.W.notFirst K C (.type "NoneType") = true := nf_ty (l := [.type "NoneType", .type "object"]) (by decide +kernel) (by simp)
theorem nf_bool : PySem.W.notFirst K C (.type "bool") = true := nf_ty (l := [.type "bool", .type "int", .type "object"]) (by decide +kernel) (by simp)
theorem nf_int : PySem.W.notFirst K C (.type "int") = true := nf_ty (l := [.type "int", .type "object"]) (by decide +kernel) (by simp)
theorem nf_str : PySem.W.notFirst K C (.type "str") = true := nf_ty (l := [.type "str", .type "object"]) (by decide +kernel) (by simp)
theorem nf_tuple : PySem.W.notFirst K C (.type "tuple") = true := nf_ty (l := [.type "tuple", .type "object"]) (by decide +kernel) (by simp)
theorem nf_list : PySem.W.notFirst K C (.type "list") = true := nf_ty (l := [.type "list", .type "object"]) (by decide +kernel) (by simp)
theorem own_ty {T : String} (h1 : tyD μ b = some (.type T)) (h2 : PySem.W.notFirst K C (.type T) = true) (h3 : ∀ kvs, b ≠ .dT kvs) (hs : sp [.ins C fs, b] μ (fun v μ' => ∃ c, v = .bl c ∧ k (.bl (c ^^ neg)) μ') x0) : rOwn K C neg sp (.ins C fs) b μ k :=
  ⟨⟨fs, rfl⟩, ⟨_, h1, h2, fun D e => (by cases e), h3⟩, hs⟩
theorem isi_no {d : D} {T : String} (h1 : tyD μ d = some (.type T)) (h3 : ∀ kvs, d ≠ .dT kvs) (h4 : PySem.W.kitOne K (.type T) (.ref C) = some false) : Isi K μ d (.ref C) false := ⟨_, h1, fun D e => (by cases e), h3, h4⟩
theorem isi_cls {E : Addr} (h : InsC K E) (h4 : PySem.W.kitOne K (.ref E) (.ref C) = some false) : Isi K μ (.ins E gs) (.ref C) false := ⟨_, rfl, fun D e => (by cases e; exact h), fun _ e => (by cases e), h4⟩
end
theorem rng_succ {lo : Int} {n : Nat} : rngD lo (n + 1) = .int lo :: rngD (lo + 1) n := by
  unfold rngD
  rw [List.range_succ_eq_map, List.map_cons, List.map_map]
  congr 1
  · show D.int (lo + ((0 : Nat) : Int)) = _
    rw [show lo + ((0 : Nat) : Int) = lo by omega]
  · refine List.map_congr_left fun x _ => ?_
    show D.int (lo + ((x + 1 : Nat) : Int)) = D.int (lo + 1 + (x : Int))
    rw [show lo + ((x + 1 : Nat) : Int) = lo + 1 + (x : Int) by omega]
theorem rng_zero {lo : Int} : rngD lo 0 = [] := rfl
end Dl
namespace Dl
open PySem PySem.Spec PyProof.Rows L2
open He (Fa FnW Dv dflB kwdB dflB_ok kwdB_ok ba eqO eqO_ok frG asD frG_in)
/-! ### the head's facts: a Bool over the written part, and the defs -/
structure DefA where
  ad : PySem.W.Frag → Addr
  name : Str
  qual : Str
  params : Arguments
  body : List Stmt
  scope : Scope
  dfl : List Dv := []
  kwd : List (Str × Dv) := []
def fnWA (K : PySem.W.Frag) (a : Addr) : FnW := match K.lookup a with
  | some ⟨_, _, .func fd, _⟩ => some (fd.name, fd.qualname, fd.params, fd.body, fd.scope, fd.globals, fd.closure, fd.builtins)
  | _ => none
def DefA.val (d : DefA) : FnW := some (d.name, d.qual, d.params, .stmts d.body, d.scope, mainGlobals, [], builtinsNs)
def DefA.dvs (K : PySem.W.Frag) (d : DefA) : List V := d.dfl.map (Dv.v K)
def DefA.kws (K : PySem.W.Frag) (d : DefA) : List (Str × V) := d.kwd.map fun q => (q.1, q.2.v K)
def DefA.ok (K : PySem.W.Frag) (d : DefA) : Bool := PySem.W.keepIn K (.ref (d.ad K)) && (match K.lookup (d.ad K) with
  | some ⟨_, _, .func fd, _⟩ => PySem.W.codeIn K fd.code d.qual && (dflB K fd.defaults (d.dvs K) && kwdB K fd.kwdefaults (d.kws K))
  | _ => false)
theorem DefA.funD {K : PySem.W.Frag} {d : DefA} (e : fnWA K (d.ad K) = d.val) (c : d.ok K = true) : ∃ fd, FunD K d.name d.qual d.params d.body d.scope (d.dvs K) (d.kws K) (d.ad K) fd := by
  obtain ⟨kp, c2⟩ := ba c
  unfold fnWA at e
  cases q : K.lookup (d.ad K) with
  | none =>
    rw [q] at c2
    cases c2
  | some o =>
    obtain ⟨oc, od, dt, osl⟩ := o
    rw [q] at c2 e
    cases dt with
    | func fd =>
      obtain ⟨n1, n2, n3, n4, n5, n6, n7, n8, n9, n10, n11, n12, n13, n14, n15⟩ := fd
      have e2 : (some (n1, n2, n3, n4, n5, n6, n7, n15) : FnW) = some (d.name, d.qual, d.params, .stmts d.body, d.scope, mainGlobals, [], builtinsNs) := e
      simp only [Option.some.injEq, Prod.mk.injEq] at e2
      obtain ⟨h1, h2, h3, h4, h5, h6, h7, h8⟩ := e2
      subst h1 h2 h3 h4 h5 h6 h7 h8
      have c3 : (PySem.W.codeIn K n13 d.qual && (dflB K n8 (d.dvs K) && kwdB K n9 (d.kws K))) = true := c2
      obtain ⟨k1, k2⟩ := ba c3
      obtain ⟨k3, k4⟩ := ba k2
      exact ⟨_, ⟨oc, od, n8, n9, n10, n11, n12, n13, n14, osl, rfl, q, k1, dflB_ok k3, kwdB_ok k4⟩, kp⟩
    | _ => cases c2
/-- one more fact of the written part -/
inductive Fb where
  | fa (f : Fa)
  | ne (x : Str)
  | cread (x : Str)
  | wrap (x m : Str)
  | insc (x : Str)
  | kit (x y : Str) (b : Bool)
  | kitT (t : String) (y : Str) (b : Bool)
  | sub (x y : Str) (b : Bool)
  | subT (x : Str) (t : String) (b : Bool)
  | kitO (x : Str) (t : String) (b : Bool)
  | self1 (x : Str)
  | nofind (x m : Str)
def Fb.ok (K : PySem.W.Frag) : Fb → Bool
  | .fa f => f.ok K
  | .ne x => eqO (PySem.W.findIn K (.ref (He.ga K x)) "__ne__") (some (some (.builtin "object.__ne__"))) && decide (PySem.W.subIn K (.ref (He.ga K x)) (.type "object") = some true)
  | .cread x => PySem.W.readsIn K (He.ga K x) (.type "type") && eqO (PySem.W.specialIn K (.ref (He.ga K x)) "__getattribute__") (some (some (.builtin "type.__getattribute__")))
  | .wrap x m => He5.wrapB K (He.ga K x) "staticmethod" "staticmethod.__get__" m
  | .insc x => (Fa.cls x).ok K && (eqO (PySem.W.findIn K (.ref (He.ga K x)) "__class__") (some (some (.builtin "object.__class__"))) && (eqO (PySem.W.specialIn K (.builtin "object.__class__") "__get__") (some (some (.builtin "getset_descriptor.__get__"))) && (decide (PySem.W.takesIn K (.builtin "object.__class__") = some true) && decide (PySem.W.mroIn K (He.ga K x) (.type "object") = some true))))
  | .kit x y b => decide (PySem.W.kitOne K (.ref (He.ga K x)) (.ref (He.ga K y)) = some b)
  | .kitT t y b => decide (PySem.W.kitOne K (.type t) (.ref (He.ga K y)) = some b)
  | .sub x y b => decide (PySem.W.subIn K (.ref (He.ga K x)) (.ref (He.ga K y)) = some b)
  | .subT x t b => decide (PySem.W.subIn K (.ref (He.ga K x)) (.type t) = some b)
  | .kitO x t b => decide (PySem.W.kitOne K (.ref (He.ga K x)) (.type t) = some b)
  | .self1 x => PySem.W.selfFirst K (He.ga K x)
  | .nofind x m => eqO (PySem.W.findIn K (.ref (He.ga K x)) m) (some none)
section
variable {K : PySem.W.Frag} {x y m : Str} {b : Bool} {t : String}
theorem ne_ok (c : (Fb.ne x).ok K = true) : NeC K (He.ga K x) := by
  obtain ⟨c1, c2⟩ := ba c
  exact ⟨eqO_ok c1, of_decide_eq_true c2⟩
theorem cread_ok (c : (Fb.cread x).ok K = true) : ClX.CRead K (He.ga K x) (.type "type") := by
  obtain ⟨c1, c2⟩ := ba c
  exact ⟨c1, eqO_ok c2⟩
theorem wrap_ok (c : (Fb.wrap x m).ok K = true) : PySem.W.findCls K (.ref (He.ga K x)) (.type "type") m = some (.get (.builtin "staticmethod.__get__") (.ref (He.ma K (He.ga K x) m)) .none (.ref (He.ga K x))) ∧
    ∃ rest, PySem.W.recIn K (He.ma K (He.ga K x) m) "staticmethod" = some (.ref (He5.wf K (He.ga K x) "staticmethod" m) :: rest) := He5.wrapB_ok c
theorem insc_ok (c : (Fb.insc x).ok K = true) : InsC K (He.ga K x) := by
  obtain ⟨c1, c⟩ := ba c
  obtain ⟨c2, c⟩ := ba c
  obtain ⟨c3, c⟩ := ba c
  obtain ⟨c4, c5⟩ := ba c
  exact ⟨He.cls_ok c1, eqO_ok c2, eqO_ok c3, of_decide_eq_true c4, of_decide_eq_true c5⟩
theorem kit_ok (c : (Fb.kit x y b).ok K = true) : PySem.W.kitOne K (.ref (He.ga K x)) (.ref (He.ga K y)) = some b := of_decide_eq_true c
theorem kitT_ok (c : (Fb.kitT t y b).ok K = true) : PySem.W.kitOne K (.type t) (.ref (He.ga K y)) = some b := of_decide_eq_true c
theorem subT_ok (c : (Fb.subT x t b).ok K = true) : PySem.W.subIn K (.ref (He.ga K x)) (.type t) = some b := of_decide_eq_true c
theorem kitO_ok (c : (Fb.kitO x t b).ok K = true) : PySem.W.kitOne K (.ref (He.ga K x)) (.type t) = some b := of_decide_eq_true c
theorem self1_ok (c : (Fb.self1 x).ok K = true) : PySem.W.selfFirst K (He.ga K x) = true := c
theorem nofind_ok (c : (Fb.nofind x m).ok K = true) : PySem.W.findIn K (.ref (He.ga K x)) m = some none := eqO_ok c
theorem sub_ok (c : (Fb.sub x y b).ok K = true) : PySem.W.subIn K (.ref (He.ga K x)) (.ref (He.ga K y)) = some b := of_decide_eq_true c
end
abbrev AlZ : Type := Bool × List FnW
def obsZ (fb : List Fb) (fn : List DefA) (K : PySem.W.Frag) : AlZ := ((fb.all fun f => f.ok K) && fn.all fun d => d.ok K, fn.map fun d => fnWA K (d.ad K))
def valZ (fn : List DefA) : AlZ := (true, fn.map DefA.val)
def SaysZ (fb : List Fb) (fn : List DefA) (K : PySem.W.Frag) : Prop := obsZ fb fn K = valZ fn
def obsZG (n : Nat) (fb : List Fb) (fn : List DefA) (g : Addr → Option Obj) : AlZ := obsZ fb fn (frG g (cStatics :: asD g n))
def hookZ (n : Nat) (fb : List Fb) (fn : List DefA) : PySem.W.Hook where
  α := AlZ
  obs := fun s => obsZG n fb fn s.heap.get?
  val := fun _ => valZ fn
  says := fun _ h => ∃ K : PySem.W.Frag, K.In h ∧ SaysZ fb fn K
  of := fun _ _ e => ⟨_, frG_in, e⟩
  keeps := fun _ _ _ ⟨K, hK, c⟩ k => ⟨K, PySem.W.Frag.In.keeps hK k, c⟩
theorem obsZG_eq {n : Nat} {fb : List Fb} {fn : List DefA} {g : Addr → Option Obj} {s : Shared} (h : ∀ a, g a = s.heap.get? a) : obsZG n fb fn g = (hookZ n fb fn).obs s := by
  have e : g = s.heap.get? := funext h
  rw [e] <;> rfl
section
variable {fb : List Fb} {fn : List DefA} {K : PySem.W.Frag}
theorem SaysZ.fact (c : SaysZ fb fn K) (i : Nat) {f : Fb} (h : fb[i]? = some f := by rfl) : f.ok K = true := by
  have c1 := (ba (show ((fb.all fun f => f.ok K) && fn.all fun d => d.ok K) = true from congrArg (fun z : AlZ => z.1) c)).1
  exact List.all_eq_true.mp c1 f (List.mem_of_getElem? h)
theorem SaysZ.def_ (c : SaysZ fb fn K) (i : Nat) {d : DefA} (h : fn[i]? = some d := by rfl) : ∃ fd, FunD K d.name d.qual d.params d.body d.scope (d.dvs K) (d.kws K) (d.ad K) fd := by
  have c2 := (ba (show ((fb.all fun f => f.ok K) && fn.all fun d => d.ok K) = true from congrArg (fun z : AlZ => z.1) c)).2
  have e : fn.map (fun d => fnWA K (d.ad K)) = fn.map DefA.val := congrArg (fun z : AlZ => z.2) c
  have e2 : (fn.map fun d => fnWA K (d.ad K))[i]? = (fn.map DefA.val)[i]? := by rw [e]
  rw [List.getElem?_map, List.getElem?_map, h] at e2
  exact DefA.funD (Option.some.inj e2) (List.all_eq_true.mp c2 d (List.mem_of_getElem? h))
end
/-- a law's end: from a promise over data -/
theorem end_sp {K : PySem.W.Frag} {sp : SpD} {H : Hp} {a : Addr} {ns : List Int} (hS : SqL K H a (ns.map V.int)) (h : ∀ μ : Mu, sp [.lst (ns.map D.int)] μ (fun d _ => d = .bl true) x0) :
    lSp K sp [.ref a] H (fun v _ => v = .bl true) fun _ _ _ => False := by
  have r : ∀ (G : Hp) (ms : List Int), Ats K G (ms.map V.int) (ms.map D.int) := fun G ms => by
    induction ms with
    | nil => exact .nil
    | cons m r ih => exact .cons (.int m) ih
  refine ⟨H, fun _ => none, fun _ => none, _, _, x0, ⟨Same.refl _, fun _ _ e => (by cases e), fun _ _ e => (by cases e), fun _ _ e => (by cases e)⟩, .cons (.lst hS (r H ns)) .nil, h _, fun v H' G' d μ' _ _ a' e => ?_, fun _ _ _ _ _ _ _ _ _ e => e⟩
  subst e
  exact a'.bl_inv
theorem cxe_none {P : Program} {w : World} {outer : List Env} {H : Hp} {s : Shared} {e : Value} {s' : Shared} (h : CXe P w outer H s (fun _ _ _ => False) e s') : False := by
  obtain ⟨_, _, _, _, _, _, _, _, _, _, _, _, h⟩ := h
  exact h
/-- the def at an address is one -/
theorem fd_same {K : PySem.W.Frag} {x qual : Str} {params : Arguments} {body : List Stmt} {scope : Scope} {dvs dvs' : List V} {kws kws' : List (Str × V)} {f : Addr} {fd fd' : FuncData} (F : FunD K x qual params body scope dvs kws f fd) (F' : FunD K x qual params body scope dvs' kws' f fd') : fd = fd' := by
  obtain ⟨oc, od, a1, a2, a3, a4, a5, a6, a7, osl, e, l, _⟩ := F.ex
  obtain ⟨oc', od', b1, b2, b3, b4, b5, b6, b7, osl', e', l', _⟩ := F'.ex
  rw [l] at l'
  cases l'
  rfl
end Dl
namespace L2
open PySem PySem.Spec PyProof.Rows
/-- a law's end, errors as the world has them -/
theorem walk_ofE2 {l : PySem.W.OpenLaw} {n k : Nat} {q : Program} {loose : List Str} {XP : (Str → Option Value) → Heap → Prop} {YP : World → Heap → Prop} {d : DefRec} {CX : World → CXT} {x : Str}
    (hn : l.most = some n) (hn2 : n ≤ sizeLine) (hdf : d.params.defaults = []) (hr : Room k callerA)
    (F : ∀ (w : World) (mg : Str → Option Value) (fa : Addr) (h : Heap), YP w h → h.Ns mainGlobals mg → mg d.name = some (.ref fa) →
      ∃ (K : PySem.W.Frag) (fd : FuncData) (sp : Sp), K.In h ∧ (∀ (s : Shared) (u : Value), BindsTo s fd ⟨[u], []⟩ [(x, u)]) ∧
        (∀ (H : Hp) (a : Addr) (ns : List Int), ns.length ≤ n → Only H → SqL K H a (ns.map V.int) → sp [.ref a] H (fun v _ => v = .bl true) fun _ _ _ => False) ∧
        ∀ base : Heap, K.In base → base.Ns mainGlobals mg → FnOk l.prog w K mg base (CX w) k fa fd [x] sp)
    (hCX : ∀ (w : World) (H : Hp) (s : Shared) (e : Value) (s' : Shared), CX w [] H s (fun _ _ _ => False) e s' → False) :
    PySem.W.WalkO q loose XP YP l.row.toRowW d [] (fun f vs => PySem.call f vs) := by
  refine Att.attach_call hn hdf fun w s₀ s₁ mg mb fa o pm cd doc a vs ns G Y ho hd hcd hmg hobj hints hlen hg => ?_
  obtain ⟨K, fd, sp, KX, hb, hsp, hF⟩ := F w mg fa _ Y G.T.g hmg
  exact law_call KX G.T.g G.T.b G.T.builtins G.T.nolimit hg hobj hints (Nat.le_trans hlen hn2) hr hF hb (fun H hO hS => hsp H a ns hlen hO hS) fun H e s' => hCX w H s₁ e s'
end L2
namespace Dl
open PySem PySem.Spec PyProof.Rows L2
open PySem.W (Frag InstAt Looks findIn isFn subIn typeIn notFirst CmpBack looks_findIn looks_typeIn looks_subIn check_slot clsIn)
/-! ### an int beside an own thing: the reflected method -/
section
variable {prog : Program} {w : World} {A : Around} {E : Value → Shared → Prop} {s : Shared} {K : Frag} {x C L f dx : Addr} {h₀ : Heap} {m : Str → Option Value} {ox : Obj} {od : Option Obj} {i : Int} {t : Tok}
theorem int_bin_ni {M : Model} {name : String} {g : Int → Int → Sem PySem.Fin} {Q : PySem.Fin → Shared → Prop} (hx : s.heap.get? x = some (PySem.W.instObj C dx)) (h : Q (.done (.ret .notImplemented)) s) :
    wpAny M A (Builtin.Int.intBinary name g false ⟨[.int i t, .ref x], []⟩) Q E s := by
  obtain ⟨hp, gg, d, tk, os⟩ := s
  unfold Builtin.Int.intBinary
  wp_walk using AutoSeq1.wpAny_loadPart' hx
  exact h
theorem lt_ni {Q : Value → Shared → Prop} (hx : s.heap.get? x = some (PySem.W.instObj C dx)) (h : Q .notImplemented s) : wpAny (model prog w) A (call (.builtin "int.__lt__") [.int i t, .ref x]) Q E s := by
  refine wpAny_call (codeAny_call_builtin PySem.F.slot_int_lt.plain PySem.F.entry_int_lt (PySem.F.slot_int_lt.check _ _ _ _ _ _ _ _ (typeIs_int s i t) (PySem.F.args_int_lt_2 _ _) ?_))
  exact int_bin_ni (M := model prog w) (name := "__lt__") hx h
theorem le_ni {Q : Value → Shared → Prop} (hx : s.heap.get? x = some (PySem.W.instObj C dx)) (h : Q .notImplemented s) : wpAny (model prog w) A (call (.builtin "int.__le__") [.int i t, .ref x]) Q E s := by
  refine wpAny_call (codeAny_call_builtin PySem.F.slot_int_le.plain PySem.F.entry_int_le (PySem.F.slot_int_le.check _ _ _ _ _ _ _ _ (typeIs_int s i t) (PySem.F.args_int_le_2 _ _) ?_))
  exact int_bin_ni (M := model prog w) (name := "__le__") hx h
theorem gt_ni {Q : Value → Shared → Prop} (hx : s.heap.get? x = some (PySem.W.instObj C dx)) (h : Q .notImplemented s) : wpAny (model prog w) A (call (.builtin "int.__gt__") [.int i t, .ref x]) Q E s := by
  refine wpAny_call (codeAny_call_builtin PySem.F.slot_int_gt.plain PySem.F.entry_int_gt (PySem.F.slot_int_gt.check _ _ _ _ _ _ _ _ (typeIs_int s i t) (PySem.F.args_int_gt_2 _ _) ?_))
  exact int_bin_ni (M := model prog w) (name := "__gt__") hx h
theorem ge_ni {Q : Value → Shared → Prop} (hx : s.heap.get? x = some (PySem.W.instObj C dx)) (h : Q .notImplemented s) : wpAny (model prog w) A (call (.builtin "int.__ge__") [.int i t, .ref x]) Q E s := by
  refine wpAny_call (codeAny_call_builtin PySem.F.slot_int_ge.plain PySem.F.entry_int_ge (PySem.F.slot_int_ge.check _ _ _ _ _ _ _ _ (typeIs_int s i t) (PySem.F.args_int_ge_2 _ _) ?_))
  exact int_bin_ni (M := model prog w) (name := "__ge__") hx h
theorem eq_ni {Q : Value → Shared → Prop} (hx : s.heap.get? x = some (PySem.W.instObj C dx)) (h : Q .notImplemented s) : wpAny (model prog w) A (call (.builtin "int.__eq__") [.int i t, .ref x]) Q E s := by
  refine wpAny_call (codeAny_call_builtin PySem.F.slot_int_eq.plain PySem.F.entry_int_eq (PySem.F.slot_int_eq.check _ _ _ _ _ _ _ _ (typeIs_int s i t) (PySem.F.args_int_eq_2 _ _) ?_))
  exact int_bin_ni (M := model prog w) (name := "__eq__") hx h
theorem ne_ni {Q : Value → Shared → Prop} (hx : s.heap.get? x = some (PySem.W.instObj C dx)) (h : Q .notImplemented s) : wpAny (model prog w) A (call (.builtin "int.__ne__") [.int i t, .ref x]) Q E s := by
  refine wpAny_call (codeAny_call_builtin PySem.F.slot_int_ne.plain PySem.F.entry_int_ne (PySem.F.slot_int_ne.check _ _ _ _ _ _ _ _ (typeIs_int s i t) (PySem.F.args_int_ne_2 _ _) ?_))
  exact int_bin_ni (M := model prog w) (name := "__ne__") hx h
/-- what int says to a comparison with an own thing -/
structure IntNi (op : CmpOp) : Prop where
  ex : ∃ id, Slot "int" (cmpInfo op).2.1 id ∧ ∀ (prog : Program) (w : World) (A : Around) (E : Value → Shared → Prop) (s : Shared) (x C dx : Addr) (i : Int) (t : Tok) (Q : Value → Shared → Prop), s.heap.get? x = some (PySem.W.instObj C dx) → Q .notImplemented s → wpAny (model prog w) A (call (.builtin id) [.int i t, .ref x]) Q E s
theorem ni_lt : IntNi .Lt := ⟨_, PySem.F.slot_int_lt, fun _ _ _ _ _ _ _ _ _ _ _ hx h => lt_ni hx h⟩
theorem ni_le : IntNi .LtE := ⟨_, PySem.F.slot_int_le, fun _ _ _ _ _ _ _ _ _ _ _ hx h => le_ni hx h⟩
theorem ni_gt : IntNi .Gt := ⟨_, PySem.F.slot_int_gt, fun _ _ _ _ _ _ _ _ _ _ _ hx h => gt_ni hx h⟩
theorem ni_ge : IntNi .GtE := ⟨_, PySem.F.slot_int_ge, fun _ _ _ _ _ _ _ _ _ _ _ hx h => ge_ni hx h⟩
theorem ni_eq : IntNi .Eq := ⟨_, PySem.F.slot_int_eq, fun _ _ _ _ _ _ _ _ _ _ _ hx h => eq_ni hx h⟩
theorem ni_ne : IntNi .NotEq := ⟨_, PySem.F.slot_int_ne, fun _ _ _ _ _ _ _ _ _ _ _ hx h => ne_ni hx h⟩
theorem refl_K {op : CmpOp} {Q : Value → Shared → Prop} (N : IntNi op) (hu : A.units < cLine) (X : K.In s.heap) (I : InstAt s.heap x ox C od) (hx : s.heap.get? x = some (PySem.W.instObj C dx)) (hsub : subIn K (.ref C) (.type "int") = some false)
    (one : wpAny (model prog w) A (tryCompare (.ref x) (cmpInfo op).2.2 (.int i t)) (fun r s' => ∃ v, r = some v ∧ Q v s') E s) : wpAny (model prog w) A (richCompare op (.int i t) (.ref x)) Q E s := by
  obtain ⟨id, slot, ni⟩ := N.ex
  rcases hi : cmpInfo op with ⟨sym, f, r⟩
  rw [hi] at slot one
  simp only [richCompare, hi, (typeIs_int s i t).oneThing_none]
  refine wpAny_holding (wpAny_bind (wpAny_cRoomFor hu ?_))
  refine wpAny_bind (wpAny_typeOf (typeIs_int s i t) (wpAny_bind (I.type.here ?_)))
  split
  · refine wpAny_bind ((looks_subIn X hsub).here ?_)
    simp only [Bool.false_eq_true, if_false, Bool.not_false, if_true]
    refine wpAny_bind (m := tryCompare (.int i t) _ (.ref x)) (wpAny_tryCompare_declines (typeIs_int s i t) slot (ni prog w A E s x C dx i t _ hx ⟨rfl, ?_⟩))
    refine wpAny_bind (m := tryCompare (.ref x) _ (.int i t)) (wpAny_mono one (fun r s' z => ?_) fun _ _ e => e)
    obtain ⟨v, rfl, hq⟩ := z
    exact wpAny_pure hq
  · rename_i q
    simp at q
end
section
variable {X : Cx} {B : Bs} {P : Program} {w : World} {K : Frag} {mg : Str → Option Value} {base : Heap}
/-- one of two readings -/
def rOr (r1 r2 : R2D) : R2D := fun a b μ k => r1 a b μ k ∨ r2 a b μ k
theorem orD {f : Value → Value → Sem Value} {r1 r2 : R2D} (h1 : OpD X B f r1) (h2 : OpD X B f r2) : OpD X B f (rOr r1 r2) := imO (orO h1 h2) fun x y H Q ⟨G, μ, dx, dy, k, g0, hh, ax, ay, r, kk⟩ => by
  rcases r with r | r
  · exact .inl ⟨G, μ, dx, dy, k, g0, hh, ax, ay, r, kk⟩
  · exact .inr ⟨G, μ, dx, dy, k, g0, hh, ax, ay, r, kk⟩
/-- an int on the left, an instance of the class at C on the right; the method's promise -/
def rRefl (C : Addr) (neg : Bool) (sp : SpD) : R2D := fun a b μ k => (∃ i, a = .int i) ∧ (∃ fs, insOf μ b = some (C, fs)) ∧ sp [b, a] μ (fun v μ' => ∃ c, v = .bl c ∧ k (.bl (c ^^ neg)) μ') x0
theorem od_refl {op : CmpOp} {j : Nat} {C : Addr} {m : Str} {sp : SpD} (N : IntNi op) (M : OpG P w K mg base j C m sp) (hsub : subIn K (.ref C) (.type "int") = some false) (hr : Room j X.A) (hm : (cmpInfo op).2.2 = m := by rfl) (hX : XIs X P w K mg base := by exact ⟨rfl, rfl, rfl, rfl, rfl⟩)
    (hop : ∀ a b, compareOp op a b = richCompare op a b := by intro _ _; rfl) : OpD X B (compareOp op) (rRefl C false sp) := by
  subst hm
  obtain ⟨rfl, rfl, rfl, rfl, rfl⟩ := hX
  obtain ⟨f, fd, ps, hs, hf, hb, F⟩ := M.ex
  rintro pins s σ H x y u v Q I rx ry ⟨G, μ, dx, dy, k, g0, hh, ax, ay, ⟨⟨i, e0⟩, ⟨fs, e1⟩, q⟩, kk⟩
  subst e0
  have ei := ax.int_inv
  subst ei
  obtain ⟨t, rfl⟩ := rx
  obtain ⟨p, dxx, vs, rfl, hH, _⟩ := insOf_at hh ay e1
  cases ry
  obtain ⟨_, _, _, hx, _⟩ := (show ObjOk X.prog X.w H s.heap p (.ins C dxx vs) from I.hok p _ hH)
  obtain ⟨mA, J, _⟩ := ins_get I.hok hH
  obtain ⟨od, J, _⟩ := J.look
  rw [hop]
  refine refl_K N hr.units0 I.kIn J hx hsub ?_
  unfold tryCompare
  refine wpAny_bind (PySem.W.ifBound_K I.kIn J hs hf (run_own F hr rfl hb passE0 I (.cons (show L2.RelV (.ref p) (.ref p) from rfl) (.cons (show L2.RelV (.int i) (.int i t) from ⟨t, rfl⟩) .nil)) (lSp_go (Q := fun z H' => ∃ c, z = .bl c ∧ Q (.bl c) H') hh (.cons ay (.cons ax .nil)) q fun z H' G' d μ' s' h' a' ⟨c, e, q'⟩ => ?_) fun z s' hz => ?_))
  · subst e
    rw [Bool.xor_false] at q'
    exact ⟨c, a'.bl_inv, kk _ H' G' _ μ' s' h' (.bl c) q'⟩
  · obtain ⟨z, H', I', rz, c, ez, q'⟩ := hz
    subst ez
    cases rz
    exact wpAny_pure ⟨_, rfl, .bl c, H', I', rfl, q'⟩
theorem od_reflNe {j : Nat} {C : Addr} {sp : SpD} (M : OpG P w K mg base j C "__eq__" sp) (Ne : NeC K C) (hsub : subIn K (.ref C) (.type "int") = some false) (hr : Room (j + 1) X.A) (hX : XIs X P w K mg base := by exact ⟨rfl, rfl, rfl, rfl, rfl⟩) : OpD X B (compareOp .NotEq) (rRefl C true sp) := by
  obtain ⟨rfl, rfl, rfl, rfl, rfl⟩ := hX
  obtain ⟨f, fd, ps, hs, hf, hb, F⟩ := M.ex
  rintro pins s σ H x y u v Q I rx ry ⟨G, μ, dx, dy, k, g0, hh, ax, ay, ⟨⟨i, e0⟩, ⟨fs, e1⟩, q⟩, kk⟩
  subst e0
  have ei := ax.int_inv
  subst ei
  obtain ⟨t, rfl⟩ := rx
  obtain ⟨p, dxx, vs, rfl, hH, _⟩ := insOf_at hh ay e1
  cases ry
  obtain ⟨_, _, _, hx, _⟩ := (show ObjOk X.prog X.w H s.heap p (.ins C dxx vs) from I.hok p _ hH)
  obtain ⟨mA, J, _⟩ := ins_get I.hok hH
  obtain ⟨od, J, _⟩ := J.look
  obtain ⟨m, hF⟩ := I.fr
  show wpAny _ _ (richCompare .NotEq (.int i t) (.ref p)) _ _ _
  refine refl_K ni_ne (by have := hr.units; omega) I.kIn J hx hsub ?_
  rw [cmpInfo_NotEq]
  refine ne_try (by have := hr.units; omega) hF I.ok.mod.kin J Ne.ne Ne.ob hs hf ?_
  refine run_own F hr.in1 rfl hb passE0 I (.cons (show L2.RelV (.ref p) (.ref p) from rfl) (.cons (show L2.RelV (.int i) (.int i t) from ⟨t, rfl⟩) .nil)) (lSp_go (Q := fun z H' => ∃ c, z = .bl c ∧ Q (.bl (!c)) H') hh (.cons ay (.cons ax .nil)) q fun z H' G' d μ' s' h' a' ⟨c, e, q'⟩ => ?_) fun z s' hz => ?_
  · subst e
    rw [Bool.xor_true] at q'
    exact ⟨c, a'.bl_inv, kk _ H' G' _ μ' s' h' (.bl _) q'⟩
  · obtain ⟨z, H', I', rz, c, ez, q'⟩ := hz
    subst ez
    cases rz
    exact ⟨c, rfl, .bl (!c), H', I', rfl, q'⟩
end
end Dl
namespace Dl
open PySem PySem.Spec PyProof.Rows L2
open PySem.W (Frag InstAt Looks findIn isFn subIn typeIn)
section
variable {X : Cx} {B : Bs} {P : Program} {w : World} {K : Frag} {mg : Str → Option Value} {base : Heap}
/-! ### str -/
def rStrI : RAD := fun ds μ k => match ds with
  | [.int i] => i.natAbs.log2 < 1920 ∧ k (.str (toString i : String)) μ
  | _ => False
theorem cd_strI : CallD X B (.type "str") rStrI := imC call_str_int fun vs H Q ⟨G, μ, ds, k, g0, hh, a, q, kk⟩ => by
  unfold rStrI at q
  split at q
  · rename_i i
    obtain ⟨v, rfl, av⟩ := a.one
    rw [av.int_inv]
    exact ⟨i, rfl, q.1, kk _ H G _ μ (Same.refl _) hh (.str _) q.2⟩
  · exact q.elim
theorem q_strI {i : Int} {μ : Mu} {k : KD} : rStrI [.int i] μ k = (i.natAbs.log2 < 1920 ∧ k (.str (toString i : String)) μ) := rfl
/-- str(o) by an own __str__ -/
def rStrO (C : Addr) (sp : SpD) : RAD := fun ds μ k => ∃ d fs, ds = [d] ∧ insOf μ d = some (C, fs) ∧ sp [d] μ (fun v μ' => ∃ z, v = .str z ∧ k (.str z) μ') x0
theorem cd_strO {j : Nat} {C : Addr} {sp : SpD} (M : OpG P w K mg base j C "__str__" sp) (hr : Room (j + 2) X.A) (hX : XIs X P w K mg base := by exact ⟨rfl, rfl, rfl, rfl, rfl⟩) : CallD X B (.type "str") (rStrO C sp) := by
  obtain ⟨rfl, rfl, rfl, rfl, rfl⟩ := hX
  obtain ⟨f, fd, ps, hs, hf, hb, F⟩ := M.ex
  rintro pins s σ H xs us Q I r ⟨G, μ, ds, k, g0, hh, a, ⟨d, fs, e0, e1, q⟩, kk⟩
  subst e0
  obtain ⟨v, rfl, av⟩ := a.one
  obtain ⟨p, dxx, vs, rfl, hH, _⟩ := insOf_at hh av e1
  cases r with
  | cons r1 r2 =>
    cases r2
    cases r1
    obtain ⟨mA, J, _⟩ := ins_get I.hok hH
    obtain ⟨od, J, _⟩ := J.look
    refine PySem.W.kso_call (by have := hr.in1.in1.units; omega) I.kIn J hs hf ?_
    refine run_own F hr.in1.in1 rfl hb passE0 I (.cons (show L2.RelV (.ref p) (.ref p) from rfl) .nil) (lSp_go (Q := fun z H' => ∃ c, z = .str c ∧ Q (.str c) H') hh (.cons av .nil) q fun z H' G' d μ' s' h' a' ⟨c, e, q'⟩ => ?_) fun z s' hz => ?_
    · subst e
      exact ⟨c, a'.str_inv, kk _ H' G' _ μ' s' h' (.str c) q'⟩
    · obtain ⟨z, H', I', rz, c, ez, q'⟩ := hz
      subst ez
      obtain ⟨t, rfl⟩ := rz
      exact ⟨.str c, H', I', ⟨t, rfl⟩, q'⟩
/-! ### f-strings -/
def dFmt (t : TED) : TED := fun ρ μ k => t ρ μ fun x μ1 => match x with
  | .str y => y.length ≤ 100000 ∧ k (.str y) μ1
  | .int i => i.natAbs.log2 < 1920 ∧ k (.str (toString i : String)) μ1
  | _ => False
theorem pd_fmt {e : Expr} {t : TED} {pos : Pos} (he : PD X B e t) : PD X B (.FormattedValue e (-1) none pos) (dFmt t) := imE (pe_fmt he) fun σ H Q ⟨G, ρ, μ, k, g0, hh, sl, q, kk⟩ => by
  refine ⟨G, ρ, μ, _, g0, hh, sl, q, fun v H1 G1 d μ1 s1 h1 a1 q1 => ?_⟩
  cases a1 with
  | str y => exact .inl ⟨y, rfl, line_of q1.1, kk _ H1 G1 _ μ1 s1 h1 (.str y) q1.2⟩
  | int i => exact .inr ⟨i, rfl, q1.1, kk _ H1 G1 _ μ1 s1 h1 (.str _) q1.2⟩
  | _ => exact q1.elim
def dJs : List TED → Str → SD → Mu → (Str → Mu → Prop) → Prop
  | [], acc, _, μ, k => k acc μ
  | t :: ts, acc, ρ, μ, k => t ρ μ fun x μ1 => ∃ y : Str, x = .str y ∧ (acc ++ y).length ≤ 100000 ∧ dJs ts (acc ++ y) ρ μ1 k
def dJoin (ts : List TED) : TED := fun ρ μ k => dJs ts Str.empty ρ μ fun out μ1 => k (.str out) μ1
theorem lJs : ∀ (ts : List TED) (acc : Str) (σ : L2.St) (ρ : SD) (H G : Hp) (μ : Mu) (k : Str → Mu → Prop) (Q : Str → Hp → Prop), Same B.g G → Hold X.K H G B.f μ → Slots X.K G σ ρ → dJs ts acc ρ μ k →
    (∀ z H' G' μ', Same G G' → Hold X.K H' G' B.f μ' → k z μ' → Q z H') → tJs (ts.map (lE X.K B)) acc σ H Q
  | [], acc, σ, ρ, H, G, μ, k, Q, g0, hh, sl, q, kk => kk acc H G μ (Same.refl _) hh q
  | t :: ts, acc, σ, ρ, H, G, μ, k, Q, g0, hh, sl, q, kk => by
    refine ⟨G, ρ, μ, _, g0, hh, sl, q, fun v H1 G1 d μ1 s1 h1 a1 ⟨y, e, hz, q1⟩ => ?_⟩
    subst e
    exact ⟨y, a1.str_inv, line_of hz, lJs ts (acc ++ y) σ ρ H1 G1 μ1 k Q (g0.trans s1) h1 (sl.mono s1) q1 fun z H' G' μ' s' => kk z H' G' μ' (s1.trans s')⟩
theorem pd_join {v1 v2 : Expr} {rest : List Expr} {ts : List TED} {pos : Pos} (h : PJ X (v1 :: v2 :: rest) (ts.map (lE X.K B))) : PD X B (.JoinedStr (v1 :: v2 :: rest) pos) (dJoin ts) := imE (pe_joined h) fun σ H Q ⟨G, ρ, μ, k, g0, hh, sl, q, kk⟩ =>
  lJs ts Str.empty σ ρ H G μ _ _ g0 hh sl q fun z H' G' μ' s' h' q' => kk _ H' G' _ μ' s' h' (.str z) q'
/-! ### a def with defaults, all parameters given -/
theorem binds_all {x qual : Str} {params : Arguments} {body : List Stmt} {scope : Scope} {dvs : List V} {kws : List (Str × V)} {f : Addr} {fd : FuncData} {ps : List Str} (F : FunD K x qual params body scope dvs kws f fd) (hd : dvs ≠ [])
    (h : ∀ (T : Addr) (kV doc pm : Value) (an : Option Addr) (cdv ct : Value) (us its : List Value), us.length = ps.length → its.length = dvs.length →
      ∃ k, bindArgs (PySem.W.fnOf x qual params body scope (.ref T) kV doc pm an cdv ct) ⟨us, []⟩ = seqItems? (.ref T) >>= k ∧ k (some its.toArray) = pure (ps.zip us)) : Binds K fd ps [] := by
  obtain ⟨ds, v, b⟩ := F.binds1 ps.length dvs.length hd (by omega) (ps := ps) fun T kV doc pm an cdv ct us its h1 h2 => by
    obtain ⟨k, e1, e2⟩ := h T kV doc pm an cdv ct us its h1 h2
    refine ⟨k, e1, ?_⟩
    rw [e2, List.drop_of_length_le (by omega), List.append_nil]
  rw [List.drop_length] at v
  cases v
  exact b
end
end Dl
namespace Dl
open PySem PySem.Spec PyProof.Rows L2
open PySem.W (Frag InstAt Looks findIn isFn subIn typeIn notFirst looks_findIn looks_typeIn looks_subIn check_slot clsIn selfFirst ksp_first ksp_try fills_K special_fn ksp_fillsT)
/-! ### + - * // by own methods -/
section
variable {prog : Program} {w : World} {A : Around} {E : Value → Shared → Prop} {s : Shared} {K : Frag} {x y C f g dy : Addr} {ox : Obj} {od : Option Obj} {i : Int} {t : Tok}
/-- both of one class -/
theorem bin_same {op : Operator} {Q : Value → Shared → Prop} (X : K.In s.heap) (I : InstAt s.heap x ox C od) (J : Looks (model prog w) s.heap (typeOf (.ref y)) (.ref C)) (hc : selfFirst K C = true)
    (hs : findIn K (.ref C) (PySem.dunder op.info.2) = some (some (.ref f))) (hf : isFn K (.ref f) = true)
    (h : wpAny (model prog w) A (call (.ref f) [.ref x, .ref y]) (PySem.W.CmpBack Q) E s) : wpAny (model prog w) A (binaryOp op (.ref x) (.ref y)) Q E s := by
  obtain ⟨cd, rest, hcd, hm⟩ := ksp_first hc
  rcases hi : op.info with ⟨sym, nm'⟩
  rw [hi] at hs
  dsimp only at hs
  have one := ksp_try X I hs hf h
  obtain ⟨hh, g, d, tt, os⟩ := s
  have L1 : Looks (model prog w) hh (typeOf (.ref x)) (.ref C) := I.type
  have L3 : Looks (model prog w) hh (fillsNumberSlot (.ref C) nm') true := fills_K X hcd hm hs
  have hne : (Value.ref C == Value.ref C) = true := by simp
  simp only [binaryOp, hi]
  refine wpAny_holding (wpAny_bind ?_)
  unfold binaryOp1
  refine wpAny_bind (L1.at (wpAny_bind (J.at (wpAny_bind (L3.at ?_)))))
  simp only [hne, if_true]
  ksp_lk
  refine wpAny_mono one (fun r s' hr' => ?_) fun _ _ e => e
  obtain ⟨v, rfl, hq⟩ := hr'
  ksp_lk
  exact hq
/-- what int says to an operator with an own thing -/
structure IntOp (op : Operator) : Prop where
  ex : ∃ id fo ro, Slot "int" (PySem.dunder op.info.2) id ∧ fastLookup "int" (PySem.dunder op.info.2) = some fo ∧ fastLookup "int" (dunderR op.info.2) = some ro ∧ ((fo.isSome && !isSeqSlot fo) || (ro.isSome && !isSeqSlot ro)) = true ∧
    ∀ (prog : Program) (w : World) (A : Around) (E : Value → Shared → Prop) (s : Shared) (x C dx : Addr) (i : Int) (t : Tok) (Q : Value → Shared → Prop), s.heap.get? x = some (PySem.W.instObj C dx) → Q .notImplemented s → wpAny (model prog w) A (call (.builtin id) [.int i t, .ref x]) Q E s
theorem bin_refl {op : Operator} {Q : Value → Shared → Prop} (N : IntOp op) (X : K.In s.heap) (I : InstAt s.heap y ox C od) (hy : s.heap.get? y = some (PySem.W.instObj C dy)) (hc : selfFirst K C = true)
    (hs : findIn K (.ref C) (PySem.dunder op.info.2) = some (some (.ref f))) (hr : findIn K (.ref C) (dunderR op.info.2) = some (some (.ref g))) (hg : isFn K (.ref g) = true) (hsub : subIn K (.ref C) (.type "int") = some false)
    (h : wpAny (model prog w) A (call (.ref g) [.ref y, .int i t]) (PySem.W.CmpBack Q) E s) : wpAny (model prog w) A (binaryOp op (.int i t) (.ref y)) Q E s := by
  obtain ⟨id, fo, ro, slot, h1, h2, fills, ni⟩ := N.ex
  obtain ⟨cd, rest, hcd, hm⟩ := ksp_first hc
  rcases hi : op.info with ⟨sym, nm'⟩
  rw [hi] at hs hr slot h1 h2
  dsimp only at hs hr slot h1 h2
  have one := ksp_try X I hr hg h
  have ni' := fun Q' (z : Q' none s) => wpAny_tryMethod_declines (M := model prog w) (A := A) (E := E) (Q := Q') (other := .ref y) (typeIs_int s i t) slot (ni prog w A E s y C dy i t _ hy ⟨rfl, z⟩)
  obtain ⟨hh, g, d, tt, os⟩ := s
  have L1 : Looks (model prog w) hh (typeOf (.int i t)) (.type "int") := Looks.of_pure rfl
  have L2 : Looks (model prog w) hh (typeOf (.ref y)) (.ref C) := I.type
  have L3 : Looks (model prog w) hh (fillsNumberSlot (.type "int") nm') true := by
    have := ksp_fillsT (T := "int") (nm := nm') (M := model prog w) X (show findIn K (.type "int") _ = _ from h1) (show findIn K (.type "int") _ = _ from h2)
    rw [fills] at this
    exact this
  have L4 : Looks (model prog w) hh (fillsNumberSlot (.ref C) nm') true := fills_K X hcd hm hs
  have L5 : Looks (model prog w) hh (isSubtype (.ref C) (.type "int")) false := looks_subIn X hsub
  have L7 : Looks (model prog w) hh (numberSlotInPython (.type "int") nm') false := Looks.of_pure rfl
  have hne : (Value.type "int" == Value.ref C) = false := Bool.eq_false_iff.mpr fun q => by cases beq_iff_eq.mp q
  simp only [binaryOp, hi]
  refine wpAny_holding (wpAny_bind ?_)
  unfold binaryOp1
  refine wpAny_bind (L1.at (wpAny_bind (L2.at (wpAny_bind (L3.at ?_)))))
  simp only [hne, Bool.false_eq_true, if_false]
  ksp_lk
  refine ni' _ ?_
  ksp_lk
  refine wpAny_mono one (fun r s' hr' => ?_) fun _ _ e => e
  obtain ⟨v, rfl, hq⟩ := hr'
  ksp_lk
  exact hq
end
theorem add_ni {prog : Program} {w : World} {A : Around} {E : Value → Shared → Prop} {s : Shared} {x C dx : Addr} {i : Int} {t : Tok} {Q : Value → Shared → Prop} (hx : s.heap.get? x = some (PySem.W.instObj C dx)) (h : Q .notImplemented s) : wpAny (model prog w) A (call (.builtin "int.__add__") [.int i t, .ref x]) Q E s := by
  refine wpAny_call (codeAny_call_builtin PySem.F.slot_int_add.plain PySem.F.entry_int_add (PySem.F.slot_int_add.check _ _ _ _ _ _ _ _ (typeIs_int s i t) (PySem.F.args_int_add_2 _ _) ?_))
  exact int_bin_ni (M := model prog w) (name := "__add__") hx h
theorem sub_ni {prog : Program} {w : World} {A : Around} {E : Value → Shared → Prop} {s : Shared} {x C dx : Addr} {i : Int} {t : Tok} {Q : Value → Shared → Prop} (hx : s.heap.get? x = some (PySem.W.instObj C dx)) (h : Q .notImplemented s) : wpAny (model prog w) A (call (.builtin "int.__sub__") [.int i t, .ref x]) Q E s := by
  refine wpAny_call (codeAny_call_builtin PySem.F.slot_int_sub.plain PySem.F.entry_int_sub (PySem.F.slot_int_sub.check _ _ _ _ _ _ _ _ (typeIs_int s i t) (PySem.F.args_int_sub_2 _ _) ?_))
  exact int_bin_ni (M := model prog w) (name := "__sub__") hx h
theorem mul_ni {prog : Program} {w : World} {A : Around} {E : Value → Shared → Prop} {s : Shared} {x C dx : Addr} {i : Int} {t : Tok} {Q : Value → Shared → Prop} (hx : s.heap.get? x = some (PySem.W.instObj C dx)) (h : Q .notImplemented s) : wpAny (model prog w) A (call (.builtin "int.__mul__") [.int i t, .ref x]) Q E s := by
  refine wpAny_call (codeAny_call_builtin PySem.F.slot_int_mul.plain PySem.F.entry_int_mul (PySem.F.slot_int_mul.check _ _ _ _ _ _ _ _ (typeIs_int s i t) (PySem.F.args_int_mul_2 _ _) ?_))
  exact int_bin_ni (M := model prog w) (name := "__mul__") hx h
theorem fdiv_ni {prog : Program} {w : World} {A : Around} {E : Value → Shared → Prop} {s : Shared} {x C dx : Addr} {i : Int} {t : Tok} {Q : Value → Shared → Prop} (hx : s.heap.get? x = some (PySem.W.instObj C dx)) (h : Q .notImplemented s) : wpAny (model prog w) A (call (.builtin "int.__floordiv__") [.int i t, .ref x]) Q E s := by
  refine wpAny_call (codeAny_call_builtin PySem.F.slot_int_floordiv.plain PySem.F.entry_int_floordiv (PySem.F.slot_int_floordiv.check _ _ _ _ _ _ _ _ (typeIs_int s i t) (PySem.F.args_int_floordiv_2 _ _) ?_))
  obtain ⟨hp, gg, d, tk, os⟩ := s
  unfold Builtin.«int.__floordiv__» Builtin.exactOperandsForPylong Builtin.Int.intBinary
  wp_walk using AutoSeq1.wpAny_loadPart' hx
  exact h
theorem io_add : IntOp .Add := ⟨_, some (.builtin "int.__add__"), some (.builtin "int.__radd__"), PySem.F.slot_int_add, by kernel_rfl, by kernel_rfl, by kernel_rfl, fun _ _ _ _ _ _ _ _ _ _ _ hx h => add_ni hx h⟩
theorem io_sub : IntOp .Sub := ⟨_, some (.builtin "int.__sub__"), some (.builtin "int.__rsub__"), PySem.F.slot_int_sub, by kernel_rfl, by kernel_rfl, by kernel_rfl, fun _ _ _ _ _ _ _ _ _ _ _ hx h => sub_ni hx h⟩
theorem io_mul : IntOp .Mult := ⟨_, some (.builtin "int.__mul__"), some (.builtin "int.__rmul__"), PySem.F.slot_int_mul, by kernel_rfl, by kernel_rfl, by kernel_rfl, fun _ _ _ _ _ _ _ _ _ _ _ hx h => mul_ni hx h⟩
theorem io_fdiv : IntOp .FloorDiv := ⟨_, some (.builtin "int.__floordiv__"), some (.builtin "int.__rfloordiv__"), PySem.F.slot_int_floordiv, by kernel_rfl, by kernel_rfl, by kernel_rfl, fun _ _ _ _ _ _ _ _ _ _ _ hx h => fdiv_ni hx h⟩
section
variable {X : Cx} {B : Bs} {P : Program} {w : World} {K : Frag} {mg : Str → Option Value} {base : Heap}
theorem rel_back {v : V} {u : Value} {Q : Value → Shared → Prop} {s : Shared} (r : L2.RelV v u) (q : Q u s) : PySem.W.CmpBack Q u s := by
  cases u <;> first | exact q | skip
  cases v <;> first | (obtain ⟨_, z⟩ := r; cases z) | cases r
theorem sub_int {C : Addr} : subIn K (.type "int") (.ref C) = some false := by
  show (PySem.fastBuiltinMro "int").map (·.contains (Value.ref C)) = some false
  rw [show PySem.fastBuiltinMro "int" = some [.type "int", .type "object"] by decide +kernel, Option.map_some]
  simp
/-- an instance of C, beside it another of C, or an int -/
def rBin (C : Addr) (sp : SpD) : R2D := fun a b μ k => (∃ fs, insOf μ a = some (C, fs)) ∧ ((∃ gs, insOf μ b = some (C, gs)) ∨ ∃ i, b = .int i) ∧ sp [a, b] μ k x0
def rBinR (C : Addr) (sp : SpD) : R2D := fun a b μ k => (∃ i, a = .int i) ∧ (∃ fs, insOf μ b = some (C, fs)) ∧ sp [b, a] μ k x0
theorem od_bin {op : Operator} {j : Nat} {C : Addr} {m : Str} {sp : SpD} {rc : Option Value} (N : IntOp op) (M : OpG P w K mg base j C m sp) (hc : selfFirst K C = true) (hrc : findIn K (.ref C) (dunderR op.info.2) = some rc) (hp : rc = none ∨ ∃ g : Addr, rc = some (.ref g)) (hr : Room j X.A) (hm : PySem.dunder op.info.2 = m := by rfl)
    (hX : XIs X P w K mg base := by exact ⟨rfl, rfl, rfl, rfl, rfl⟩) : OpD X B (binaryOp op) (rBin C sp) := by
  subst hm
  obtain ⟨rfl, rfl, rfl, rfl, rfl⟩ := hX
  obtain ⟨f, fd, ps, hs, hf, hb, F⟩ := M.ex
  rintro pins s σ H x y u v Q I rx ry ⟨G, μ, dx, dy, k, g0, hh, ax, ay, ⟨⟨fs, e1⟩, e2, q⟩, kk⟩
  obtain ⟨p, dxx, vs, rfl, hH, _⟩ := insOf_at hh ax e1
  cases rx
  obtain ⟨mA, J, _⟩ := ins_get I.hok hH
  obtain ⟨od, J, _⟩ := J.look
  have go : wpAny (model X.prog X.w) X.A (call (.ref f) [.ref p, v]) (PySem.W.CmpBack (EP X pins σ Q)) X.xe s :=
    run_own F hr rfl hb passE0 I (.cons (show L2.RelV (.ref p) (.ref p) from rfl) (.cons ry .nil)) (lSp_go (Q := Q) hh (.cons ax (.cons ay .nil)) q fun z H' G' d μ' s' h' a' q' => kk _ H' G' _ μ' s' h' a' q') fun z s' hz => by
      obtain ⟨z, H', I', rz, q'⟩ := hz
      exact rel_back rz ⟨z, H', I', rz, q'⟩
  rcases e2 with ⟨gs, e2⟩ | ⟨i, e2⟩
  · obtain ⟨p2, dx2, vs2, rfl, hH2, _⟩ := insOf_at hh ay e2
    cases ry
    obtain ⟨mA2, J2, _⟩ := ins_get I.hok hH2
    obtain ⟨od2, J2, _⟩ := J2.look
    exact bin_same I.kIn J J2.type hc hs hf go
  · subst e2
    have ei := ay.int_inv
    subst ei
    obtain ⟨t, rfl⟩ := ry
    obtain ⟨id, fo, ro, slot, h1, h2, fills, ni⟩ := N.ex
    obtain ⟨m, hF⟩ := I.fr
    exact PySem.W.ksp_binT (T := "int") hF I.ok.mod.kin J rfl hc hs hf hrc hp h1 h2 sub_int go
theorem od_binR {op : Operator} {j j' : Nat} {C : Addr} {m m' : Str} {sp sp' : SpD} (N : IntOp op) (M : OpG P w K mg base j C m sp) (M' : OpG P w K mg base j' C m' sp') (hc : selfFirst K C = true) (hsub : subIn K (.ref C) (.type "int") = some false) (hr : Room j' X.A) (hm : PySem.dunder op.info.2 = m := by rfl) (hm' : dunderR op.info.2 = m' := by rfl)
    (hX : XIs X P w K mg base := by exact ⟨rfl, rfl, rfl, rfl, rfl⟩) : OpD X B (binaryOp op) (rBinR C sp') := by
  subst hm
  subst hm'
  obtain ⟨rfl, rfl, rfl, rfl, rfl⟩ := hX
  obtain ⟨f0, _, _, hs0, _, _, _⟩ := M.ex
  obtain ⟨f, fd, ps, hs, hf, hb, F⟩ := M'.ex
  rintro pins s σ H x y u v Q I rx ry ⟨G, μ, dx, dy, k, g0, hh, ax, ay, ⟨⟨i, e0⟩, ⟨fs, e1⟩, q⟩, kk⟩
  subst e0
  have ei := ax.int_inv
  subst ei
  obtain ⟨t, rfl⟩ := rx
  obtain ⟨p, dxx, vs, rfl, hH, _⟩ := insOf_at hh ay e1
  cases ry
  obtain ⟨_, _, _, hx, _⟩ := (show ObjOk X.prog X.w H s.heap p (.ins C dxx vs) from I.hok p _ hH)
  obtain ⟨mA, J, _⟩ := ins_get I.hok hH
  obtain ⟨od, J, _⟩ := J.look
  refine bin_refl N I.kIn J hx hc hs0 hs hf hsub ?_
  exact run_own F hr rfl hb passE0 I (.cons (show L2.RelV (.ref p) (.ref p) from rfl) (.cons (show L2.RelV (.int i) (.int i t) from ⟨t, rfl⟩) .nil)) (lSp_go (Q := Q) hh (.cons ay (.cons ax .nil)) q fun z H' G' d μ' s' h' a' q' => kk _ H' G' _ μ' s' h' a' q') fun z s' hz => by
    obtain ⟨z, H', I', rz, q'⟩ := hz
    exact rel_back rz ⟨z, H', I', rz, q'⟩
/-! ### -o, abs(o), bool(o), len(o) by own methods -/
def rUn (C : Addr) (sp : SpD) : R1D := fun a μ k => (∃ fs, insOf μ a = some (C, fs)) ∧ sp [a] μ k x0
theorem ud_own {j : Nat} {C : Addr} {sp : SpD} (M : OpG P w K mg base j C "__neg__" sp) (hr : Room j X.A) (hX : XIs X P w K mg base := by exact ⟨rfl, rfl, rfl, rfl, rfl⟩) : UnD X B (unaryOp .USub) (rUn C sp) := by
  obtain ⟨rfl, rfl, rfl, rfl, rfl⟩ := hX
  obtain ⟨f, fd, ps, hs, hf, hb, F⟩ := M.ex
  rintro pins s σ H x u Q I rx ⟨G, μ, dx, k, g0, hh, ax, ⟨⟨fs, e1⟩, q⟩, kk⟩
  obtain ⟨p, dxx, vs, rfl, hH, _⟩ := insOf_at hh ax e1
  cases rx
  obtain ⟨mA, J, _⟩ := ins_get I.hok hH
  obtain ⟨od, J, _⟩ := J.look
  obtain ⟨m, hF⟩ := I.fr
  exact PySem.W.ksp_neg hF I.ok.mod.kin J hs hf (run_own F hr rfl hb passE0 I (.cons (show L2.RelV (.ref p) (.ref p) from rfl) .nil) (lSp_go (Q := Q) hh (.cons ax .nil) q fun z H' G' d μ' s' h' a' q' => kk _ H' G' _ μ' s' h' a' q') fun z s' hz => hz)
def rOwn1 (C : Addr) (sp : SpD) : RAD := fun ds μ k => ∃ d fs, ds = [d] ∧ insOf μ d = some (C, fs) ∧ sp [d] μ k x0
theorem cd_absO {j : Nat} {C : Addr} {sp : SpD} (M : OpG P w K mg base j C "__abs__" sp) (hr : Room (j + 1) X.A) (hX : XIs X P w K mg base := by exact ⟨rfl, rfl, rfl, rfl, rfl⟩) : CallD X B (.builtin "abs") (rOwn1 C sp) := by
  obtain ⟨rfl, rfl, rfl, rfl, rfl⟩ := hX
  obtain ⟨f, fd, ps, hs, hf, hb, F⟩ := M.ex
  rintro pins s σ H xs us Q I r ⟨G, μ, ds, k, g0, hh, a, ⟨d, fs, e0, e1, q⟩, kk⟩
  subst e0
  obtain ⟨v, rfl, av⟩ := a.one
  obtain ⟨p, dxx, vs, rfl, hH, _⟩ := insOf_at hh av e1
  obtain ⟨u, rfl, r1⟩ := vals1 r
  cases r1
  obtain ⟨mA, J, _⟩ := ins_get I.hok hH
  obtain ⟨od, J, _⟩ := J.look
  refine Calls.call_function_entry kind_abs plain_abs entry_abs (args_abs _) ?_
  unfold Builtin.«abs»
  refine wpAny_bind (m := oneArg "abs" _) (wpAny_pure ?_)
  refine wpAny_bind (m := callSpecial? (.ref p) (Str.ofString "__abs__")) (special_fn I.kIn J hs (beq_iff_eq.mp hf) ?_)
  refine run_own F hr.in1 rfl hb passE0 I (.cons (show L2.RelV (.ref p) (.ref p) from rfl) .nil) (lSp_go (Q := Q) hh (.cons av .nil) q fun z H' G' d μ' s' h' a' q' => kk _ H' G' _ μ' s' h' a' q') fun z s' hz => ?_
  exact wpAny_pure ⟨_, rfl, hz⟩
theorem bool_K {prog : Program} {w : World} {A : Around} {E : Value → Shared → Prop} {s : Shared} {K : Frag} {x C f : Addr} {ox : Obj} {od : Option Obj} {Q : Value → Shared → Prop} (X : K.In s.heap) (I : InstAt s.heap x ox C od) (hs : findIn K (.ref C) "__bool__" = some (some (.ref f))) (hf : isFn K (.ref f) = true)
    (h : wpAny (model prog w) A.in1.in1 (call (.ref f) [.ref x]) (fun v s' => ∃ c, v = .bool c ∧ Q (.bool c) s') E s) : wpAny (model prog w) A (call (.type "bool") [.ref x]) Q E s := by
  refine callType_codes (T := "bool") (Bi := Builtin.«object.__init__») (Q₁ := fun r s₁ => ∃ c, r = .bool c ∧ Q r s₁) PySem.F.called_bool (PySem.F.typeCall_bool_1 _) PySem.F.entry_object_init ?_ ?_
  · refine codeAny_of_tree ?_
    show wpAny _ A.in1.in1 (do checkBuiltinCall "bool.__new__" ⟨[.type "bool", .ref x], []⟩; again (.builtin "bool.__new__" ⟨[.type "bool", .ref x], []⟩)) _ _ s
    refine wpAny_bind (wpAny_of_eq (PySem.F.newCall_bool_1 _) (wpAny_pure ⟨plainId_quiet (by decide +kernel) _, codeAny_builtin PySem.F.entry_bool_new ?_⟩))
    rw [Around.under_plainId (by decide +kernel) _]
    have one : wpAny (model prog w) A.in1.in1 (truthy (.ref x)) (fun c s' => Q (.bool c) s') E s := by
      unfold truthy
      refine wpAny_bind (m := callSpecial? (.ref x) (Str.ofString "__bool__")) (special_fn X I hs (beq_iff_eq.mp hf) (wpAny_mono h (fun r s' hr => ?_) fun _ _ y => y))
      obtain ⟨c, rfl, hq⟩ := hr
      exact wpAny_pure hq
    obtain ⟨hp, g, d, tk, os⟩ := s
    have f1 := F.conv_sub_bool
    unfold Builtin.«bool.__new__»
    repeat (any_goals (first | assumption | (refine wpAny_bind (m := truthy (.ref x)) (wpAny_mono one (fun c s' hq => ?_) fun _ _ e => e)) | wp_step))
    all_goals first | exact ⟨_, rfl, ⟨_, rfl, hq⟩⟩ | exact ⟨_, rfl, hq⟩ | skip
  · rintro obj s₁ ⟨c, rfl, hq⟩
    exact ⟨PySem.typeIs_bool _ _, PySem.F.args_object_init_2 _ _, object_init_meets PySem.F.called_bool.init.lookup PySem.F.called_bool.made (by decide) prog w A.in1 _ s₁ ⟨PySem.typeIs_bool _ _, rfl, hq⟩⟩
def rBoolO (C : Addr) (sp : SpD) : RAD := fun ds μ k => ∃ d fs, ds = [d] ∧ insOf μ d = some (C, fs) ∧ sp [d] μ (fun v μ' => ∃ c, v = .bl c ∧ k (.bl c) μ') x0
theorem cd_boolO {j : Nat} {C : Addr} {sp : SpD} (M : OpG P w K mg base j C "__bool__" sp) (hr : Room (j + 2) X.A) (hX : XIs X P w K mg base := by exact ⟨rfl, rfl, rfl, rfl, rfl⟩) : CallD X B (.type "bool") (rBoolO C sp) := by
  obtain ⟨rfl, rfl, rfl, rfl, rfl⟩ := hX
  obtain ⟨f, fd, ps, hs, hf, hb, F⟩ := M.ex
  rintro pins s σ H xs us Q I r ⟨G, μ, ds, k, g0, hh, a, ⟨d, fs, e0, e1, q⟩, kk⟩
  subst e0
  obtain ⟨v, rfl, av⟩ := a.one
  obtain ⟨p, dxx, vs, rfl, hH, _⟩ := insOf_at hh av e1
  obtain ⟨u, rfl, r1⟩ := vals1 r
  cases r1
  obtain ⟨mA, J, _⟩ := ins_get I.hok hH
  obtain ⟨od, J, _⟩ := J.look
  refine bool_K I.kIn J hs hf ?_
  refine run_own F hr.in1.in1 rfl hb passE0 I (.cons (show L2.RelV (.ref p) (.ref p) from rfl) .nil) (lSp_go (Q := fun z H' => ∃ c, z = .bl c ∧ Q (.bl c) H') hh (.cons av .nil) q fun z H' G' d μ' s' h' a' ⟨c, e, q'⟩ => ?_) fun z s' hz => ?_
  · subst e
    exact ⟨c, a'.bl_inv, kk _ H' G' _ μ' s' h' (.bl c) q'⟩
  · obtain ⟨z, H', I', rz, c, ez, q'⟩ := hz
    subst ez
    cases rz
    exact ⟨c, rfl, .bl c, H', I', rfl, q'⟩
def rBoolD : RAD := fun ds μ k => match ds with
  | [.int i] => k (.bl (i != 0)) μ
  | [.bl c] => k (.bl c) μ
  | _ => False
theorem cd_bool : CallD X B (.type "bool") rBoolD := imC call_bool1 fun vs H Q ⟨G, μ, ds, k, g0, hh, a, q, kk⟩ => by
  unfold rBoolD at q
  split at q
  · rename_i i
    obtain ⟨v, rfl, av⟩ := a.one
    rw [av.int_inv]
    exact .inl ⟨i, rfl, kk _ H G _ μ (Same.refl _) hh (.bl _) q⟩
  · rename_i c
    obtain ⟨v, rfl, av⟩ := a.one
    rw [av.bl_inv]
    exact .inr ⟨c, rfl, kk _ H G _ μ (Same.refl _) hh (.bl _) q⟩
  · exact q.elim
theorem q_booli {i : Int} {μ : Mu} {k : KD} : rBoolD [.int i] μ k = k (.bl (i != 0)) μ := rfl
theorem q_boolb {c : Bool} {μ : Mu} {k : KD} : rBoolD [.bl c] μ k = k (.bl c) μ := rfl
end
end Dl
namespace Dl
open PySem PySem.Spec PyProof.Rows L2
/-! ### the arguments of a call, by place and by name -/
abbrev TAK := L2.St → Hp → (List V → List V → Hp → Prop) → Prop
structure PAK (X : Cx) (es : List Expr) (kws : List Keyword) (ks : List Str) (t : TAK) : Prop where
  run : ∀ (pos : Pos) (f : Value) (first : List Value) (pins : List (Addr × Obj)) (s : Shared) (σ : L2.St) (H : Hp) (Q : List V → List V → Hp → Prop) (Qv : Value → Shared → Prop), PySem.W.keepIn X.K f = true → Inv X pins σ H s → t σ H Q →
    (∀ us ws vs zs s2 H2, Inv X pins σ H2 s2 → Vals vs us → Vals zs ws → Q vs zs H2 → wpAny (model X.prog X.w) X.A (call f (first ++ us) (ks.zip ws)) Qv X.xe s2) →
    wpAny (model X.prog X.w) X.A (callWith pos f first (backTo pos (starEach es X.env)) (backToKw pos (keywordEach kws X.env))) Qv X.xe s
section
variable {X : Cx} {B : Bs} {e : Expr} {es : List Expr} {kws : List Keyword} {ks : List Str} {t tk : TA}
def tAK (t tk : TA) : TAK := fun σ H Q => t σ H fun vs H1 => tk σ H1 fun zs H2 => Q vs zs H2
theorem pak_0 : PAK X [] [] [] (tAK tNil tNil) := ⟨fun pos f first pins s σ H Q Qv hk I h go => PySem.W.callWith_K0 I.kIn hk (go [] [] [] [] s H I .nil .nil h)⟩
theorem pak_n (ha : PA X (e :: es) t) (he : starEach (e :: es) X.env = (false, eval e X.env) :: starEach es X.env := by rfl) (hpl : ∀ pos, (backTo pos (starEach es X.env)).any (·.1) = false := by intro _; rfl) : PAK X (e :: es) [] [] (tAK t tNil) :=
  ⟨fun pos f first pins s σ H Q Qv hk I h go => PySem.W.callWith_K (h₀ := X.base) I.ok.mod.kin hk (thn (ha.run pos pins s σ H _ I h) fun us s1 ⟨vs, H1, I1, r, q⟩ => ⟨I1.kIn, go us [] vs [] s1 H1 I1 r .nil q⟩) he (hpl pos)⟩
theorem pak_k (hkw : PK X kws tk) (hall : ∀ pos, (backToKw pos (keywordEach kws X.env)).all (·.1.isSome) = true := by intro _; rfl) (hks : ∀ pos, (backToKw pos (keywordEach kws X.env)).filterMap (·.1) = ks := by intro _; rfl)
    (hpl : ∀ pos, ((backTo pos (starEach [] X.env)).any (·.1) || (backToKw pos (keywordEach kws X.env)).any (·.1.isNone)) = false := by intro _; rfl) : PAK X [] kws ks (tAK tNil tk) :=
  ⟨fun pos f first pins s σ H Q Qv hk I h go => PySem.W.callWith_KW0 (h₀ := X.base) I.ok.mod.kin hk (hall pos) (thn (hkw.run pos pins s σ H _ I h) fun ws s2 ⟨zs, H2, I2, rz, q⟩ => ⟨I2.kIn, by rw [hks pos]; exact go [] ws [] zs s2 H2 I2 .nil rz q⟩) (hpl pos)⟩
theorem pak_nk (ha : PA X (e :: es) t) (hkw : PK X kws tk) (hall : ∀ pos, (backToKw pos (keywordEach kws X.env)).all (·.1.isSome) = true := by intro _; rfl) (hks : ∀ pos, (backToKw pos (keywordEach kws X.env)).filterMap (·.1) = ks := by intro _; rfl)
    (he : starEach (e :: es) X.env = (false, eval e X.env) :: starEach es X.env := by rfl)
    (hpl : ∀ pos, ((backTo pos (starEach (e :: es) X.env)).any (·.1) || (backToKw pos (keywordEach kws X.env)).any (·.1.isNone)) = false := by intro _; rfl) : PAK X (e :: es) kws ks (tAK t tk) :=
  ⟨fun pos f first pins s σ H Q Qv hk I h go => PySem.W.callWith_KW (h₀ := X.base) I.ok.mod.kin hk (hall pos) (thn (ha.run pos pins s σ H _ I h) fun us s1 ⟨vs, H1, I1, r, q⟩ =>
    thn (hkw.run pos pins s1 σ H1 _ I1 q) fun ws s2 ⟨zs, H2, I2, rz, q2⟩ => ⟨I2.kIn, by rw [hks pos]; exact go us ws vs zs s2 H2 I2 r rz q2⟩) (hpl pos) he⟩
end
/-! over data -/
abbrev TKD := SD → Mu → (List D → List D → Mu → Prop) → Prop
def lAK (K : PySem.W.Frag) (B : Bs) (t : TKD) : TAK := fun σ H Q => ∃ (G : Hp) (ρ : SD) (μ : Mu) (k : List D → List D → Mu → Prop), Same B.g G ∧ Hold K H G B.f μ ∧ Slots K G σ ρ ∧ t ρ μ k ∧
  ∀ vs zs H' G' ds es μ', Same G G' → Hold K H' G' B.f μ' → Ats K G' vs ds → Ats K G' zs es → k ds es μ' → Q vs zs H'
abbrev PDAK (X : Cx) (B : Bs) (es : List Expr) (kws : List Keyword) (ks : List Str) (t : TKD) : Prop := PAK X es kws ks (lAK X.K B t)
def dPK (t tk : TAD) : TKD := fun ρ μ k => t ρ μ fun ds μ1 => tk ρ μ1 fun es μ2 => k ds es μ2
section
variable {X : Cx} {B : Bs} {e : Expr} {es : List Expr} {kws : List Keyword} {ks : List Str} {t tk : TAD}
theorem imAK {es : List Expr} {t t' : TAK} (h : PAK X es kws ks t) (i : ∀ σ H Q, t' σ H Q → t σ H Q) : PAK X es kws ks t' := ⟨fun pos f first pins s σ H Q Qv hk I q go => h.run pos f first pins s σ H Q Qv hk I (i _ _ _ q) go⟩
theorem lAK_of {σ : L2.St} {H : Hp} {Q : List V → List V → Hp → Prop} (h : lAK X.K B (dPK t tk) σ H Q) : tAK (lA X.K B t) (lA X.K B tk) σ H Q := by
  obtain ⟨G, ρ, μ, k, g0, hh, sl, q, kk⟩ := h
  refine ⟨G, ρ, μ, _, g0, hh, sl, q, fun vs H1 G1 ds μ1 s1 h1 a1 q1 => ?_⟩
  refine ⟨G1, ρ, μ1, _, g0.trans s1, h1, sl.mono s1, q1, fun zs H2 G2 es μ2 s2 h2 a2 q2 => ?_⟩
  exact kk vs zs H2 G2 ds es μ2 (s1.trans s2) h2 (a1.mono s2) a2 q2
abbrev PDK (X : Cx) (B : Bs) (kws : List Keyword) (t : TAD) : Prop := PK X kws (lA X.K B t)
theorem imK {t t' : TA} (h : PK X kws t) (i : ∀ σ H Q, t' σ H Q → t σ H Q) : PK X kws t' := ⟨fun p pins s σ H Q I q => h.run p pins s σ H Q I (i _ _ _ q)⟩
theorem pdk_nil : PDK X B [] dNil := imK pk_nil fun σ H Q ⟨G, ρ, μ, k, g0, hh, sl, q, kk⟩ => kk [] H G [] μ (Same.refl G) hh .nil q
theorem pdk_cons {te : TED} {nm : Option Str} {kpos : Pos} (he : PD X B e te) (hr : PDK X B kws t) : PDK X B (⟨nm, e, kpos⟩ :: kws) (dCons te t) := imK (pk_cons he hr) fun σ H Q ⟨G, ρ, μ, k, g0, hh, sl, q, kk⟩ => by
  refine ⟨G, ρ, μ, _, g0, hh, sl, q, fun v H1 G1 d μ1 s1 h1 a1 q1 => ?_⟩
  refine ⟨G1, ρ, μ1, _, g0.trans s1, h1, sl.mono s1, q1, fun vs H2 G2 ds μ2 s2 h2 a2 q2 => ?_⟩
  exact kk _ H2 G2 _ μ2 (s1.trans s2) h2 (.cons (a1.mono s2) a2) q2
theorem lA_nil {σ : L2.St} {H : Hp} {Q : List V → Hp → Prop} (h : lA X.K B dNil σ H Q) : tNil σ H Q := by
  obtain ⟨G, ρ, μ, k, g0, hh, sl, q, kk⟩ := h
  exact kk [] H G [] μ (Same.refl G) hh .nil q
theorem pdk_0 : PDAK X B [] [] [] (dPK dNil dNil) := imAK pak_0 fun σ H Q h => by
  obtain ⟨G, ρ, μ, k, g0, hh, sl, q, kk⟩ := h
  exact kk [] [] H G [] [] μ (Same.refl G) hh .nil .nil q
theorem pdk_n (ha : PDA X B (e :: es) t) (he : starEach (e :: es) X.env = (false, eval e X.env) :: starEach es X.env := by rfl) (hpl : ∀ pos, (backTo pos (starEach es X.env)).any (·.1) = false := by intro _; rfl) : PDAK X B (e :: es) [] [] (dPK t dNil) := imAK (pak_n ha he hpl) fun σ H Q h => by
  obtain ⟨G, ρ, μ, k, g0, hh, sl, q, kk⟩ := h
  refine ⟨G, ρ, μ, _, g0, hh, sl, q, fun vs H1 G1 ds μ1 s1 h1 a1 q1 => ?_⟩
  exact kk vs [] H1 G1 ds [] μ1 s1 h1 a1 .nil q1
theorem pdk_k (hkw : PDK X B kws tk) (hall : ∀ pos, (backToKw pos (keywordEach kws X.env)).all (·.1.isSome) = true := by intro _; rfl) (hks : ∀ pos, (backToKw pos (keywordEach kws X.env)).filterMap (·.1) = ks := by intro _; rfl)
    (hpl : ∀ pos, ((backTo pos (starEach [] X.env)).any (·.1) || (backToKw pos (keywordEach kws X.env)).any (·.1.isNone)) = false := by intro _; rfl) : PDAK X B [] kws ks (dPK dNil tk) := imAK (pak_k hkw hall hks hpl) fun σ H Q h => by
  obtain ⟨G, ρ, μ, k, g0, hh, sl, q, kk⟩ := h
  refine ⟨G, ρ, μ, _, g0, hh, sl, q, fun vs H1 G1 ds μ1 s1 h1 a1 q1 => ?_⟩
  exact kk [] vs H1 G1 [] ds μ1 s1 h1 .nil a1 q1
theorem pdk_nk (ha : PDA X B (e :: es) t) (hkw : PDK X B kws tk) (hall : ∀ pos, (backToKw pos (keywordEach kws X.env)).all (·.1.isSome) = true := by intro _; rfl) (hks : ∀ pos, (backToKw pos (keywordEach kws X.env)).filterMap (·.1) = ks := by intro _; rfl)
    (he : starEach (e :: es) X.env = (false, eval e X.env) :: starEach es X.env := by rfl)
    (hpl : ∀ pos, ((backTo pos (starEach (e :: es) X.env)).any (·.1) || (backToKw pos (keywordEach kws X.env)).any (·.1.isNone)) = false := by intro _; rfl) : PDAK X B (e :: es) kws ks (dPK t tk) := imAK (pak_nk ha hkw hall hks he hpl) fun σ H Q h => lAK_of h
end
/-! ### shapes of calls: how the written arguments come to the parameters -/
inductive Pk where
  | a (i : Nat)
  | d (i : Nat)
  | k (i : Nat)
def pick {α : Type} (as ds ks : List α) : Pk → Option α
  | .a i => as[i]?
  | .d i => ds[i]?
  | .k i => ks[i]?
def pickL {α : Type} (as ds ks : List α) : List Pk → List α
  | [] => []
  | p :: r => match pick as ds ks p with
    | some x => x :: pickL as ds ks r
    | none => pickL as ds ks r
theorem vals_get? : ∀ {vs : List V} {us : List Value} (i : Nat), Vals vs us → (vs[i]? = none ∧ us[i]? = none) ∨ ∃ v u, vs[i]? = some v ∧ us[i]? = some u ∧ RelV v u
  | _, _, _, .nil => .inl ⟨rfl, rfl⟩
  | _, _, 0, .cons h _ => .inr ⟨_, _, rfl, rfl, h⟩
  | _, _, i + 1, .cons _ t => vals_get? i t
theorem ats_get? {K : PySem.W.Frag} {G : Hp} : ∀ {vs : List V} {us : List D} (i : Nat), Ats K G vs us → (vs[i]? = none ∧ us[i]? = none) ∨ ∃ v u, vs[i]? = some v ∧ us[i]? = some u ∧ At K G v u
  | _, _, _, .nil => .inl ⟨rfl, rfl⟩
  | _, _, 0, .cons h _ => .inr ⟨_, _, rfl, rfl, h⟩
  | _, _, i + 1, .cons _ t => ats_get? i t
theorem pick_vals {vs ds zs : List V} {us its ws : List Value} (h1 : Vals vs us) (h2 : Vals ds its) (h3 : Vals zs ws) : ∀ l : List Pk, Vals (pickL vs ds zs l) (pickL us its ws l)
  | [] => .nil
  | p :: l => by
    have ih := pick_vals h1 h2 h3 l
    have : (pick vs ds zs p = none ∧ pick us its ws p = none) ∨ ∃ v u, pick vs ds zs p = some v ∧ pick us its ws p = some u ∧ RelV v u := by
      cases p with
      | a i => exact vals_get? i h1
      | d i => exact vals_get? i h2
      | k i => exact vals_get? i h3
    unfold pickL
    rcases this with ⟨e1, e2⟩ | ⟨v, u, e1, e2, r⟩
    · rw [e1, e2]; exact ih
    · rw [e1, e2]; exact .cons r ih
theorem pick_ats {K : PySem.W.Frag} {G : Hp} {vs ds zs : List V} {us its ws : List D} (h1 : Ats K G vs us) (h2 : Ats K G ds its) (h3 : Ats K G zs ws) : ∀ l : List Pk, Ats K G (pickL vs ds zs l) (pickL us its ws l)
  | [] => .nil
  | p :: l => by
    have ih := pick_ats h1 h2 h3 l
    have : (pick vs ds zs p = none ∧ pick us its ws p = none) ∨ ∃ v u, pick vs ds zs p = some v ∧ pick us its ws p = some u ∧ At K G v u := by
      cases p with
      | a i => exact ats_get? i h1
      | d i => exact ats_get? i h2
      | k i => exact ats_get? i h3
    unfold pickL
    rcases this with ⟨e1, e2⟩ | ⟨v, u, e1, e2, r⟩
    · rw [e1, e2]; exact ih
    · rw [e1, e2]; exact .cons r ih
/-- n arguments by place, those named ks by name; l tells where each parameter's value comes from -/
def Sh (K : PySem.W.Frag) (fd : FuncData) (ps : List Str) (n : Nat) (ks : List Str) (l : List Pk) (dd : List D) : Prop := ∃ (dvs : List V) (its : List Value), (∀ G, Ats K G dvs dd) ∧ KBn K fd ps n ks (fun us ws => pickL us its ws l) (fun vs zs => pickL vs dvs zs l)
section
variable {K : PySem.W.Frag} {x qual : Str} {params : Arguments} {body : List Stmt} {scope : Scope} {dvs : List V} {kws : List (Str × V)} {f : Addr} {fd : FuncData} {ps : List Str}
theorem sh_d {dd : List D} (F : FunD K x qual params body scope dvs kws f fd) (n : Nat) (ks : List Str) (l : List Pk) (hd : dvs ≠ []) (hdd : ∀ G, Ats K G dvs dd)
    (h : ∀ (T : Addr) (kV doc pm : Value) (an : Option Addr) (cdv ct : Value) (us its ws : List Value), us.length = n → its.length = dvs.length → ws.length = ks.length →
      ∃ k, bindArgs (PySem.W.fnOf x qual params body scope (.ref T) kV doc pm an cdv ct) ⟨us, ks.zip ws⟩ = seqItems? (.ref T) >>= k ∧ k (some its.toArray) = pure (ps.zip (pickL us its ws l))) : Sh K fd ps n ks l dd := by
  obtain ⟨its, b⟩ := F.kbindsD n ks (fun us its ws => pickL us its ws l) hd (fun h1 h2 h3 => pick_vals h1 h2 h3 l) h
  exact ⟨dvs, its, hdd, b⟩
theorem sh_n (F : FunD K x qual params body scope [] kws f fd) (n : Nat) (ks : List Str) (l : List Pk)
    (h : ∀ (kV doc pm : Value) (an : Option Addr) (cdv ct : Value) (us ws : List Value), us.length = n → ws.length = ks.length →
      bindArgs (PySem.W.fnOf x qual params body scope .none kV doc pm an cdv ct) ⟨us, ks.zip ws⟩ = pure (ps.zip (pickL us [] ws l))) : Sh K fd ps n ks l [] := by
  obtain ⟨oc, od, dV, kV, doc, pm, an, cdv, ct, osl, rfl, lk, hcd, hD, hK⟩ := F.ex
  rcases hD with ⟨_, rfl⟩ | ⟨e, _⟩
  · exact ⟨[], [], fun _ => .nil, fun s us ws _ l1 l2 => .of_eq (h kV doc pm an cdv ct us ws l1 l2), fun h1 h2 => pick_vals h1 .nil h2 l⟩
  · exact absurd rfl e
end
/-! ### runs -/
section
variable {X : Cx} {B : Bs} {P : Program} {w : World} {K : PySem.W.Frag} {mg : Str → Option Value} {base : Heap}
theorem run_S {n k : Nat} {f : Addr} {fd : FuncData} {ps ks : List Str} {sp : Sp} {E : XK} {W : WX} {g : List Value → List Value → List Value} {gV : List V → List V → List V} {pins : List (Addr × Obj)} {σ : L2.St} {H : Hp} {s : Shared} {A : Around} {Q : VK} {us ws : List Value} {vs zs : List V} (F : FnOk X.prog X.w X.K X.mg X.base (CXe X.prog X.w) k f fd ps sp) (hr : Room k A) (hfr : A.frames = X.A.frames) (hb : KBn X.K fd ps n ks g gV) (tk : Takes X W)
    (I : Inv X pins σ H s) (r : Vals vs us) (rz : Vals zs ws) (l1 : vs.length = n) (l2 : zs.length = ks.length) (h : sp (gV vs zs) H Q E) (hW : ∀ cls d H', E cls d H' → W cls d σ H') : wpAny (model X.prog X.w) A (call (.ref f) us (ks.zip ws)) (EP X pins σ Q) X.xe s := by
  have r2 := hb.rel r rz
  have e0 : Env0 X.prog X.w X.K X.mg X.base A X.stack s H := by
    have e := I.env0
    exact ⟨by rw [hfr]; exact e.frames, e.mod, e.bs, e.bsz, e.funs, e.frf, e.hok, e.bare⟩
  refine wpAny_call (codeAny_mono (F.run A X.stack s H ⟨us, ks.zip ws⟩ (g us ws) (gV vs zs) Q E hr e0 (hb.to s us ws I.kIn (r.length.symm.trans l1) (rz.length.symm.trans l2)) r2 h) fun r s' hq => ?_)
  cases r with
  | error e => exact tk e s' (XE.of_call I hW hq)
  | ok fl =>
    cases fl with
    | ret u => exact I.after hq
    | next => exact False.elim hq
    | brk => exact False.elim hq
    | cont => exact False.elim hq
theorem run_makeS {n k : Nat} {f C : Addr} {fd : FuncData} {ps ks : List Str} {sp : Sp} {W : WX} {g : List Value → List Value → List Value} {gV : List V → List V → List V} {pins : List (Addr × Obj)} {σ : L2.St} {H : Hp} {s : Shared} {Q : VK} {us ws : List Value} {vs zs : List V} (M : Mk X.K C f) (F : FnOk X.prog X.w X.K X.mg X.base (CXe X.prog X.w) k f fd ps sp) (hr : Room (k + 1) X.A) (hb : KBn X.K fd ps (n + 1) ks g gV) (tk : Takes X W)
    (I : Inv X pins σ H s) (r : Vals vs us) (rz : Vals zs ws) (l1 : vs.length = n) (l2 : zs.length = ks.length)
    (h : ∀ x dx, H x = none → H dx = none → dx ≠ x → ∃ E : XK, sp (gV (.ref x :: vs) zs) (upd (upd H dx (.own x)) x (.ins C dx [])) (fun v H2 => v = .non ∧ Q (.ref x) H2) E ∧ ∀ cls d H', E cls d H' → W cls d σ H') :
    wpAny (model X.prog X.w) X.A (call (.ref C) us (ks.zip ws)) (EP X pins σ Q) X.xe s := by
  obtain ⟨E, hq, hW⟩ := h (s.heap.objs.size + 1) s.heap.objs.size (I.hok.fresh (Nat.le_succ _)) (I.hok.fresh (Nat.le_refl _)) (Nat.ne_of_lt (Nat.lt_succ_self _))
  have I2 := Inv.made (C := C) I
  have r1 : Vals (V.ref (s.heap.objs.size + 1) :: vs) (Value.ref (s.heap.objs.size + 1) :: us) := .cons rfl r
  have r2 := hb.rel r1 rz
  have e1 : (Value.ref (s.heap.objs.size + 1) :: us).length = n + 1 := r1.length.symm.trans (congrArg Nat.succ l1)
  have e2 : ws.length = ks.length := rz.length.symm.trans l2
  refine wpAny_call (make_map (f := f) I.kIn M.makes M.init (beq_iff_eq.mp M.fn) (codeAny_mono (F.run _ X.stack _ _ ⟨Value.ref (s.heap.objs.size + 1) :: us, ks.zip ws⟩ (g (Value.ref (s.heap.objs.size + 1) :: us) ws) _ _ E (hr.make C us (ks.zip ws))
    (I2.env0.make C us (ks.zip ws)) (hb.to _ (Value.ref (s.heap.objs.size + 1) :: us) ws I2.kIn e1 e2) r2 hq) fun r s' hq' => ?_))
  cases r with
  | error e => exact tk e s' (XE.of_call I2 hW hq')
  | ok fl =>
    cases fl with
    | ret u =>
      obtain ⟨v, H', I3, rv, ev, q3⟩ := I2.after hq'
      subst ev
      exact ⟨rv, ⟨V.ref (s.heap.objs.size + 1), H', I3, rfl, q3⟩⟩
    | next => exact False.elim hq'
    | brk => exact False.elim hq'
    | cont => exact False.elim hq'
theorem lSp_goX {sp : SpD} {vs : List V} {ds : List D} {H G : Hp} {μ : Mu} {k : KD} {Q : VK} {W : WD} {σ : L2.St} {ρ : SD} (g0 : Same B.g G) (hh : Hold X.K H G B.f μ) (sl : Slots X.K G σ ρ) (r : Ats X.K G vs ds) (q : sp ds μ k fun C fs μ2 => W C fs ρ μ2)
    (kk : ∀ v H' G' d μ', Same G G' → Hold X.K H' G' B.f μ' → At X.K G' v d → k d μ' → Q v H') : lSp X.K sp vs H Q (fun cls d H' => lW X.K B W cls d σ H') :=
  ⟨G, B.f, μ, ds, k, _, hh, r, q, kk, fun C dd H' G' fs μ' s' h' a' w => ⟨G', ρ, μ', C, fs, g0.trans s', h', sl.mono s', a', rfl, w⟩⟩
/-- no error is wished for -/
abbrev w0 : WD := fun _ _ _ _ => False
theorem tk0 : Takes X (lW X.K B w0) := takes0.imp fun _ _ _ _ ⟨_, _, _, _, _, _, _, _, _, _, h⟩ => h
/-- a def's own wish -/
abbrev wX (ex : XD) : WD := fun C fs _ μ => ex C fs μ
/-! ### f(..) -/
structure FnS (P : Program) (w : World) (K : PySem.W.Frag) (mg : Str → Option Value) (base : Heap) (j : Nat) (x : Str) (n : Nat) (ks : List Str) (l : List Pk) (dd : List D) (sp : SpD) : Prop where
  ex : ∃ (f : Addr) (fd : FuncData) (ps : List Str), mg x = some (.ref f) ∧ PySem.W.keepIn K (.ref f) = true ∧ Sh K fd ps n ks l dd ∧ FnOk P w K mg base (CXe P w) j f fd ps (lSp K sp)
def dCallS (n m : Nat) (l : List Pk) (dd : List D) (sp : SpD) (W : WD) (t : TKD) : TED := fun ρ μ k => t ρ μ fun ds es μ1 => ds.length = n ∧ es.length = m ∧ sp (pickL ds dd es l) μ1 k fun C fs μ2 => W C fs ρ μ2
theorem pd_callS {j n : Nat} {x : Str} {ks : List Str} {l : List Pk} {dd : List D} {sp : SpD} {W : WD} {t : TKD} {es : List Expr} {kws : List Keyword} {p pos : Pos} (Fg : FnS P w K mg base j x n ks l dd sp) (hr : Room j X.A) (tk : Takes X (lW X.K B W)) (ha : PDAK X B es kws ks t)
    (hX : XIs X P w K mg base := by exact ⟨rfl, rfl, rfl, rfl, rfl⟩) (hg : Gl X x := by rfl) (hdb : (x == ("__debug__" : Str)) = false := by decide) : PD X B (.Call (.Name x p) es kws pos) (dCallS n ks.length l dd sp W t) := by
  obtain ⟨rfl, rfl, rfl, rfl, rfl⟩ := hX
  obtain ⟨f, fd, ps, hm, hk, ⟨dvs, its, hdd, hb⟩, F⟩ := Fg.ex
  refine ⟨fun pins s σ H Q I ⟨G, ρ, μ, k, g0, hh, sl, q, kk⟩ => ?_⟩
  refine wpAny_Call_Name_kw (ld_glob I hg hm ?_ hdb)
  refine ha.run pos _ [] pins s σ H (fun vs zs H2 => ∃ (G1 : Hp) (ds es : List D) (μ1 : Mu), Same G G1 ∧ Hold X.K H2 G1 B.f μ1 ∧ Ats X.K G1 vs ds ∧ Ats X.K G1 zs es ∧ ds.length = n ∧ es.length = ks.length ∧ sp (pickL ds dd es l) μ1 k fun C fs μ2 => W C fs ρ μ2) _ hk I
    ⟨G, ρ, μ, _, g0, hh, sl, q, fun vs zs H1 G1 ds es μ1 s1 h1 a1 a2 ⟨l1, l2, q1⟩ => ⟨G1, ds, es, μ1, s1, h1, a1, a2, l1, l2, q1⟩⟩ fun us ws vs zs s2 H2 I2 r rz ⟨G1, ds, es, μ1, s1, h1, a1, a2, l1, l2, q1⟩ => ?_
  exact run_S F hr rfl hb tk I2 r rz (a1.length.trans l1) (a2.length.trans l2) (lSp_goX (g0.trans s1) h1 (sl.mono s1) (pick_ats a1 (hdd G1) a2 l) q1 fun v H' G' d μ' s' => kk v H' G' d μ' (s1.trans s')) fun _ _ _ h => h
/-! ### C(..) -/
structure MkS (P : Program) (w : World) (K : PySem.W.Frag) (mg : Str → Option Value) (base : Heap) (j : Nat) (x : Str) (C : Addr) (n : Nat) (ks : List Str) (l : List Pk) (dd : List D) (sp : SpD) : Prop where
  hg : mg x = some (.ref C)
  ex : ∃ (f : Addr) (fd : FuncData) (ps : List Str), Mk K C f ∧ Sh K fd ps (n + 1) ks l dd ∧ FnOk P w K mg base (CXe P w) j f fd ps (lSp K sp)
/-- .. whose things never change behind the making -/
def dMakeS (C : Addr) (n m : Nat) (l : List Pk) (dd : List D) (sp : SpD) (W : WD) (t : TKD) : TED := fun ρ μ k => t ρ μ fun ds es μ1 => ds.length = n ∧ es.length = m ∧ ∀ x, μ1 x = none →
  sp (pickL (.ref x :: ds) dd es l) (mput μ1 x (.ins C [])) (fun v μ2 => v = .non ∧ ∃ fs, μ2 x = some (.ins C fs) ∧ k (.ins C fs) (mdel μ2 x)) fun C' fs μ2 => ∃ gs, μ2 x = some (.ins C gs) ∧ W C' fs ρ (mdel μ2 x)
/-- .. whose things may change -/
def dMakeSM (C : Addr) (n m : Nat) (l : List Pk) (dd : List D) (sp : SpD) (W : WD) (t : TKD) : TED := fun ρ μ k => t ρ μ fun ds es μ1 => ds.length = n ∧ es.length = m ∧ ∀ x, μ1 x = none →
  sp (pickL (.ref x :: ds) dd es l) (mput μ1 x (.ins C [])) (fun v μ2 => v = .non ∧ k (.ref x) μ2) fun C' fs μ2 => ∃ gs, μ2 x = some (.ins C gs) ∧ W C' fs ρ (mdel μ2 x)
theorem Atf.mono' {G G' : Hp} {vs : List (Str × V)} {fs : List (Str × D)} (h : Atf K G vs fs) (s : Same G G') : Atf K G' vs fs := h.mono s
theorem AtX.mono {G G' : Hp} {d : Option Addr} {fs : List (Str × D)} (h : AtX K G d fs) (s : Same G G') : AtX K G' d fs := by
  cases d with
  | none => exact h
  | some a =>
    obtain ⟨vs, h1, h2⟩ := h
    exact ⟨vs, s _ _ h1, h2.mono s⟩
theorem lMakeX {C : Addr} {sp : SpD} {vs : List V} {ds : List D} {H G : Hp} {μ : Mu} {k : KD} {Q : VK} {W : WD} {σ : L2.St} {ρ : SD} {x dx : Addr} (g0 : Same B.g G) (hh : Hold X.K H G B.f μ) (sl : Slots X.K G σ ρ) (r : Ats X.K G vs ds) (nx : H x = none) (nd : H dx = none) (ne : dx ≠ x)
    (q : sp ds (mput μ x (.ins C [])) (fun v μ2 => v = .non ∧ ∃ fs, μ2 x = some (.ins C fs) ∧ k (.ins C fs) (mdel μ2 x)) fun C' fs μ2 => ∃ gs, μ2 x = some (.ins C gs) ∧ W C' fs ρ (mdel μ2 x))
    (kk : ∀ v H' G' d μ', Same G G' → Hold X.K H' G' B.f μ' → At X.K G' v d → k d μ' → Q v H') :
    lSp X.K sp vs (upd (upd H dx (.own x)) x (.ins C dx [])) (fun v H2 => v = .non ∧ Q (.ref x) H2) (fun cls d H' => lW X.K B W cls d σ H') := by
  refine ⟨G, B.f, _, ds, _, _, make_hold hh nx nd ne, r, q, fun v H' G' d μ' s' h' a' ⟨e1, fs, e2, q2⟩ => ?_, fun C' dd H' G' fs μ' s' h' a' ⟨gs, e2, w⟩ => ?_⟩
  · subst e1
    obtain ⟨_, dx', vs', h3, r3⟩ := h'.mu x _ e2
    obtain ⟨h4, s4⟩ := h'.freeze e2 h3
    exact ⟨a'.non_inv, kk _ H' _ _ _ (s'.trans s4) h4 (.ins upd_same (r3.mono s4)) q2⟩
  · obtain ⟨_, dx', vs', h3, r3⟩ := h'.mu x _ e2
    obtain ⟨h4, s4⟩ := h'.freeze e2 h3
    exact ⟨_, ρ, _, C', fs, g0.trans (s'.trans s4), h4, sl.mono (s'.trans s4), a'.mono s4, rfl, w⟩
theorem lMakeMX {C : Addr} {sp : SpD} {vs : List V} {ds : List D} {H G : Hp} {μ : Mu} {k : KD} {Q : VK} {W : WD} {σ : L2.St} {ρ : SD} {x dx : Addr} (g0 : Same B.g G) (hh : Hold X.K H G B.f μ) (sl : Slots X.K G σ ρ) (r : Ats X.K G vs ds) (nx : H x = none) (nd : H dx = none) (ne : dx ≠ x)
    (q : sp ds (mput μ x (.ins C [])) (fun v μ2 => v = .non ∧ k (.ref x) μ2) fun C' fs μ2 => ∃ gs, μ2 x = some (.ins C gs) ∧ W C' fs ρ (mdel μ2 x))
    (kk : ∀ v H' G' d μ', Same G G' → Hold X.K H' G' B.f μ' → At X.K G' v d → k d μ' → Q v H') :
    lSp X.K sp vs (upd (upd H dx (.own x)) x (.ins C dx [])) (fun v H2 => v = .non ∧ Q (.ref x) H2) (fun cls d H' => lW X.K B W cls d σ H') := by
  refine ⟨G, B.f, _, ds, _, _, make_hold hh nx nd ne, r, q, fun v H' G' d μ' s' h' a' ⟨e1, q2⟩ => ?_, fun C' dd H' G' fs μ' s' h' a' ⟨gs, e2, w⟩ => ?_⟩
  · subst e1
    exact ⟨a'.non_inv, kk _ H' _ _ _ s' h' (.ref x) q2⟩
  · obtain ⟨_, dx', vs', h3, r3⟩ := h'.mu x _ e2
    obtain ⟨h4, s4⟩ := h'.freeze e2 h3
    exact ⟨_, ρ, _, C', fs, g0.trans (s'.trans s4), h4, sl.mono (s'.trans s4), a'.mono s4, rfl, w⟩
theorem pd_makeS {j n : Nat} {x : Str} {C : Addr} {ks : List Str} {l : List Pk} {dd : List D} {sp : SpD} {W : WD} {t : TKD} {es : List Expr} {kws : List Keyword} {p pos : Pos} (M : MkS P w K mg base j x C n ks l dd sp) (hr : Room (j + 1) X.A) (tk : Takes X (lW X.K B W)) (ha : PDAK X B es kws ks t)
    (hX : XIs X P w K mg base := by exact ⟨rfl, rfl, rfl, rfl, rfl⟩) (hg : Gl X x := by rfl) (hdb : (x == ("__debug__" : Str)) = false := by decide) : PD X B (.Call (.Name x p) es kws pos) (dMakeS C n ks.length l dd sp W t) := by
  obtain ⟨rfl, rfl, rfl, rfl, rfl⟩ := hX
  obtain ⟨f, fd, ps, hM, ⟨dvs, its, hdd, hb⟩, F⟩ := M.ex
  refine ⟨fun pins s σ H Q I ⟨G, ρ, μ, k, g0, hh, sl, q, kk⟩ => ?_⟩
  refine wpAny_Call_Name_kw (ld_glob I hg M.hg ?_ hdb)
  refine ha.run pos _ [] pins s σ H (fun vs zs H2 => ∃ (G1 : Hp) (ds es : List D) (μ1 : Mu), Same G G1 ∧ Hold X.K H2 G1 B.f μ1 ∧ Ats X.K G1 vs ds ∧ Ats X.K G1 zs es ∧ ds.length = n ∧ es.length = ks.length ∧ ∀ x, μ1 x = none →
      sp (pickL (.ref x :: ds) dd es l) (mput μ1 x (.ins C [])) (fun v μ2 => v = .non ∧ ∃ fs, μ2 x = some (.ins C fs) ∧ k (.ins C fs) (mdel μ2 x)) fun C' fs μ2 => ∃ gs, μ2 x = some (.ins C gs) ∧ W C' fs ρ (mdel μ2 x)) _ hM.kp I
    ⟨G, ρ, μ, _, g0, hh, sl, q, fun vs zs H1 G1 ds es μ1 s1 h1 a1 a2 ⟨l1, l2, q1⟩ => ⟨G1, ds, es, μ1, s1, h1, a1, a2, l1, l2, q1⟩⟩ fun us ws vs zs s2 H2 I2 r rz ⟨G1, ds, es, μ1, s1, h1, a1, a2, l1, l2, q1⟩ => ?_
  refine run_makeS hM F hr hb tk I2 r rz (a1.length.trans l1) (a2.length.trans l2) fun x dx nx nd ne => ⟨_, ?_, fun _ _ _ h => h⟩
  exact lMakeX (g0.trans s1) h1 (sl.mono s1) (pick_ats (.cons (.ref x) a1) (hdd G1) a2 l) nx nd ne (q1 x (h1.mu_none nx)) fun v H' G' d μ' s' => kk v H' G' d μ' (s1.trans s')
theorem pd_makeSM {j n : Nat} {x : Str} {C : Addr} {ks : List Str} {l : List Pk} {dd : List D} {sp : SpD} {W : WD} {t : TKD} {es : List Expr} {kws : List Keyword} {p pos : Pos} (M : MkS P w K mg base j x C n ks l dd sp) (hr : Room (j + 1) X.A) (tk : Takes X (lW X.K B W)) (ha : PDAK X B es kws ks t)
    (hX : XIs X P w K mg base := by exact ⟨rfl, rfl, rfl, rfl, rfl⟩) (hg : Gl X x := by rfl) (hdb : (x == ("__debug__" : Str)) = false := by decide) : PD X B (.Call (.Name x p) es kws pos) (dMakeSM C n ks.length l dd sp W t) := by
  obtain ⟨rfl, rfl, rfl, rfl, rfl⟩ := hX
  obtain ⟨f, fd, ps, hM, ⟨dvs, its, hdd, hb⟩, F⟩ := M.ex
  refine ⟨fun pins s σ H Q I ⟨G, ρ, μ, k, g0, hh, sl, q, kk⟩ => ?_⟩
  refine wpAny_Call_Name_kw (ld_glob I hg M.hg ?_ hdb)
  refine ha.run pos _ [] pins s σ H (fun vs zs H2 => ∃ (G1 : Hp) (ds es : List D) (μ1 : Mu), Same G G1 ∧ Hold X.K H2 G1 B.f μ1 ∧ Ats X.K G1 vs ds ∧ Ats X.K G1 zs es ∧ ds.length = n ∧ es.length = ks.length ∧ ∀ x, μ1 x = none →
      sp (pickL (.ref x :: ds) dd es l) (mput μ1 x (.ins C [])) (fun v μ2 => v = .non ∧ k (.ref x) μ2) fun C' fs μ2 => ∃ gs, μ2 x = some (.ins C gs) ∧ W C' fs ρ (mdel μ2 x)) _ hM.kp I
    ⟨G, ρ, μ, _, g0, hh, sl, q, fun vs zs H1 G1 ds es μ1 s1 h1 a1 a2 ⟨l1, l2, q1⟩ => ⟨G1, ds, es, μ1, s1, h1, a1, a2, l1, l2, q1⟩⟩ fun us ws vs zs s2 H2 I2 r rz ⟨G1, ds, es, μ1, s1, h1, a1, a2, l1, l2, q1⟩ => ?_
  refine run_makeS hM F hr hb tk I2 r rz (a1.length.trans l1) (a2.length.trans l2) fun x dx nx nd ne => ⟨_, ?_, fun _ _ _ h => h⟩
  exact lMakeMX (g0.trans s1) h1 (sl.mono s1) (pick_ats (.cons (.ref x) a1) (hdd G1) a2 l) nx nd ne (q1 x (h1.mu_none nx)) fun v H' G' d μ' s' => kk v H' G' d μ' (s1.trans s')
end
section
variable {α : Type} {as ds ks : List α} {l : List Pk} {x : α} {i : Nat}
theorem q_pickn : pickL as ds ks [] = [] := rfl
theorem q_picka : pickL as ds ks (.a i :: l) = match as[i]? with | some x => x :: pickL as ds ks l | none => pickL as ds ks l := rfl
theorem q_pickd : pickL as ds ks (.d i :: l) = match ds[i]? with | some x => x :: pickL as ds ks l | none => pickL as ds ks l := rfl
theorem q_pickk : pickL as ds ks (.k i :: l) = match ks[i]? with | some x => x :: pickL as ds ks l | none => pickL as ds ks l := rfl
end
end Dl
namespace Lk
open PySem PySem.Spec PyProof.Rows L2 Dl
local macro_rules | `(tactic| walk_at "rd") => `(tactic| first | simp only [dSeq, dNext, dAsg, dRet, dRetN, dIfS, dDrop, dVar, dC, dOp, dUn, dTest, dNil, dCons, dTup, dLst, dLstM, dAndV, dOrV, dNotV, dAnd, dOr, dNot, dIf, dArgs, dCall, dMeth, dFld, dSetF, dApp, dSetI, dFor, dPar, dFrz, dNever, dBreak, dCont, dIs, dRange1, dRange2, dZip, dEnum, dLc, dYes, dChain, dStr, dFmt, dJoin, dJs, dCallS, dMakeS, dMakeSM, dPK, q_pickn, q_picka, q_pickd, q_pickk, q_booli, q_boolb, q_strI, q_s1, q_isid, q_clsT, q_clsR, q_isi_non_int, q_isi_non_bool, q_isi_non_str, q_isi_non_tuple, q_isi_non_list, q_isi_non_dict, q_isi_bl_int, q_isi_bl_bool, q_isi_bl_str, q_isi_bl_tuple, q_isi_bl_list, q_isi_bl_dict, q_isi_int_int, q_isi_int_bool, q_isi_int_str, q_isi_int_tuple, q_isi_int_list, q_isi_int_dict, q_isi_str_int, q_isi_str_bool, q_isi_str_str, q_isi_str_tuple, q_isi_str_list, q_isi_str_dict, q_isi_tup_int, q_isi_tup_bool, q_isi_tup_str, q_isi_tup_tuple, q_isi_tup_list, q_isi_tup_dict, q_isi_lst_int, q_isi_lst_bool, q_isi_lst_str, q_isi_lst_tuple, q_isi_lst_list, q_isi_lst_dict, q_isi_dK_int, q_isi_dK_bool, q_isi_dK_str, q_isi_dK_tuple, q_isi_dK_list, q_isi_dK_dict, wipeD, setAll, rRepr, q_ixl, q_ixt, q_ixr, q_ixs, q_at0, q_at1, q_at2, q_at3, q_ixn0, q_ixn1, q_i2, q_ii, q_u1, q_addi, q_adds, q_eqi, q_eqs, q_eqt2, q_eqnn, q_isn, q_isb, q_isi, q_iss, q_ist, q_isl, q_isx, q_isr, q_lenl, q_lent, q_lens, q_lenr, q_int1, q_inti, q_intb, q_int2, q_insi, q_nm, q_tp, q_rl, q_rt, mput_same, startD, List.map_cons, List.map_nil, List.length_cons, List.length_nil, List.replicate_succ, List.replicate_zero, List.cons_append, List.nil_append, List.append_nil, Nat.add_sub_cancel, Nat.reduceAdd, Nat.reduceSub, Nat.sub_self, List.getElem?_cons_zero, List.getElem?_cons_succ, List.getElem?_nil, List.set_cons_zero, List.set_cons_succ, Option.some.injEq, D.int.injEq, D.bl.injEq, D.ref.injEq, D.lst.injEq, D.tup.injEq, D.str.injEq, MO.lst.injEq, List.cons.injEq, exists_eq_left', exists_eq_left, exists_eq_right, exists_eq_right', exists_and_left, and_assoc, exists_eq, true_and, and_true, reduceCtorEq, decide_eq_true_eq, Bool.xor_false, Bool.xor_true, Bool.not_true, Bool.not_false, decide_true, decide_false, Nat.reduceLeDiff, if_true, if_false, Bool.false_eq_true, Int.reduceToNat, Int.reducePow, ne_eq, Int.reduceEq, not_false_eq_true] | skip)
local macro_rules | `(tactic| walk_at "rdh") => `(tactic| first | simp only [*, dSeq, dNext, dAsg, dRet, dRetN, dIfS, dDrop, dVar, dC, dOp, dUn, dTest, dNil, dCons, dTup, dLst, dLstM, dAndV, dOrV, dNotV, dAnd, dOr, dNot, dIf, dArgs, dCall, dMeth, dFld, dSetF, dApp, dSetI, dFor, dPar, dFrz, dNever, dBreak, dCont, dIs, dRange1, dRange2, dZip, dEnum, dLc, dYes, dChain, dStr, dFmt, dJoin, dJs, dCallS, dMakeS, dMakeSM, dPK, q_pickn, q_picka, q_pickd, q_pickk, q_booli, q_boolb, q_strI, q_s1, q_isid, q_clsT, q_clsR, q_isi_non_int, q_isi_non_bool, q_isi_non_str, q_isi_non_tuple, q_isi_non_list, q_isi_non_dict, q_isi_bl_int, q_isi_bl_bool, q_isi_bl_str, q_isi_bl_tuple, q_isi_bl_list, q_isi_bl_dict, q_isi_int_int, q_isi_int_bool, q_isi_int_str, q_isi_int_tuple, q_isi_int_list, q_isi_int_dict, q_isi_str_int, q_isi_str_bool, q_isi_str_str, q_isi_str_tuple, q_isi_str_list, q_isi_str_dict, q_isi_tup_int, q_isi_tup_bool, q_isi_tup_str, q_isi_tup_tuple, q_isi_tup_list, q_isi_tup_dict, q_isi_lst_int, q_isi_lst_bool, q_isi_lst_str, q_isi_lst_tuple, q_isi_lst_list, q_isi_lst_dict, q_isi_dK_int, q_isi_dK_bool, q_isi_dK_str, q_isi_dK_tuple, q_isi_dK_list, q_isi_dK_dict, wipeD, setAll, rRepr, q_ixl, q_ixt, q_ixr, q_ixs, q_at0, q_at1, q_at2, q_at3, q_ixn0, q_ixn1, q_i2, q_ii, q_u1, q_addi, q_adds, q_eqi, q_eqs, q_eqt2, q_eqnn, q_isn, q_isb, q_isi, q_iss, q_ist, q_isl, q_isx, q_isr, q_lenl, q_lent, q_lens, q_lenr, q_int1, q_inti, q_intb, q_int2, q_insi, q_nm, q_tp, q_rl, q_rt, mput_same, startD, List.map_cons, List.map_nil, List.length_cons, List.length_nil, List.replicate_succ, List.replicate_zero, List.cons_append, List.nil_append, List.append_nil, Nat.add_sub_cancel, Nat.reduceAdd, Nat.reduceSub, Nat.sub_self, List.getElem?_cons_zero, List.getElem?_cons_succ, List.getElem?_nil, List.set_cons_zero, List.set_cons_succ, Option.some.injEq, D.int.injEq, D.bl.injEq, D.ref.injEq, D.lst.injEq, D.tup.injEq, D.str.injEq, MO.lst.injEq, List.cons.injEq, exists_eq_left', exists_eq_left, exists_eq_right, exists_eq_right', exists_and_left, and_assoc, exists_eq, true_and, and_true, reduceCtorEq, decide_eq_true_eq, Bool.xor_false, Bool.xor_true, Bool.not_true, Bool.not_false, decide_true, decide_false, Nat.reduceLeDiff, if_true, if_false, Bool.false_eq_true, Int.reduceToNat, Int.reducePow, ne_eq, Int.reduceEq, not_false_eq_true] | skip)
local macro_rules | `(tactic| walk_at "lp") => `(tactic| first | simp only [q_loopn, q_loopc, q_nm, q_tp, List.length_cons, List.length_nil, true_and] | skip)
def top (i : Nat) : Stmt := PySem.Challenge.pw_switchforms_k71_whole_ratios_reckoned.main.body.getD i (.Pass ⟨0, 0, 0, 0⟩)
abbrev s__law_low : Stmt := top 25
abbrev _law_low_N : List Str := ["_law_high", "_law_under", "_law_one", "_law_other", "_law_rest"]
theorem sc__law_low : FnScope _law_low_N ["_law_high", "_law_under"] (defScope s__law_low) := ⟨rfl, rfl, rfl, by decide +kernel, rfl, by decide +kernel, by decide +kernel⟩
abbrev s__law_is : Stmt := top 27
abbrev _law_is_N : List Str := ["_law_told", "_law_high", "_law_low_here"]
theorem sc__law_is : FnScope _law_is_N ["_law_told", "_law_high", "_law_low_here"] (defScope s__law_is) := ⟨rfl, rfl, rfl, by decide +kernel, rfl, by decide +kernel, by decide +kernel⟩
abbrev s_Ratio___bool__ : Stmt := inClass (top 21) 14
abbrev Ratio___bool___N : List Str := ["self"]
theorem sc_Ratio___bool__ : FnScope Ratio___bool___N ["self"] (defScope s_Ratio___bool__) := ⟨rfl, rfl, rfl, by decide +kernel, rfl, by decide +kernel, by decide +kernel⟩
abbrev s_shared_divisor : Stmt := top 12
abbrev shared_divisor_N : List Str := ["one", "other"]
theorem sc_shared_divisor : FnScope shared_divisor_N ["one", "other"] (defScope s_shared_divisor) := ⟨rfl, rfl, rfl, by decide +kernel, rfl, by decide +kernel, by decide +kernel⟩
abbrev s_is_integer : Stmt := top 9
abbrev is_integer_N : List Str := ["value"]
theorem sc_is_integer : FnScope is_integer_N ["value"] (defScope s_is_integer) := ⟨rfl, rfl, rfl, by decide +kernel, rfl, by decide +kernel, by decide +kernel⟩
abbrev s_Ratio___init__ : Stmt := inClass (top 21) 0
abbrev Ratio___init___N : List Str := ["self", "top", "bottom", "part", "shared"]
theorem sc_Ratio___init__ : FnScope Ratio___init___N ["self", "top", "bottom"] (defScope s_Ratio___init__) := ⟨rfl, rfl, rfl, by decide +kernel, rfl, by decide +kernel, by decide +kernel⟩
abbrev s_Ratio___abs__ : Stmt := inClass (top 21) 13
abbrev Ratio___abs___N : List Str := ["self"]
theorem sc_Ratio___abs__ : FnScope Ratio___abs___N ["self"] (defScope s_Ratio___abs__) := ⟨rfl, rfl, rfl, by decide +kernel, rfl, by decide +kernel, by decide +kernel⟩
abbrev s_Ratio___neg__ : Stmt := inClass (top 21) 12
abbrev Ratio___neg___N : List Str := ["self"]
theorem sc_Ratio___neg__ : FnScope Ratio___neg___N ["self"] (defScope s_Ratio___neg__) := ⟨rfl, rfl, rfl, by decide +kernel, rfl, by decide +kernel, by decide +kernel⟩
abbrev s_bottom_of : Stmt := top 15
abbrev bottom_of_N : List Str := ["value"]
theorem sc_bottom_of : FnScope bottom_of_N ["value"] (defScope s_bottom_of) := ⟨rfl, rfl, rfl, by decide +kernel, rfl, by decide +kernel, by decide +kernel⟩
abbrev s_top_of : Stmt := top 14
abbrev top_of_N : List Str := ["value"]
theorem sc_top_of : FnScope top_of_N ["value"] (defScope s_top_of) := ⟨rfl, rfl, rfl, by decide +kernel, rfl, by decide +kernel, by decide +kernel⟩
abbrev s_quotient_of : Stmt := top 18
abbrev quotient_of_N : List Str := ["one", "other"]
theorem sc_quotient_of : FnScope quotient_of_N ["one", "other"] (defScope s_quotient_of) := ⟨rfl, rfl, rfl, by decide +kernel, rfl, by decide +kernel, by decide +kernel⟩
abbrev s_Ratio_over : Stmt := inClass (top 21) 2
abbrev Ratio_over_N : List Str := ["self", "other"]
theorem sc_Ratio_over : FnScope Ratio_over_N ["self", "other"] (defScope s_Ratio_over) := ⟨rfl, rfl, rfl, by decide +kernel, rfl, by decide +kernel, by decide +kernel⟩
abbrev s_whole_quotient : Stmt := top 19
abbrev whole_quotient_N : List Str := ["one", "other", "found"]
theorem sc_whole_quotient : FnScope whole_quotient_N ["one", "other"] (defScope s_whole_quotient) := ⟨rfl, rfl, rfl, by decide +kernel, rfl, by decide +kernel, by decide +kernel⟩
abbrev s_is_term : Stmt := top 13
abbrev is_term_N : List Str := ["value"]
theorem sc_is_term : FnScope is_term_N ["value"] (defScope s_is_term) := ⟨rfl, rfl, rfl, by decide +kernel, rfl, by decide +kernel, by decide +kernel⟩
abbrev s_Ratio___floordiv__ : Stmt := inClass (top 21) 10
abbrev Ratio___floordiv___N : List Str := ["self", "other"]
theorem sc_Ratio___floordiv__ : FnScope Ratio___floordiv___N ["self", "other"] (defScope s_Ratio___floordiv__) := ⟨rfl, rfl, rfl, by decide +kernel, rfl, by decide +kernel, by decide +kernel⟩
abbrev s_Ratio___rfloordiv__ : Stmt := inClass (top 21) 11
abbrev Ratio___rfloordiv___N : List Str := ["self", "other"]
theorem sc_Ratio___rfloordiv__ : FnScope Ratio___rfloordiv___N ["self", "other"] (defScope s_Ratio___rfloordiv__) := ⟨rfl, rfl, rfl, by decide +kernel, rfl, by decide +kernel, by decide +kernel⟩
abbrev s_Ratio___mul__ : Stmt := inClass (top 21) 8
abbrev Ratio___mul___N : List Str := ["self", "other"]
theorem sc_Ratio___mul__ : FnScope Ratio___mul___N ["self", "other"] (defScope s_Ratio___mul__) := ⟨rfl, rfl, rfl, by decide +kernel, rfl, by decide +kernel, by decide +kernel⟩
abbrev s_Ratio___rmul__ : Stmt := inClass (top 21) 9
abbrev Ratio___rmul___N : List Str := ["self", "other"]
theorem sc_Ratio___rmul__ : FnScope Ratio___rmul___N ["self", "other"] (defScope s_Ratio___rmul__) := ⟨rfl, rfl, rfl, by decide +kernel, rfl, by decide +kernel, by decide +kernel⟩
abbrev s_difference_of : Stmt := top 17
abbrev difference_of_N : List Str := ["one", "other", "top"]
theorem sc_difference_of : FnScope difference_of_N ["one", "other"] (defScope s_difference_of) := ⟨rfl, rfl, rfl, by decide +kernel, rfl, by decide +kernel, by decide +kernel⟩
abbrev s_Ratio___sub__ : Stmt := inClass (top 21) 6
abbrev Ratio___sub___N : List Str := ["self", "other"]
theorem sc_Ratio___sub__ : FnScope Ratio___sub___N ["self", "other"] (defScope s_Ratio___sub__) := ⟨rfl, rfl, rfl, by decide +kernel, rfl, by decide +kernel, by decide +kernel⟩
abbrev s_Ratio___rsub__ : Stmt := inClass (top 21) 7
abbrev Ratio___rsub___N : List Str := ["self", "other"]
theorem sc_Ratio___rsub__ : FnScope Ratio___rsub___N ["self", "other"] (defScope s_Ratio___rsub__) := ⟨rfl, rfl, rfl, by decide +kernel, rfl, by decide +kernel, by decide +kernel⟩
abbrev s_sum_of : Stmt := top 16
abbrev sum_of_N : List Str := ["one", "other", "top"]
theorem sc_sum_of : FnScope sum_of_N ["one", "other"] (defScope s_sum_of) := ⟨rfl, rfl, rfl, by decide +kernel, rfl, by decide +kernel, by decide +kernel⟩
abbrev s_Ratio___add__ : Stmt := inClass (top 21) 4
abbrev Ratio___add___N : List Str := ["self", "other"]
theorem sc_Ratio___add__ : FnScope Ratio___add___N ["self", "other"] (defScope s_Ratio___add__) := ⟨rfl, rfl, rfl, by decide +kernel, rfl, by decide +kernel, by decide +kernel⟩
abbrev s_Ratio___radd__ : Stmt := inClass (top 21) 5
abbrev Ratio___radd___N : List Str := ["self", "other"]
theorem sc_Ratio___radd__ : FnScope Ratio___radd___N ["self", "other"] (defScope s_Ratio___radd__) := ⟨rfl, rfl, rfl, by decide +kernel, rfl, by decide +kernel, by decide +kernel⟩
abbrev s__law_pair_right : Stmt := top 28
abbrev _law_pair_right_N : List Str := ["_law_one", "_law_two", "_law_a", "_law_b", "_law_whole", "_law_high", "_law_low_here", "_law_other", "_law_under"]
theorem sc__law_pair_right : FnScope _law_pair_right_N ["_law_one", "_law_two", "_law_a", "_law_b"] (defScope s__law_pair_right) := ⟨rfl, rfl, rfl, by decide +kernel, rfl, by decide +kernel, by decide +kernel⟩
abbrev s__law_take : Stmt := top 24
abbrev _law_take_N : List Str := ["_law_pool_here", "_law_many", "_law_found"]
theorem sc__law_take : FnScope _law_take_N ["_law_pool_here", "_law_many"] (defScope s__law_take) := ⟨rfl, rfl, rfl, by decide +kernel, rfl, by decide +kernel, by decide +kernel⟩
abbrev s__law_drawn : Stmt := top 26
abbrev _law_drawn_N : List Str := ["_law_pool_here", "_law_least", "_law_great", "_law_found"]
theorem sc__law_drawn : FnScope _law_drawn_N ["_law_pool_here", "_law_least"] (defScope s__law_drawn) := ⟨rfl, rfl, rfl, by decide +kernel, rfl, by decide +kernel, by decide +kernel⟩
abbrev s__law_pool : Stmt := top 23
abbrev _law_pool_N : List Str := ["_law_script", "_law_k", "_law_cell", "_law_great", "_law_seed"]
theorem sc__law_pool : FnScope _law_pool_N ["_law_script", "_law_k"] (defScope s__law_pool) := ⟨rfl, rfl, rfl, by decide +kernel, rfl, by decide +kernel, by decide +kernel⟩
abbrev s_law : Stmt := top 29
abbrev law_N : List Str := ["_law_script", "_law_k", "_law_pool_here", "_law_rows", "_law_one", "_law_two", "_law_plain", "_law_factor", "_law_number"]
theorem sc_law : FnScope law_N ["_law_script"] (defScope s_law) := ⟨rfl, rfl, rfl, by decide +kernel, rfl, by decide +kernel, by decide +kernel⟩
/-! ### what the top has written -/
structure Tx (K : PySem.W.Frag) (mg : Str → Option Value) : Prop where
  g_law : mg "law" = some (.ref (He.ga K "law"))
  d_law : ∃ fd, FunD K "law" "law" (defArgs s_law) (defBody s_law) (defScope s_law) [] [] (He.fAd K ("law", none)) fd
  no_len : mg "len" = none
  no_min : mg "min" = none
  no_max : mg "max" = none
  no_range : mg "range" = none
  d__law_is : ∃ fd, FunD K "_law_is" "_law_is" (defArgs s__law_is) (defBody s__law_is) (defScope s__law_is) [] [] (He.fAd K ("_law_is", none)) fd
  fld_Ratio_bottom : Fld K (He.ga K "Ratio") "bottom"
  fld_Ratio_top : Fld K (He.ga K "Ratio") "top"
  d__law_low : ∃ fd, FunD K "_law_low" "_law_low" (defArgs s__law_low) (defBody s__law_low) (defScope s__law_low) [] [] (He.fAd K ("_law_low", none)) fd
  no_int : mg "int" = none
  no_abs : mg "abs" = none
  no_isinstance : mg "isinstance" = none
  g_Ratio : mg "Ratio" = some (.ref (He.ga K "Ratio"))
  d_Ratio___bool__ : ∃ fd, FunD K "__bool__" "Ratio.__bool__" (defArgs s_Ratio___bool__) (defBody s_Ratio___bool__) (defScope s_Ratio___bool__) [] [] (He.fAd K ("Ratio", some "__bool__")) fd
  no_bool : mg "bool" = none
  no_repr : mg "repr" = none
  d_Ratio___abs__ : ∃ fd, FunD K "__abs__" "Ratio.__abs__" (defArgs s_Ratio___abs__) (defBody s_Ratio___abs__) (defScope s_Ratio___abs__) [] [] (He.fAd K ("Ratio", some "__abs__")) fd
  d_Ratio___init__ : ∃ fd, FunD K "__init__" "Ratio.__init__" (defArgs s_Ratio___init__) (defBody s_Ratio___init__) (defScope s_Ratio___init__) [.int 1] [] (He.fAd K ("Ratio", some "__init__")) fd
  d_shared_divisor : ∃ fd, FunD K "shared_divisor" "shared_divisor" (defArgs s_shared_divisor) (defBody s_shared_divisor) (defScope s_shared_divisor) [] [] (He.fAd K ("shared_divisor", none)) fd
  d_is_integer : ∃ fd, FunD K "is_integer" "is_integer" (defArgs s_is_integer) (defBody s_is_integer) (defScope s_is_integer) [] [] (He.fAd K ("is_integer", none)) fd
  d_Ratio___neg__ : ∃ fd, FunD K "__neg__" "Ratio.__neg__" (defArgs s_Ratio___neg__) (defBody s_Ratio___neg__) (defScope s_Ratio___neg__) [] [] (He.fAd K ("Ratio", some "__neg__")) fd
  d__law_pair_right : ∃ fd, FunD K "_law_pair_right" "_law_pair_right" (defArgs s__law_pair_right) (defBody s__law_pair_right) (defScope s__law_pair_right) [] [] (He.fAd K ("_law_pair_right", none)) fd
  d_Ratio_over : ∃ fd, FunD K "over" "Ratio.over" (defArgs s_Ratio_over) (defBody s_Ratio_over) (defScope s_Ratio_over) [] [] (He.fAd K ("Ratio", some "over")) fd
  d_quotient_of : ∃ fd, FunD K "quotient_of" "quotient_of" (defArgs s_quotient_of) (defBody s_quotient_of) (defScope s_quotient_of) [] [] (He.fAd K ("quotient_of", none)) fd
  d_bottom_of : ∃ fd, FunD K "bottom_of" "bottom_of" (defArgs s_bottom_of) (defBody s_bottom_of) (defScope s_bottom_of) [] [] (He.fAd K ("bottom_of", none)) fd
  d_top_of : ∃ fd, FunD K "top_of" "top_of" (defArgs s_top_of) (defBody s_top_of) (defScope s_top_of) [] [] (He.fAd K ("top_of", none)) fd
  d_Ratio___floordiv__ : ∃ fd, FunD K "__floordiv__" "Ratio.__floordiv__" (defArgs s_Ratio___floordiv__) (defBody s_Ratio___floordiv__) (defScope s_Ratio___floordiv__) [] [] (He.fAd K ("Ratio", some "__floordiv__")) fd
  d_whole_quotient : ∃ fd, FunD K "whole_quotient" "whole_quotient" (defArgs s_whole_quotient) (defBody s_whole_quotient) (defScope s_whole_quotient) [] [] (He.fAd K ("whole_quotient", none)) fd
  d_is_term : ∃ fd, FunD K "is_term" "is_term" (defArgs s_is_term) (defBody s_is_term) (defScope s_is_term) [] [] (He.fAd K ("is_term", none)) fd
  self_Ratio : PySem.W.selfFirst K (He.ga K "Ratio") = true
  me_Ratio___rfloordiv__ : Meth K (He.ga K "Ratio") "__rfloordiv__" (He.fAd K ("Ratio", some "__rfloordiv__"))
  d_Ratio___rfloordiv__ : ∃ fd, FunD K "__rfloordiv__" "Ratio.__rfloordiv__" (defArgs s_Ratio___rfloordiv__) (defBody s_Ratio___rfloordiv__) (defScope s_Ratio___rfloordiv__) [] [] (He.fAd K ("Ratio", some "__rfloordiv__")) fd
  si_Ratio : PySem.W.subIn K (.ref (He.ga K "Ratio")) (.type "int") = some false
  d_Ratio___mul__ : ∃ fd, FunD K "__mul__" "Ratio.__mul__" (defArgs s_Ratio___mul__) (defBody s_Ratio___mul__) (defScope s_Ratio___mul__) [] [] (He.fAd K ("Ratio", some "__mul__")) fd
  me_Ratio___rmul__ : Meth K (He.ga K "Ratio") "__rmul__" (He.fAd K ("Ratio", some "__rmul__"))
  d_Ratio___rmul__ : ∃ fd, FunD K "__rmul__" "Ratio.__rmul__" (defArgs s_Ratio___rmul__) (defBody s_Ratio___rmul__) (defScope s_Ratio___rmul__) [] [] (He.fAd K ("Ratio", some "__rmul__")) fd
  d_Ratio___sub__ : ∃ fd, FunD K "__sub__" "Ratio.__sub__" (defArgs s_Ratio___sub__) (defBody s_Ratio___sub__) (defScope s_Ratio___sub__) [] [] (He.fAd K ("Ratio", some "__sub__")) fd
  d_difference_of : ∃ fd, FunD K "difference_of" "difference_of" (defArgs s_difference_of) (defBody s_difference_of) (defScope s_difference_of) [] [] (He.fAd K ("difference_of", none)) fd
  me_Ratio___rsub__ : Meth K (He.ga K "Ratio") "__rsub__" (He.fAd K ("Ratio", some "__rsub__"))
  d_Ratio___rsub__ : ∃ fd, FunD K "__rsub__" "Ratio.__rsub__" (defArgs s_Ratio___rsub__) (defBody s_Ratio___rsub__) (defScope s_Ratio___rsub__) [] [] (He.fAd K ("Ratio", some "__rsub__")) fd
  d_Ratio___add__ : ∃ fd, FunD K "__add__" "Ratio.__add__" (defArgs s_Ratio___add__) (defBody s_Ratio___add__) (defScope s_Ratio___add__) [] [] (He.fAd K ("Ratio", some "__add__")) fd
  d_sum_of : ∃ fd, FunD K "sum_of" "sum_of" (defArgs s_sum_of) (defBody s_sum_of) (defScope s_sum_of) [] [] (He.fAd K ("sum_of", none)) fd
  me_Ratio___radd__ : Meth K (He.ga K "Ratio") "__radd__" (He.fAd K ("Ratio", some "__radd__"))
  d_Ratio___radd__ : ∃ fd, FunD K "__radd__" "Ratio.__radd__" (defArgs s_Ratio___radd__) (defBody s_Ratio___radd__) (defScope s_Ratio___radd__) [] [] (He.fAd K ("Ratio", some "__radd__")) fd
  d__law_drawn : ∃ fd, FunD K "_law_drawn" "_law_drawn" (defArgs s__law_drawn) (defBody s__law_drawn) (defScope s__law_drawn) [] [] (He.fAd K ("_law_drawn", none)) fd
  d__law_take : ∃ fd, FunD K "_law_take" "_law_take" (defArgs s__law_take) (defBody s__law_take) (defScope s__law_take) [] [] (He.fAd K ("_law_take", none)) fd
  d__law_pool : ∃ fd, FunD K "_law_pool" "_law_pool" (defArgs s__law_pool) (defBody s__law_pool) (defScope s__law_pool) [] [] (He.fAd K ("_law_pool", none)) fd
  g__law_low : mg "_law_low" = some (.ref (He.ga K "_law_low"))
  g__law_is : mg "_law_is" = some (.ref (He.ga K "_law_is"))
  me_Ratio___bool__ : Meth K (He.ga K "Ratio") "__bool__" (He.fAd K ("Ratio", some "__bool__"))
  g_shared_divisor : mg "shared_divisor" = some (.ref (He.ga K "shared_divisor"))
  g_is_integer : mg "is_integer" = some (.ref (He.ga K "is_integer"))
  m_Ratio : Mk K (He.ga K "Ratio") (He.fAd K ("Ratio", some "__init__"))
  me_Ratio___abs__ : Meth K (He.ga K "Ratio") "__abs__" (He.fAd K ("Ratio", some "__abs__"))
  me_Ratio___neg__ : Meth K (He.ga K "Ratio") "__neg__" (He.fAd K ("Ratio", some "__neg__"))
  g_bottom_of : mg "bottom_of" = some (.ref (He.ga K "bottom_of"))
  g_top_of : mg "top_of" = some (.ref (He.ga K "top_of"))
  g_quotient_of : mg "quotient_of" = some (.ref (He.ga K "quotient_of"))
  me_Ratio_over : Meth K (He.ga K "Ratio") "over" (He.fAd K ("Ratio", some "over"))
  cl_Ratio : Cls K (He.ga K "Ratio")
  g_whole_quotient : mg "whole_quotient" = some (.ref (He.ga K "whole_quotient"))
  g_is_term : mg "is_term" = some (.ref (He.ga K "is_term"))
  me_Ratio___floordiv__ : Meth K (He.ga K "Ratio") "__floordiv__" (He.fAd K ("Ratio", some "__floordiv__"))
  me_Ratio___mul__ : Meth K (He.ga K "Ratio") "__mul__" (He.fAd K ("Ratio", some "__mul__"))
  g_difference_of : mg "difference_of" = some (.ref (He.ga K "difference_of"))
  me_Ratio___sub__ : Meth K (He.ga K "Ratio") "__sub__" (He.fAd K ("Ratio", some "__sub__"))
  g_sum_of : mg "sum_of" = some (.ref (He.ga K "sum_of"))
  me_Ratio___add__ : Meth K (He.ga K "Ratio") "__add__" (He.fAd K ("Ratio", some "__add__"))
  g__law_pair_right : mg "_law_pair_right" = some (.ref (He.ga K "_law_pair_right"))
  g__law_take : mg "_law_take" = some (.ref (He.ga K "_law_take"))
  g__law_drawn : mg "_law_drawn" = some (.ref (He.ga K "_law_drawn"))
  g__law_pool : mg "_law_pool" = some (.ref (He.ga K "_law_pool"))
  ic_Ratio : InsC K (He.ga K "Ratio")
  k_int_Ratio : PySem.W.kitOne K (.type "int") (.ref (He.ga K "Ratio")) = some false
theorem sb_bottom_over : (("bottom" : Str) == "over") = false := by decide +kernel
theorem se_bottom_over : (("bottom" : Str) = "over") = False := eq_false (by decide +kernel)
theorem sb_bottom_top : (("bottom" : Str) == "top") = false := by decide +kernel
theorem se_bottom_top : (("bottom" : Str) = "top") = False := eq_false (by decide +kernel)
theorem sb_over_bottom : (("over" : Str) == "bottom") = false := by decide +kernel
theorem se_over_bottom : (("over" : Str) = "bottom") = False := eq_false (by decide +kernel)
theorem sb_over_top : (("over" : Str) == "top") = false := by decide +kernel
theorem se_over_top : (("over" : Str) = "top") = False := eq_false (by decide +kernel)
theorem sb_top_bottom : (("top" : Str) == "bottom") = false := by decide +kernel
theorem se_top_bottom : (("top" : Str) = "bottom") = False := eq_false (by decide +kernel)
theorem sb_top_over : (("top" : Str) == "over") = false := by decide +kernel
theorem se_top_over : (("top" : Str) = "over") = False := eq_false (by decide +kernel)
local macro_rules | `(tactic| walk_at "fl") => `(tactic| first | simp only [putD, List.lookup_cons, List.lookup_nil, beq_self_eq_true, if_true, if_false, List.length_cons, List.length_nil, Nat.reduceAdd, Nat.reduceLT, Option.some.injEq, exists_eq_left', true_and, sb_bottom_over, se_bottom_over, sb_bottom_top, se_bottom_top, sb_over_bottom, se_over_bottom, sb_over_top, se_over_top, sb_top_bottom, se_top_bottom, sb_top_over, se_top_over] | skip)
section
variable {P : Program} {w : World} {K : PySem.W.Frag} {mg : Str → Option Value} {base : Heap}
def ratD (K : PySem.W.Frag) (t b : Int) : D := .ins (He.ga K "Ratio") [("top", .int t), ("bottom", .int b)]
/-- by what a fraction is brought to lowest terms -/
def sg (t b : Int) : Int := if b < 0 then -(Int.gcd t b : Nat) else (Int.gcd t b : Nat)
def redT (t b : Int) : Int := t.fdiv (sg t b)
def redB (t b : Int) : Int := b.fdiv (sg t b)
def Term (K : PySem.W.Frag) (d : D) (t b : Int) : Prop := (d = .int t ∧ b = 1) ∨ d = ratD K t b
/-- a number of at most so many bits -/
def Sm (i : Int) : Prop := i.natAbs < 2 ^ 2000
theorem fdiv_scale {g x y : Int} (hg : g ≠ 0) : (g * x).fdiv (g * y) = x.fdiv y := by
  by_cases p : 0 < g
  · exact Int.mul_fdiv_mul_of_pos _ _ p
  · have e1 : g * x = -((-g) * x) := by rw [Int.neg_mul, Int.neg_neg]
    have e2 : g * y = -((-g) * y) := by rw [Int.neg_mul, Int.neg_neg]
    rw [e1, e2, Int.neg_fdiv_neg]
    exact Int.mul_fdiv_mul_of_pos _ _ (by omega)
theorem sg_ne {t b : Int} (h : b ≠ 0) : sg t b ≠ 0 := by
  have g : Int.gcd t b ≠ 0 := fun e => h (Int.gcd_eq_zero_iff.mp e).2
  unfold sg
  split <;> omega
theorem sg_scale {g t b : Int} (hg : g ≠ 0) (hb : b ≠ 0) : sg (g * t) (g * b) = g * sg t b := by
  have e : (Int.gcd (g * t) (g * b) : Int) = (g.natAbs : Int) * (Int.gcd t b : Int) := by
    rw [Int.gcd_mul_left, Int.natCast_mul]
  unfold sg
  rw [e]
  by_cases p : 0 < g
  · have a : (g.natAbs : Int) = g := Int.natAbs_of_nonneg (by omega)
    rw [a]
    by_cases q : b < 0
    · rw [if_pos q, if_pos (Int.mul_neg_of_pos_of_neg p q), Int.mul_neg]
    · rw [if_neg q, if_neg (by have := Int.mul_pos p (show 0 < b by omega); omega)]
  · have a : (g.natAbs : Int) = -g := by omega
    rw [a]
    by_cases q : b < 0
    · rw [if_pos q, if_neg (by have := Int.mul_pos_of_neg_of_neg (show g < 0 by omega) q; omega), Int.mul_neg, Int.neg_mul]
    · rw [if_neg q, if_pos (Int.mul_neg_of_neg_of_pos (show g < 0 by omega) (show 0 < b by omega)), Int.neg_mul, Int.neg_neg]
theorem red_scale {g t b : Int} (hg : g ≠ 0) (hb : b ≠ 0) : redT (g * t) (g * b) = redT t b ∧ redB (g * t) (g * b) = redB t b := by
  unfold redT redB
  rw [sg_scale hg hb, fdiv_scale hg, fdiv_scale hg]
  exact ⟨rfl, rfl⟩
/-- what a fraction in lowest terms is -/
theorem red_is (t : Int) {b : Int} (h : b ≠ 0) : ∃ g : Int, g ≠ 0 ∧ t = g * redT t b ∧ b = g * redB t b ∧ (redT t b).natAbs ≤ t.natAbs ∧ 0 < redB t b ∧ (redB t b).natAbs ≤ b.natAbs := by
  have hg := sg_ne (t := t) h
  have hgc : (sg t b).natAbs = Int.gcd t b := by
    unfold sg
    split <;> omega
  have d1 : sg t b ∣ t := Int.natAbs_dvd.mp (by rw [hgc]; exact Int.gcd_dvd_left t b)
  have d2 : sg t b ∣ b := Int.natAbs_dvd.mp (by rw [hgc]; exact Int.gcd_dvd_right t b)
  have e1 : t = sg t b * redT t b := (Int.mul_fdiv_cancel' d1).symm
  have e2 : b = sg t b * redB t b := (Int.mul_fdiv_cancel' d2).symm
  refine ⟨sg t b, hg, e1, e2, ?_, ?_, ?_⟩
  · have : t.natAbs = (sg t b).natAbs * (redT t b).natAbs := by rw [← Int.natAbs_mul, ← e1]
    rw [this]
    exact Nat.le_mul_of_pos_left _ (by omega)
  · by_cases q : 0 < redB t b
    · exact q
    · exfalso
      have hz : redB t b ≠ 0 := fun z => by rw [z, Int.mul_zero] at e2; exact h e2
      have hgn : 0 < (Int.gcd t b : Nat) := by omega
      by_cases s : b < 0
      · have hs : sg t b = -(Int.gcd t b : Nat) := by unfold sg; rw [if_pos s]
        have := Int.mul_pos_of_neg_of_neg (show sg t b < 0 by omega) (show redB t b < 0 by omega)
        omega
      · have hs : sg t b = (Int.gcd t b : Nat) := by unfold sg; rw [if_neg s]
        have := Int.mul_neg_of_pos_of_neg (show 0 < sg t b by omega) (show redB t b < 0 by omega)
        omega
  · have : b.natAbs = (sg t b).natAbs * (redB t b).natAbs := by rw [← Int.natAbs_mul, ← e2]
    rw [this]
    exact Nat.le_mul_of_pos_left _ (by omega)
theorem red_fdiv (t : Int) {b : Int} (h : b ≠ 0) : (redT t b).fdiv (redB t b) = t.fdiv b := by
  obtain ⟨g, hg, e1, e2, _⟩ := red_is t h
  have e := fdiv_scale (x := redT t b) (y := redB t b) hg
  rw [← e1, ← e2] at e
  exact e.symm
theorem sm_prod {i j : Int} (h : Sm i) (h' : Sm j) : (i * j).natAbs < 2 ^ 4000 := by
  rw [Int.natAbs_mul]
  have e : (2 : Nat) ^ 4000 = 2 ^ 2000 * 2 ^ 2000 := by rw [← Nat.pow_add]
  rw [e]
  exact Nat.mul_lt_mul'' h h'
theorem sm_prod8 {i j : Int} (h : Sm i) (h' : Sm j) : (i * j).natAbs < 2 ^ 8000 := Nat.lt_trans (sm_prod h h') (Nat.pow_lt_pow_right (by decide) (by decide))
theorem sm_mul' {i j : Int} (h : Sm i) (h' : Sm j) : CMulD i j := .inr (wide_mul (a := 2000) (b := 2000) h h' (by decide) (by decide) (by decide))
def PoolAt (μ : Mu) (p : Addr) : Prop := ∃ g s : Int, μ p = some (.lst [.int g, .int s]) ∧ 0 ≤ g ∧ 0 ≤ s ∧ s < 2147483647
theorem low_end {t b : Int} {μ : Mu} {k : KD} (hb : b ≠ 0) (hs : b.natAbs < 2 ^ 8000) (h : k (.tup [.int (redT t b), .int (redB t b)]) μ) :
    if b < 0 then CDivD (-t) (Int.gcd t b : Nat) ∧ CDivD (-b) (Int.gcd t b : Nat) ∧ k (.tup [.int ((-t).fdiv (Int.gcd t b : Nat)), .int ((-b).fdiv (Int.gcd t b : Nat))]) μ
    else CDivD t (Int.gcd t b : Nat) ∧ CDivD b (Int.gcd t b : Nat) ∧ k (.tup [.int (t.fdiv (Int.gcd t b : Nat)), .int (b.fdiv (Int.gcd t b : Nat))]) μ := by
  have g0 : Int.gcd t b ≠ 0 := fun e => hb (Int.gcd_eq_zero_iff.mp e).2
  have g1 : (Int.gcd t b).log2 < 9000 := by
    have h2 : Int.gcd t b ≤ b.natAbs := Nat.le_of_dvd (by omega) (Int.gcd_dvd_natAbs_right t b)
    have h3 : (Int.gcd t b).log2 < 8000 := (Nat.log2_lt g0).mpr (Nat.lt_of_le_of_lt h2 hs)
    omega
  unfold redT redB sg at h
  by_cases q : b < 0
  · rw [if_pos q] at h ⊢
    have e : ∀ x : Int, (-x).fdiv (Int.gcd t b : Nat) = x.fdiv (-(Int.gcd t b : Nat)) := fun x => by rw [← Int.neg_fdiv_neg, Int.neg_neg]
    rw [e, e]
    exact ⟨⟨by omega, g1⟩, ⟨by omega, g1⟩, h⟩
  · rw [if_neg q] at h ⊢
    exact ⟨⟨by omega, g1⟩, ⟨by omega, g1⟩, h⟩
def sp__law_low (K : PySem.W.Frag) : SpD := fun ds μ k _ => ∃ (t b : Int), ds = [.int t, .int b] ∧ b ≠ 0 ∧ b.natAbs < 2 ^ 8000 ∧ k (.tup [.int (redT t b), .int (redB t b)]) μ
def t__law_low_b1 (K : PySem.W.Frag) (ex : XD) : TSD :=
  (dSeq (dAsg (dOp rModD (dArgs rIntD (dCons (dVar 2) dNil)) (dVar 3)) (.nm 4))
  (dSeq (dAsg (dVar 3) (.nm 2))
  (dAsg (dVar 4) (.nm 3))))
def t__law_low (K : PySem.W.Frag) (ex : XD) : TSD :=
  (dSeq (dPar 2 3 (dCons (dArgs (rInt1 fun i => .int (if i < 0 then -i else i)) (dCons (dVar 0) dNil)) (dCons (dArgs (rInt1 fun i => .int (if i < 0 then -i else i)) (dCons (dVar 1) dNil)) dNil)))
  (dSeq (dWhile (dTest (dOp (rEqB true) (dVar 3) (dC (.int 0)))) (t__law_low_b1 K ex))
  (dSeq (dIfS (dTest (dOp rLtD (dVar 1) (dC (.int 0)))) (dRet (dTup (dCons (dOp rFdivD (dUn (rU1 fun i => .int (-i)) (dVar 0)) (dVar 2)) (dCons (dOp rFdivD (dUn (rU1 fun i => .int (-i)) (dVar 1)) (dVar 2)) dNil)))) dNext)
  (dRet (dTup (dCons (dOp rFdivD (dVar 0) (dVar 2)) (dCons (dOp rFdivD (dVar 1) (dVar 2)) dNil)))))))
set_option maxHeartbeats 4000000 in
theorem ok__law_low (T : Tx K mg) : ∃ fd, FunD K "_law_low" "_law_low" (defArgs s__law_low) (defBody s__law_low) (defScope s__law_low) [] [] (He.fAd K ("_law_low", none)) fd ∧ Binds K fd ["_law_high", "_law_under"] [] ∧ FnOk P w K mg base (CXe P w) 1 (He.fAd K ("_law_low", none)) fd ["_law_high", "_law_under"] (lSp K (sp__law_low K)) := by
  obtain ⟨fd, F⟩ := T.d__law_low
  refine ⟨fd, F, F.bindsN (fun _ _ _ _ _ _ us hl => match us, hl with | [_, _], _ => rfl), ?_⟩
  refine okD (t := t__law_low K) F sc__law_low ?l ?b ?r
  case l =>
    intro ds μ k ex h
    obtain ⟨_, _, rfl, _⟩ := h; rfl
  case b =>
    intro cdv A outer s H E B ex hr tk
    have hp := passes_of (X := cxOf (CXe P w) P w K mg base _law_low_N "_law_low" (defScope s__law_low) (He.fAd K ("_law_low", none)) cdv A outer s H E) rfl
    exact (pdb_cons (pds_par (i := 2) (j := 3) rfl sc__law_low.nd (pda_cons (pd_fnB cd_abs T.no_abs (pda_cons (pd_var 0) pda_nil)) (pda_cons (pd_fnB cd_abs T.no_abs (pda_cons (pd_var 1) pda_nil)) pda_nil)))
    (pdb_cons (pds_while hp (pdt_cmp (od_ne hr.units) (pd_var 3) pd_int (nomark _)) (pdb_cons (pds_set (i := 4) sc__law_low.nd (pd_op od_mod (pd_fnT cd_int T.no_int (pda_cons (pd_var 2) pda_nil)) (pd_var 3)))
    (pdb_cons (pds_set (i := 2) sc__law_low.nd (pd_var 3))
    (pdb_one (pds_set (i := 3) sc__law_low.nd (pd_var 4))))))
    (pdb_cons (pds_if (pdt_cmp od_lt (pd_var 1) pd_int (nomark _)) (pdb_one (pds_ret (pd_tup (pda_cons (pd_op od_fdiv (pd_un ud_neg (pd_var 0)) (pd_var 2)) (pda_cons (pd_op od_fdiv (pd_un ud_neg (pd_var 1)) (pd_var 2)) pda_nil))))) pdb_nil)
    (pdb_one (pds_ret (pd_tup (pda_cons (pd_op od_fdiv (pd_var 0) (pd_var 2)) (pda_cons (pd_op od_fdiv (pd_var 1) (pd_var 2)) pda_nil))))))))
  case r =>
    intro ds μ k ex h
    unfold t__law_low
    obtain ⟨t, b, rfl, hb, hs, h⟩ := h
    walk_at "rd"
    refine ⟨fun m ρ μ' => μ' = μ ∧ ∃ (x y : Nat) (o : Option D), ρ = [some (.int t), some (.int b), some (.int x), some (.int y), o] ∧ Nat.gcd x y = Int.gcd t b ∧ m = y, ⟨b.natAbs, rfl, t.natAbs, b.natAbs, none, ?_, rfl, rfl⟩, ?_⟩
    · have e : ∀ i : Int, (if i < 0 then -i else i) = (i.natAbs : Int) := fun i => by split <;> omega
      rw [e, e]
    · rintro m ρ μ' ⟨rfl, x, y, o, rfl, hg, em⟩
      walk_at "rd"
      by_cases hy : y = 0
      · subst hy
        refine iteNS (by rfl) ?_
        rw [Nat.gcd_zero_right] at hg
        subst hg
        walk_at "rd"
        have fin := low_end hb hs h
        by_cases q : b < 0
        · rw [if_pos q] at fin ⊢
          walk_at "rd"
          exact fin
        · rw [if_neg q] at fin ⊢
          walk_at "rd"
          exact fin
      · rw [decide_eq_false (by omega)]
        refine iteT ⟨fun ρ μ2 => μ2 = μ' ∧ ∃ o, ρ = [some (.int t), some (.int b), some (.int y), some (.int (x % y : Nat)), o], ?_, ?_⟩
        · rintro ρ' μ2 ⟨rfl, o, rfl⟩
          exact ⟨x % y, by rw [em]; exact Nat.mod_lt _ (Nat.pos_of_ne_zero hy), rfl, y, x % y, o, rfl, by rw [← hg, Nat.gcd_comm x y, Nat.gcd_rec y x, Nat.gcd_comm], rfl⟩
        · unfold t__law_low_b1
          walk_at "rd"
          refine ⟨by omega, ?_⟩
          rw [Int.fmod_eq_emod_of_nonneg _ (by omega)]
          rfl
theorem fn__law_low (T : Tx K mg) : FnG P w K mg base 1 "_law_low" ["_law_high", "_law_under"] (sp__law_low K) := by
  obtain ⟨fd, F, hb, ok⟩ := ok__law_low (P := P) (w := w) (base := base) T
  exact ⟨⟨_, fd, T.g__law_low, F.kp, hb, ok⟩⟩
def sp__law_is (K : PySem.W.Frag) : SpD := fun ds μ k _ => ∃ (x y g h l : Int), ds = [ratD K (redT x y) (redB x y), .int h, .int l] ∧ y ≠ 0 ∧ g ≠ 0 ∧ h = g * x ∧ l = g * y ∧ l.natAbs < 2 ^ 8000 ∧ k (.bl true) μ
def t__law_is (K : PySem.W.Frag) (ex : XD) : TSD :=
  (dSeq (dIfS (dOr (dNot (dTest (dArgs (rIsiD K) (dCons (dVar 0) (dCons (dC (.ref (He.ga K "Ratio"))) dNil))))) (dOr (dNot (dTest (dArgs (rIsiD K) (dCons (dFld (He.ga K "Ratio") "top" (dVar 0)) (dCons (dC (.ty "int")) dNil))))) (dNot (dTest (dArgs (rIsiD K) (dCons (dFld (He.ga K "Ratio") "bottom" (dVar 0)) (dCons (dC (.ty "int")) dNil))))))) (dRet (dC (.bl false))) dNext)
  (dRet (dOp (rEqB false) (dTup (dCons (dFld (He.ga K "Ratio") "top" (dVar 0)) (dCons (dFld (He.ga K "Ratio") "bottom" (dVar 0)) dNil))) (dCall (sp__law_low K) (dCons (dVar 1) (dCons (dVar 2) dNil))))))
set_option maxHeartbeats 4000000 in
theorem ok__law_is (T : Tx K mg) : ∃ fd, FunD K "_law_is" "_law_is" (defArgs s__law_is) (defBody s__law_is) (defScope s__law_is) [] [] (He.fAd K ("_law_is", none)) fd ∧ Binds K fd ["_law_told", "_law_high", "_law_low_here"] [] ∧ FnOk P w K mg base (CXe P w) 2 (He.fAd K ("_law_is", none)) fd ["_law_told", "_law_high", "_law_low_here"] (lSp K (sp__law_is K)) := by
  obtain ⟨fd, F⟩ := T.d__law_is
  refine ⟨fd, F, F.bindsN (fun _ _ _ _ _ _ us hl => match us, hl with | [_, _, _], _ => rfl), ?_⟩
  refine okD (t := t__law_is K) F sc__law_is ?l ?b ?r
  case l =>
    intro ds μ k ex h
    obtain ⟨_, _, _, _, _, rfl, _⟩ := h; rfl
  case b =>
    intro cdv A outer s H E B ex hr tk
    have hp := passes_of (X := cxOf (CXe P w) P w K mg base _law_is_N "_law_is" (defScope s__law_is) (He.fAd K ("_law_is", none)) cdv A outer s H E) rfl
    exact (pdb_cons (pds_if (pdt_w (pdw_or (pdt_not (pdt_val (pd_fnB cd_isi T.no_isinstance (pda_cons (pd_var 0) (pda_cons (pd_gcls T.g_Ratio) pda_nil))))) (pdw_or (pdt_not (pdt_val (pd_fnB cd_isi T.no_isinstance (pda_cons (pd_fld T.fld_Ratio_top (pd_var 0)) (pda_cons (pd_ty T.no_int) pda_nil))))) (pdw_or1 (pdt_not (pdt_val (pd_fnB cd_isi T.no_isinstance (pda_cons (pd_fld T.fld_Ratio_bottom (pd_var 0)) (pda_cons (pd_ty T.no_int) pda_nil))))))))) (pdb_one (pds_ret pd_bl)) pdb_nil)
    (pdb_one (pds_ret (pd_cmp (od_eq hr.units) (pd_tup (pda_cons (pd_fld T.fld_Ratio_top (pd_var 0)) (pda_cons (pd_fld T.fld_Ratio_bottom (pd_var 0)) pda_nil))) (pd_call (fn__law_low (P := P) (w := w) (base := base) T) (hr.mono (by decide)) (pda_cons (pd_var 1) (pda_cons (pd_var 2) pda_nil))) (nomark _)))))
  case r =>
    intro ds μ k ex h
    unfold t__law_is
    obtain ⟨x, y, g, h, l, rfl, hy, hg, rfl, rfl, hs, hk⟩ := h
    walk_at "rd"
    refine ⟨true, isi_own T.ic_Ratio, ?_⟩
    walk_at "rd"
    unfold ratD
    walk_at "rd"
    simp only [insOf, Option.some.injEq, Prod.mk.injEq, true_and, exists_eq_left']
    walk_at "fl"
    walk_at "rd"
    refine ⟨g * x, g * y, rfl, Int.mul_ne_zero hg hy, hs, ?_⟩
    obtain ⟨e1, e2⟩ := red_scale (t := x) hg hy
    rw [e1, e2]
    walk_at "rd"
    exact hk
theorem fn__law_is (T : Tx K mg) : FnG P w K mg base 2 "_law_is" ["_law_told", "_law_high", "_law_low_here"] (sp__law_is K) := by
  obtain ⟨fd, F, hb, ok⟩ := ok__law_is (P := P) (w := w) (base := base) T
  exact ⟨⟨_, fd, T.g__law_is, F.kp, hb, ok⟩⟩
def sp_Ratio___bool__ (K : PySem.W.Frag) : SpD := fun ds μ k _ => ∃ (t b : Int), ds = [ratD K t b] ∧ k (.bl (!decide (t = 0))) μ
def t_Ratio___bool__ (K : PySem.W.Frag) (ex : XD) : TSD :=
  (dRet (dArgs rBoolD (dCons (dOp (rEqB true) (dFld (He.ga K "Ratio") "top" (dVar 0)) (dC (.int 0))) dNil)))
set_option maxHeartbeats 4000000 in
theorem ok_Ratio___bool__ (T : Tx K mg) : ∃ fd, FunD K "__bool__" "Ratio.__bool__" (defArgs s_Ratio___bool__) (defBody s_Ratio___bool__) (defScope s_Ratio___bool__) [] [] (He.fAd K ("Ratio", some "__bool__")) fd ∧ Binds K fd ["self"] [] ∧ FnOk P w K mg base (CXe P w) 1 (He.fAd K ("Ratio", some "__bool__")) fd ["self"] (lSp K (sp_Ratio___bool__ K)) := by
  obtain ⟨fd, F⟩ := T.d_Ratio___bool__
  refine ⟨fd, F, F.bindsN (fun _ _ _ _ _ _ us hl => match us, hl with | [_], _ => rfl), ?_⟩
  refine okD (t := t_Ratio___bool__ K) F sc_Ratio___bool__ ?l ?b ?r
  case l =>
    intro ds μ k ex h
    obtain ⟨_, _, rfl, _⟩ := h; rfl
  case b =>
    intro cdv A outer s H E B ex hr tk
    have hp := passes_of (X := cxOf (CXe P w) P w K mg base Ratio___bool___N "Ratio.__bool__" (defScope s_Ratio___bool__) (He.fAd K ("Ratio", some "__bool__")) cdv A outer s H E) rfl
    exact (pdb_one (pds_ret (pd_fnT cd_bool T.no_bool (pda_cons (pd_cmp (od_ne hr.units) (pd_fld T.fld_Ratio_top (pd_var 0)) pd_int (nomark _)) pda_nil))))
  case r =>
    intro ds μ k ex h
    unfold t_Ratio___bool__
    obtain ⟨t, b, rfl, h⟩ := h
    unfold ratD
    walk_at "rd"
    simp only [Option.some.injEq, Prod.mk.injEq, true_and, exists_eq_left']
    walk_at "fl"
    walk_at "rd"
    exact h
theorem op_Ratio___bool__ (T : Tx K mg) : OpG P w K mg base 1 (He.ga K "Ratio") "__bool__" (sp_Ratio___bool__ K) := by
  obtain ⟨fd, F, hb, ok⟩ := ok_Ratio___bool__ (P := P) (w := w) (base := base) T
  exact ⟨⟨_, fd, _, T.me_Ratio___bool__.at_, T.me_Ratio___bool__.fn, hb, ok⟩⟩
def sp_shared_divisor (K : PySem.W.Frag) : SpD := fun ds μ k _ => ∃ a b : Int, ds = [.int a, .int b] ∧ k (.int (Int.gcd a b : Nat)) μ
def t_shared_divisor_b1 (K : PySem.W.Frag) (ex : XD) : TSD :=
  (dPar 0 1 (dCons (dVar 1) (dCons (dOp rModD (dVar 0) (dVar 1)) dNil)))
def t_shared_divisor (K : PySem.W.Frag) (ex : XD) : TSD :=
  (dSeq (dPar 0 1 (dCons (dArgs (rInt1 fun i => .int (if i < 0 then -i else i)) (dCons (dVar 0) dNil)) (dCons (dArgs (rInt1 fun i => .int (if i < 0 then -i else i)) (dCons (dVar 1) dNil)) dNil)))
  (dSeq (dWhile (dTest (dOp (rEqB true) (dVar 1) (dC (.int 0)))) (t_shared_divisor_b1 K ex))
  (dRet (dVar 0))))
set_option maxHeartbeats 4000000 in
theorem ok_shared_divisor (T : Tx K mg) : ∃ fd, FunD K "shared_divisor" "shared_divisor" (defArgs s_shared_divisor) (defBody s_shared_divisor) (defScope s_shared_divisor) [] [] (He.fAd K ("shared_divisor", none)) fd ∧ Binds K fd ["one", "other"] [] ∧ FnOk P w K mg base (CXe P w) 1 (He.fAd K ("shared_divisor", none)) fd ["one", "other"] (lSp K (sp_shared_divisor K)) := by
  obtain ⟨fd, F⟩ := T.d_shared_divisor
  refine ⟨fd, F, F.bindsN (fun _ _ _ _ _ _ us hl => match us, hl with | [_, _], _ => rfl), ?_⟩
  refine okD (t := t_shared_divisor K) F sc_shared_divisor ?l ?b ?r
  case l =>
    intro ds μ k ex h
    obtain ⟨_, _, rfl, _⟩ := h; rfl
  case b =>
    intro cdv A outer s H E B ex hr tk
    have hp := passes_of (X := cxOf (CXe P w) P w K mg base shared_divisor_N "shared_divisor" (defScope s_shared_divisor) (He.fAd K ("shared_divisor", none)) cdv A outer s H E) rfl
    exact (pdb_cons (pds_par (i := 0) (j := 1) rfl sc_shared_divisor.nd (pda_cons (pd_fnB cd_abs T.no_abs (pda_cons (pd_var 0) pda_nil)) (pda_cons (pd_fnB cd_abs T.no_abs (pda_cons (pd_var 1) pda_nil)) pda_nil)))
    (pdb_cons (pds_while hp (pdt_cmp (od_ne hr.units) (pd_var 1) pd_int (nomark _)) (pdb_one (pds_par (i := 0) (j := 1) rfl sc_shared_divisor.nd (pda_cons (pd_var 1) (pda_cons (pd_op od_mod (pd_var 0) (pd_var 1)) pda_nil)))))
    (pdb_one (pds_ret (pd_var 0)))))
  case r =>
    intro ds μ k ex h
    unfold t_shared_divisor
    obtain ⟨a, b, rfl, h⟩ := h
    walk_at "rd"
    refine ⟨fun m ρ μ' => μ' = μ ∧ ∃ x y : Nat, ρ = [some (.int x), some (.int y)] ∧ Nat.gcd x y = Int.gcd a b ∧ m = y, ⟨b.natAbs, rfl, a.natAbs, b.natAbs, ?_, rfl, rfl⟩, ?_⟩
    · have e : ∀ i : Int, (if i < 0 then -i else i) = (i.natAbs : Int) := fun i => by split <;> omega
      rw [e, e]
    · rintro m ρ μ' ⟨rfl, x, y, rfl, hg, em⟩
      walk_at "rd"
      by_cases hy : y = 0
      · subst hy
        refine iteNS (by rfl) ?_
        walk_at "rd"
        rw [Nat.gcd_zero_right] at hg
        rw [hg]
        exact h
      · rw [decide_eq_false (by omega)]
        refine iteT ⟨fun ρ μ2 => μ2 = μ' ∧ ρ = [some (.int y), some (.int (x % y : Nat))], ?_, ?_⟩
        · rintro ρ' μ2 ⟨rfl, rfl⟩
          exact ⟨x % y, by rw [em]; exact Nat.mod_lt _ (Nat.pos_of_ne_zero hy), rfl, y, x % y, rfl, by rw [← hg, Nat.gcd_comm x y, Nat.gcd_rec y x, Nat.gcd_comm], rfl⟩
        · unfold t_shared_divisor_b1
          walk_at "rd"
          refine ⟨by omega, ?_⟩
          rw [Int.fmod_eq_emod_of_nonneg _ (by omega)]
          rfl
theorem fn_shared_divisor (T : Tx K mg) : FnG P w K mg base 1 "shared_divisor" ["one", "other"] (sp_shared_divisor K) := by
  obtain ⟨fd, F, hb, ok⟩ := ok_shared_divisor (P := P) (w := w) (base := base) T
  exact ⟨⟨_, fd, T.g_shared_divisor, F.kp, hb, ok⟩⟩
def sp_is_integer (K : PySem.W.Frag) : SpD := fun ds μ k _ => (∃ i : Int, ds = [.int i] ∧ k (.bl true) μ) ∨ (∃ b : Bool, ds = [.bl b] ∧ k (.bl false) μ) ∨ ∃ d : D, ds = [d] ∧ Isi K μ d (.type "int") false ∧ k (.bl false) μ
def t_is_integer (K : PySem.W.Frag) (ex : XD) : TSD :=
  (dRet (dAndV (dArgs (rIsiD K) (dCons (dVar 0) (dCons (dC (.ty "int")) dNil))) (dNotV (dArgs (rIsiD K) (dCons (dVar 0) (dCons (dC (.ty "bool")) dNil))))))
set_option maxHeartbeats 4000000 in
theorem ok_is_integer (T : Tx K mg) : ∃ fd, FunD K "is_integer" "is_integer" (defArgs s_is_integer) (defBody s_is_integer) (defScope s_is_integer) [] [] (He.fAd K ("is_integer", none)) fd ∧ Binds K fd ["value"] [] ∧ FnOk P w K mg base (CXe P w) 1 (He.fAd K ("is_integer", none)) fd ["value"] (lSp K (sp_is_integer K)) := by
  obtain ⟨fd, F⟩ := T.d_is_integer
  refine ⟨fd, F, F.bindsN (fun _ _ _ _ _ _ us hl => match us, hl with | [_], _ => rfl), ?_⟩
  refine okD (t := t_is_integer K) F sc_is_integer ?l ?b ?r
  case l =>
    intro ds μ k ex h
    obtain ⟨_, rfl, _⟩ | ⟨_, rfl, _⟩ | ⟨_, rfl, _⟩ := h <;> rfl
  case b =>
    intro cdv A outer s H E B ex hr tk
    have hp := passes_of (X := cxOf (CXe P w) P w K mg base is_integer_N "is_integer" (defScope s_is_integer) (He.fAd K ("is_integer", none)) cdv A outer s H E) rfl
    exact (pdb_one (pds_ret (pd_and (pd_fnB cd_isi T.no_isinstance (pda_cons (pd_var 0) (pda_cons (pd_ty T.no_int) pda_nil))) (pd_one (pd_not (pd_fnB cd_isi T.no_isinstance (pda_cons (pd_var 0) (pda_cons (pd_ty T.no_bool) pda_nil))))))))
  case r =>
    intro ds μ k ex h
    unfold t_is_integer
    obtain ⟨i, rfl, h⟩ | ⟨b, rfl, h⟩ | ⟨d, rfl, hi, h⟩ := h
    · walk_at "rd"
      exact h
    · walk_at "rd"
      exact h
    · walk_at "rd"
      refine ⟨false, hi, ?_⟩
      walk_at "rd"
      exact h
theorem fn_is_integer (T : Tx K mg) : FnG P w K mg base 1 "is_integer" ["value"] (sp_is_integer K) := by
  obtain ⟨fd, F, hb, ok⟩ := ok_is_integer (P := P) (w := w) (base := base) T
  exact ⟨⟨_, fd, T.g_is_integer, F.kp, hb, ok⟩⟩
theorem sg_small {t b : Int} (h : b ≠ 0) (hs : b.natAbs < 2 ^ 8000) : (sg t b).natAbs.log2 < 9000 := by
  have h1 : (sg t b).natAbs = Int.gcd t b := by
    unfold sg
    split <;> omega
  rw [h1]
  have h2 : Int.gcd t b ≤ b.natAbs := Nat.le_of_dvd (by omega) (Int.gcd_dvd_natAbs_right t b)
  have h3 : (Int.gcd t b).log2 < 8000 := (Nat.log2_lt (fun e => h (Int.gcd_eq_zero_iff.mp e).2)).mpr (Nat.lt_of_le_of_lt h2 hs)
  omega
def sp_Ratio___init__ (K : PySem.W.Frag) : SpD := fun ds μ k _ => ∃ (x : Addr) (t b : Int), ds = [.ref x, .int t, .int b] ∧ μ x = some (.ins (He.ga K "Ratio") []) ∧ b ≠ 0 ∧ b.natAbs < 2 ^ 8000 ∧
  k .non (mput μ x (.ins (He.ga K "Ratio") [("top", .int (redT t b)), ("bottom", .int (redB t b))]))
def t_Ratio___init___b1 (K : PySem.W.Frag) (ex : XD) : TSD :=
  (dIfS (dNot (dTest (dCall (sp_is_integer K) (dCons (dVar 3) dNil)))) dNever dNext)
def t_Ratio___init__ (K : PySem.W.Frag) (ex : XD) : TSD :=
  (dSeq (dFor (dIs asT (dTup (dCons (dVar 1) (dCons (dVar 2) dNil)))) (.nm 3) (t_Ratio___init___b1 K ex))
  (dSeq (dIfS (dTest (dOp (rEqB false) (dVar 2) (dC (.int 0)))) dNever dNext)
  (dSeq (dAsg (dCall (sp_shared_divisor K) (dCons (dVar 1) (dCons (dVar 2) dNil))) (.nm 4))
  (dSeq (dIfS (dTest (dOp rLtD (dVar 2) (dC (.int 0)))) (dAsg (dUn (rU1 fun i => .int (-i)) (dVar 4)) (.nm 4)) dNext)
  (dSeq (dSetF (He.ga K "Ratio") "top" (dVar 0) (dOp rFdivD (dVar 1) (dVar 4)))
  (dSetF (He.ga K "Ratio") "bottom" (dVar 0) (dOp rFdivD (dVar 2) (dVar 4))))))))
set_option maxHeartbeats 4000000 in
theorem ok_Ratio___init__ (T : Tx K mg) : ∃ fd, FunD K "__init__" "Ratio.__init__" (defArgs s_Ratio___init__) (defBody s_Ratio___init__) (defScope s_Ratio___init__) [.int 1] [] (He.fAd K ("Ratio", some "__init__")) fd ∧ Binds K fd ["self", "top", "bottom"] [] ∧ FnOk P w K mg base (CXe P w) 2 (He.fAd K ("Ratio", some "__init__")) fd ["self", "top", "bottom"] (lSp K (sp_Ratio___init__ K)) := by
  obtain ⟨fd, F⟩ := T.d_Ratio___init__
  refine ⟨fd, F, binds_all F (by simp) (fun _ _ _ _ _ _ _ us its h1 h2 => match us, h1, its, h2 with | [_, _, _], _, [_], _ => ⟨_, rfl, rfl⟩), ?_⟩
  refine okD (t := t_Ratio___init__ K) F sc_Ratio___init__ ?l ?b ?r
  case l =>
    intro ds μ k ex h
    obtain ⟨_, _, _, rfl, _⟩ := h; rfl
  case b =>
    intro cdv A outer s H E B ex hr tk
    have hp := passes_of (X := cxOf (CXe P w) P w K mg base Ratio___init___N "Ratio.__init__" (defScope s_Ratio___init__) (He.fAd K ("Ratio", some "__init__")) cdv A outer s H E) rfl
    exact (pdb_cons (pds_for (p := (.nm 3)) hp rfl (pdi_tup (pd_tup (pda_cons (pd_var 1) (pda_cons (pd_var 2) pda_nil)))) (pg_name (i := 3) sc_Ratio___init__.nd rfl (by first | exact Or.inl rfl | exact Or.inr rfl)) (pdb_one (pds_if (pdt_not (pdt_val (pd_call (fn_is_integer (P := P) (w := w) (base := base) T) (hr.mono (by decide)) (pda_cons (pd_var 3) pda_nil)))) (pdb_one pds_never) pdb_nil)))
    (pdb_cons (pds_if (pdt_cmp (od_eq hr.units) (pd_var 2) pd_int (nomark _)) (pdb_one pds_never) pdb_nil)
    (pdb_cons (pds_set (i := 4) sc_Ratio___init__.nd (pd_call (fn_shared_divisor (P := P) (w := w) (base := base) T) (hr.mono (by decide)) (pda_cons (pd_var 1) (pda_cons (pd_var 2) pda_nil))))
    (pdb_cons (pds_if (pdt_cmp od_lt (pd_var 2) pd_int (nomark _)) (pdb_one (pds_set (i := 4) sc_Ratio___init__.nd (pd_un ud_neg (pd_var 4)))) pdb_nil)
    (pdb_cons (pds_fld T.fld_Ratio_top (pd_var 0) (pd_op od_fdiv (pd_var 1) (pd_var 4)))
    (pdb_one (pds_fld T.fld_Ratio_bottom (pd_var 0) (pd_op od_fdiv (pd_var 2) (pd_var 4)))))))))
  case r =>
    intro ds μ k ex h
    unfold t_Ratio___init__
    obtain ⟨x, t, b, rfl, e, hb, hs, h⟩ := h
    walk_at "rd"
    walk_at "lp"
    unfold t_Ratio___init___b1
    walk_at "rd"
    refine .inl ⟨t, rfl, _, rfl, ?_⟩
    walk_at "lp"
    walk_at "rd"
    refine .inl ⟨b, rfl, _, rfl, ?_⟩
    walk_at "lp"
    walk_at "rd"
    rw [if_neg hb]
    refine ⟨t, b, rfl, ?_⟩
    have hn := sg_ne (t := t) hb
    have hsm := sg_small (t := t) hb hs
    unfold redT redB at h
    unfold sg at h hn hsm
    refine ite2 (fun c => ?_) (fun c => ?_)
    · rw [if_pos c] at h hn hsm
      walk_at "rd"
      refine ⟨⟨hn, hsm⟩, _, e, by decide, ⟨hn, hsm⟩, ?_⟩
      simp only [MO.ins.injEq, true_and, exists_eq_left', mput_mput]
      walk_at "fl"
      exact h
    · rw [if_neg c] at h hn hsm
      walk_at "rd"
      refine ⟨⟨hn, hsm⟩, _, e, by decide, ⟨hn, hsm⟩, ?_⟩
      simp only [MO.ins.injEq, true_and, exists_eq_left', mput_mput]
      walk_at "fl"
      exact h
theorem mk_rat {t b : Int} {μ : Mu} {k : KD} (hb : b ≠ 0) (hs : b.natAbs < 2 ^ 8000) (h : k (ratD K (redT t b) (redB t b)) μ) : rMake (He.ga K "Ratio") (sp_Ratio___init__ K) [.int t, .int b] μ k := by
  intro x nx
  refine ⟨x, t, b, rfl, mput_same, hb, hs, rfl, _, mput_same, ?_⟩
  rw [mput_mput, mdel_mput nx]
  exact h
theorem mkS_Ratio_0_bottom_top (T : Tx K mg) : MkS P w K mg base 2 "Ratio" (He.ga K "Ratio") 0 ["bottom", "top"] [.a 0, .k 1, .k 0] [.int 1] (sp_Ratio___init__ K) := by
  obtain ⟨fd, F, hb, ok⟩ := ok_Ratio___init__ (P := P) (w := w) (base := base) T
  exact ⟨T.g_Ratio, _, fd, _, T.m_Ratio, sh_d F 1 ["bottom", "top"] [.a 0, .k 1, .k 0] (by simp) (fun _ => (.cons (.int _) .nil)) (fun _ _ _ _ _ _ _ us its ws h1 h2 h3 => match us, h1, its, h2, ws, h3 with | [_], _, [_], _, [_, _], _ => ⟨_, rfl, rfl⟩), ok⟩
theorem mkS_Ratio_1 (T : Tx K mg) : MkS P w K mg base 2 "Ratio" (He.ga K "Ratio") 1 [] [.a 0, .a 1, .d 0] [.int 1] (sp_Ratio___init__ K) := by
  obtain ⟨fd, F, hb, ok⟩ := ok_Ratio___init__ (P := P) (w := w) (base := base) T
  exact ⟨T.g_Ratio, _, fd, _, T.m_Ratio, sh_d F 2 [] [.a 0, .a 1, .d 0] (by simp) (fun _ => (.cons (.int _) .nil)) (fun _ _ _ _ _ _ _ us its ws h1 h2 h3 => match us, h1, its, h2, ws, h3 with | [_, _], _, [_], _, [], _ => ⟨_, rfl, rfl⟩), ok⟩
theorem mk_Ratio (T : Tx K mg) : MkG P w K mg base 2 "Ratio" (He.ga K "Ratio") ["self", "top", "bottom"] (sp_Ratio___init__ K) := by
  obtain ⟨fd, F, hb, ok⟩ := ok_Ratio___init__ (P := P) (w := w) (base := base) T
  exact ⟨T.g_Ratio, _, fd, T.m_Ratio, hb, ok⟩
def sp_Ratio___abs__ (K : PySem.W.Frag) : SpD := fun ds μ k _ => ∃ (t b : Int), ds = [ratD K t b] ∧ Sm b ∧ b ≠ 0 ∧ k (ratD K (redT (if t < 0 then -t else t) b) (redB (if t < 0 then -t else t) b)) μ
def t_Ratio___abs__ (K : PySem.W.Frag) (ex : XD) : TSD :=
  (dRet (dArgs (rMake (He.ga K "Ratio") (sp_Ratio___init__ K)) (dCons (dArgs (rInt1 fun i => .int (if i < 0 then -i else i)) (dCons (dFld (He.ga K "Ratio") "top" (dVar 0)) dNil)) (dCons (dFld (He.ga K "Ratio") "bottom" (dVar 0)) dNil))))
set_option maxHeartbeats 4000000 in
theorem ok_Ratio___abs__ (T : Tx K mg) : ∃ fd, FunD K "__abs__" "Ratio.__abs__" (defArgs s_Ratio___abs__) (defBody s_Ratio___abs__) (defScope s_Ratio___abs__) [] [] (He.fAd K ("Ratio", some "__abs__")) fd ∧ Binds K fd ["self"] [] ∧ FnOk P w K mg base (CXe P w) 4 (He.fAd K ("Ratio", some "__abs__")) fd ["self"] (lSp K (sp_Ratio___abs__ K)) := by
  obtain ⟨fd, F⟩ := T.d_Ratio___abs__
  refine ⟨fd, F, F.bindsN (fun _ _ _ _ _ _ us hl => match us, hl with | [_], _ => rfl), ?_⟩
  refine okD (t := t_Ratio___abs__ K) F sc_Ratio___abs__ ?l ?b ?r
  case l =>
    intro ds μ k ex h
    obtain ⟨_, _, rfl, _⟩ := h; rfl
  case b =>
    intro cdv A outer s H E B ex hr tk
    have hp := passes_of (X := cxOf (CXe P w) P w K mg base Ratio___abs___N "Ratio.__abs__" (defScope s_Ratio___abs__) (He.fAd K ("Ratio", some "__abs__")) cdv A outer s H E) rfl
    exact (pdb_one (pds_ret (pd_make (mk_Ratio (P := P) (w := w) (base := base) T) (hr.mono (by decide)) (pda_cons (pd_fnB cd_abs T.no_abs (pda_cons (pd_fld T.fld_Ratio_top (pd_var 0)) pda_nil)) (pda_cons (pd_fld T.fld_Ratio_bottom (pd_var 0)) pda_nil)))))
  case r =>
    intro ds μ k ex h
    unfold t_Ratio___abs__
    obtain ⟨t, b, rfl, s2, hz, h⟩ := h
    unfold ratD
    walk_at "rd"
    simp only [Option.some.injEq, Prod.mk.injEq, true_and, exists_eq_left']
    walk_at "fl"
    walk_at "rd"
    exact mk_rat hz (Nat.lt_trans s2 (Nat.pow_lt_pow_right (by decide) (by decide))) h
theorem op_Ratio___abs__ (T : Tx K mg) : OpG P w K mg base 4 (He.ga K "Ratio") "__abs__" (sp_Ratio___abs__ K) := by
  obtain ⟨fd, F, hb, ok⟩ := ok_Ratio___abs__ (P := P) (w := w) (base := base) T
  exact ⟨⟨_, fd, _, T.me_Ratio___abs__.at_, T.me_Ratio___abs__.fn, hb, ok⟩⟩
def sp_Ratio___neg__ (K : PySem.W.Frag) : SpD := fun ds μ k _ => ∃ (t b : Int), ds = [ratD K t b] ∧ Sm b ∧ b ≠ 0 ∧ k (ratD K (redT (-t) b) (redB (-t) b)) μ
def t_Ratio___neg__ (K : PySem.W.Frag) (ex : XD) : TSD :=
  (dRet (dArgs (rMake (He.ga K "Ratio") (sp_Ratio___init__ K)) (dCons (dUn (rU1 fun i => .int (-i)) (dFld (He.ga K "Ratio") "top" (dVar 0))) (dCons (dFld (He.ga K "Ratio") "bottom" (dVar 0)) dNil))))
set_option maxHeartbeats 4000000 in
theorem ok_Ratio___neg__ (T : Tx K mg) : ∃ fd, FunD K "__neg__" "Ratio.__neg__" (defArgs s_Ratio___neg__) (defBody s_Ratio___neg__) (defScope s_Ratio___neg__) [] [] (He.fAd K ("Ratio", some "__neg__")) fd ∧ Binds K fd ["self"] [] ∧ FnOk P w K mg base (CXe P w) 4 (He.fAd K ("Ratio", some "__neg__")) fd ["self"] (lSp K (sp_Ratio___neg__ K)) := by
  obtain ⟨fd, F⟩ := T.d_Ratio___neg__
  refine ⟨fd, F, F.bindsN (fun _ _ _ _ _ _ us hl => match us, hl with | [_], _ => rfl), ?_⟩
  refine okD (t := t_Ratio___neg__ K) F sc_Ratio___neg__ ?l ?b ?r
  case l =>
    intro ds μ k ex h
    obtain ⟨_, _, rfl, _⟩ := h; rfl
  case b =>
    intro cdv A outer s H E B ex hr tk
    have hp := passes_of (X := cxOf (CXe P w) P w K mg base Ratio___neg___N "Ratio.__neg__" (defScope s_Ratio___neg__) (He.fAd K ("Ratio", some "__neg__")) cdv A outer s H E) rfl
    exact (pdb_one (pds_ret (pd_make (mk_Ratio (P := P) (w := w) (base := base) T) (hr.mono (by decide)) (pda_cons (pd_un ud_neg (pd_fld T.fld_Ratio_top (pd_var 0))) (pda_cons (pd_fld T.fld_Ratio_bottom (pd_var 0)) pda_nil)))))
  case r =>
    intro ds μ k ex h
    unfold t_Ratio___neg__
    obtain ⟨t, b, rfl, s2, hz, h⟩ := h
    unfold ratD
    walk_at "rd"
    simp only [Option.some.injEq, Prod.mk.injEq, true_and, exists_eq_left']
    walk_at "fl"
    walk_at "rd"
    exact mk_rat hz (Nat.lt_trans s2 (Nat.pow_lt_pow_right (by decide) (by decide))) h
theorem op_Ratio___neg__ (T : Tx K mg) : OpG P w K mg base 4 (He.ga K "Ratio") "__neg__" (sp_Ratio___neg__ K) := by
  obtain ⟨fd, F, hb, ok⟩ := ok_Ratio___neg__ (P := P) (w := w) (base := base) T
  exact ⟨⟨_, fd, _, T.me_Ratio___neg__.at_, T.me_Ratio___neg__.fn, hb, ok⟩⟩
def sp_bottom_of (K : PySem.W.Frag) : SpD := fun ds μ k _ => ∃ (d : D) (t b : Int), ds = [d] ∧ Term K d t b ∧ k (.int b) μ
def t_bottom_of (K : PySem.W.Frag) (ex : XD) : TSD :=
  (dRet (dIf (dTest (dArgs (rIsiD K) (dCons (dVar 0) (dCons (dC (.ref (He.ga K "Ratio"))) dNil)))) (dFld (He.ga K "Ratio") "bottom" (dVar 0)) (dC (.int 1))))
set_option maxHeartbeats 4000000 in
theorem ok_bottom_of (T : Tx K mg) : ∃ fd, FunD K "bottom_of" "bottom_of" (defArgs s_bottom_of) (defBody s_bottom_of) (defScope s_bottom_of) [] [] (He.fAd K ("bottom_of", none)) fd ∧ Binds K fd ["value"] [] ∧ FnOk P w K mg base (CXe P w) 1 (He.fAd K ("bottom_of", none)) fd ["value"] (lSp K (sp_bottom_of K)) := by
  obtain ⟨fd, F⟩ := T.d_bottom_of
  refine ⟨fd, F, F.bindsN (fun _ _ _ _ _ _ us hl => match us, hl with | [_], _ => rfl), ?_⟩
  refine okD (t := t_bottom_of K) F sc_bottom_of ?l ?b ?r
  case l =>
    intro ds μ k ex h
    obtain ⟨_, _, _, rfl, _⟩ := h; rfl
  case b =>
    intro cdv A outer s H E B ex hr tk
    have hp := passes_of (X := cxOf (CXe P w) P w K mg base bottom_of_N "bottom_of" (defScope s_bottom_of) (He.fAd K ("bottom_of", none)) cdv A outer s H E) rfl
    exact (pdb_one (pds_ret (pd_if (pdt_val (pd_fnB cd_isi T.no_isinstance (pda_cons (pd_var 0) (pda_cons (pd_gcls T.g_Ratio) pda_nil)))) (pd_fld T.fld_Ratio_bottom (pd_var 0)) pd_int)))
  case r =>
    intro ds μ k ex h
    unfold t_bottom_of
    obtain ⟨d, t, b, rfl, ⟨rfl, rfl⟩ | rfl, h⟩ := h
    · walk_at "rd"
      refine ⟨false, isi_no (T := "int") rfl (fun _ e => by cases e) T.k_int_Ratio, ?_⟩
      walk_at "rd"
      exact h
    · walk_at "rd"
      refine ⟨true, isi_own T.ic_Ratio, ?_⟩
      unfold ratD
      walk_at "rd"
      simp only [Option.some.injEq, Prod.mk.injEq, true_and, exists_eq_left']
      walk_at "fl"
      exact h
theorem fn_bottom_of (T : Tx K mg) : FnG P w K mg base 1 "bottom_of" ["value"] (sp_bottom_of K) := by
  obtain ⟨fd, F, hb, ok⟩ := ok_bottom_of (P := P) (w := w) (base := base) T
  exact ⟨⟨_, fd, T.g_bottom_of, F.kp, hb, ok⟩⟩
def sp_top_of (K : PySem.W.Frag) : SpD := fun ds μ k _ => ∃ (d : D) (t b : Int), ds = [d] ∧ Term K d t b ∧ k (.int t) μ
def t_top_of (K : PySem.W.Frag) (ex : XD) : TSD :=
  (dRet (dIf (dTest (dArgs (rIsiD K) (dCons (dVar 0) (dCons (dC (.ref (He.ga K "Ratio"))) dNil)))) (dFld (He.ga K "Ratio") "top" (dVar 0)) (dVar 0)))
set_option maxHeartbeats 4000000 in
theorem ok_top_of (T : Tx K mg) : ∃ fd, FunD K "top_of" "top_of" (defArgs s_top_of) (defBody s_top_of) (defScope s_top_of) [] [] (He.fAd K ("top_of", none)) fd ∧ Binds K fd ["value"] [] ∧ FnOk P w K mg base (CXe P w) 1 (He.fAd K ("top_of", none)) fd ["value"] (lSp K (sp_top_of K)) := by
  obtain ⟨fd, F⟩ := T.d_top_of
  refine ⟨fd, F, F.bindsN (fun _ _ _ _ _ _ us hl => match us, hl with | [_], _ => rfl), ?_⟩
  refine okD (t := t_top_of K) F sc_top_of ?l ?b ?r
  case l =>
    intro ds μ k ex h
    obtain ⟨_, _, _, rfl, _⟩ := h; rfl
  case b =>
    intro cdv A outer s H E B ex hr tk
    have hp := passes_of (X := cxOf (CXe P w) P w K mg base top_of_N "top_of" (defScope s_top_of) (He.fAd K ("top_of", none)) cdv A outer s H E) rfl
    exact (pdb_one (pds_ret (pd_if (pdt_val (pd_fnB cd_isi T.no_isinstance (pda_cons (pd_var 0) (pda_cons (pd_gcls T.g_Ratio) pda_nil)))) (pd_fld T.fld_Ratio_top (pd_var 0)) (pd_var 0))))
  case r =>
    intro ds μ k ex h
    unfold t_top_of
    obtain ⟨d, t, b, rfl, ⟨rfl, rfl⟩ | rfl, h⟩ := h
    · walk_at "rd"
      refine ⟨false, isi_no (T := "int") rfl (fun _ e => by cases e) T.k_int_Ratio, ?_⟩
      walk_at "rd"
      exact h
    · walk_at "rd"
      refine ⟨true, isi_own T.ic_Ratio, ?_⟩
      unfold ratD
      walk_at "rd"
      simp only [Option.some.injEq, Prod.mk.injEq, true_and, exists_eq_left']
      walk_at "fl"
      exact h
theorem fn_top_of (T : Tx K mg) : FnG P w K mg base 1 "top_of" ["value"] (sp_top_of K) := by
  obtain ⟨fd, F, hb, ok⟩ := ok_top_of (P := P) (w := w) (base := base) T
  exact ⟨⟨_, fd, T.g_top_of, F.kp, hb, ok⟩⟩
def sp_quotient_of (K : PySem.W.Frag) : SpD := fun ds μ k _ => ∃ (d e : D) (t b u c : Int), ds = [d, e] ∧ Term K d t b ∧ Term K e u c ∧ Sm t ∧ Sm b ∧ Sm u ∧ Sm c ∧ b * u ≠ 0 ∧ k (ratD K (redT (t * c) (b * u)) (redB (t * c) (b * u))) μ
def t_quotient_of (K : PySem.W.Frag) (ex : XD) : TSD :=
  (dRet (dArgs (rMake (He.ga K "Ratio") (sp_Ratio___init__ K)) (dCons (dOp rMulD (dCall (sp_top_of K) (dCons (dVar 0) dNil)) (dCall (sp_bottom_of K) (dCons (dVar 1) dNil))) (dCons (dOp rMulD (dCall (sp_bottom_of K) (dCons (dVar 0) dNil)) (dCall (sp_top_of K) (dCons (dVar 1) dNil))) dNil))))
set_option maxHeartbeats 4000000 in
theorem ok_quotient_of (T : Tx K mg) : ∃ fd, FunD K "quotient_of" "quotient_of" (defArgs s_quotient_of) (defBody s_quotient_of) (defScope s_quotient_of) [] [] (He.fAd K ("quotient_of", none)) fd ∧ Binds K fd ["one", "other"] [] ∧ FnOk P w K mg base (CXe P w) 4 (He.fAd K ("quotient_of", none)) fd ["one", "other"] (lSp K (sp_quotient_of K)) := by
  obtain ⟨fd, F⟩ := T.d_quotient_of
  refine ⟨fd, F, F.bindsN (fun _ _ _ _ _ _ us hl => match us, hl with | [_, _], _ => rfl), ?_⟩
  refine okD (t := t_quotient_of K) F sc_quotient_of ?l ?b ?r
  case l =>
    intro ds μ k ex h
    obtain ⟨_, _, _, _, _, _, rfl, _⟩ := h; rfl
  case b =>
    intro cdv A outer s H E B ex hr tk
    have hp := passes_of (X := cxOf (CXe P w) P w K mg base quotient_of_N "quotient_of" (defScope s_quotient_of) (He.fAd K ("quotient_of", none)) cdv A outer s H E) rfl
    exact (pdb_one (pds_ret (pd_make (mk_Ratio (P := P) (w := w) (base := base) T) (hr.mono (by decide)) (pda_cons (pd_op od_mul (pd_call (fn_top_of (P := P) (w := w) (base := base) T) (hr.mono (by decide)) (pda_cons (pd_var 0) pda_nil)) (pd_call (fn_bottom_of (P := P) (w := w) (base := base) T) (hr.mono (by decide)) (pda_cons (pd_var 1) pda_nil))) (pda_cons (pd_op od_mul (pd_call (fn_bottom_of (P := P) (w := w) (base := base) T) (hr.mono (by decide)) (pda_cons (pd_var 0) pda_nil)) (pd_call (fn_top_of (P := P) (w := w) (base := base) T) (hr.mono (by decide)) (pda_cons (pd_var 1) pda_nil))) pda_nil)))))
  case r =>
    intro ds μ k ex h
    unfold t_quotient_of
    obtain ⟨d, e, t, b, u, c, rfl, h1, h2, s1, s2, s3, s4, hz, h⟩ := h
    walk_at "rd"
    refine ⟨d, t, b, rfl, h1, e, u, c, rfl, h2, ?_⟩
    walk_at "rd"
    refine ⟨sm_mul' s1 s4, d, t, b, rfl, h1, e, u, c, rfl, h2, ?_⟩
    walk_at "rd"
    exact ⟨sm_mul' s2 s3, mk_rat hz (sm_prod8 s2 s3) h⟩
theorem fn_quotient_of (T : Tx K mg) : FnG P w K mg base 4 "quotient_of" ["one", "other"] (sp_quotient_of K) := by
  obtain ⟨fd, F, hb, ok⟩ := ok_quotient_of (P := P) (w := w) (base := base) T
  exact ⟨⟨_, fd, T.g_quotient_of, F.kp, hb, ok⟩⟩
def sp_Ratio_over (K : PySem.W.Frag) : SpD := fun ds μ k _ => ∃ (e : D) (t b u c : Int), ds = [ratD K t b, e] ∧ Term K e u c ∧ Sm t ∧ Sm b ∧ Sm u ∧ Sm c ∧ b * u ≠ 0 ∧ k (ratD K (redT (t * c) (b * u)) (redB (t * c) (b * u))) μ
def t_Ratio_over (K : PySem.W.Frag) (ex : XD) : TSD :=
  (dRet (dCall (sp_quotient_of K) (dCons (dVar 0) (dCons (dVar 1) dNil))))
set_option maxHeartbeats 4000000 in
theorem ok_Ratio_over (T : Tx K mg) : ∃ fd, FunD K "over" "Ratio.over" (defArgs s_Ratio_over) (defBody s_Ratio_over) (defScope s_Ratio_over) [] [] (He.fAd K ("Ratio", some "over")) fd ∧ Binds K fd ["self", "other"] [] ∧ FnOk P w K mg base (CXe P w) 5 (He.fAd K ("Ratio", some "over")) fd ["self", "other"] (lSp K (sp_Ratio_over K)) := by
  obtain ⟨fd, F⟩ := T.d_Ratio_over
  refine ⟨fd, F, F.bindsN (fun _ _ _ _ _ _ us hl => match us, hl with | [_, _], _ => rfl), ?_⟩
  refine okD (t := t_Ratio_over K) F sc_Ratio_over ?l ?b ?r
  case l =>
    intro ds μ k ex h
    obtain ⟨_, _, _, _, _, rfl, _⟩ := h; rfl
  case b =>
    intro cdv A outer s H E B ex hr tk
    have hp := passes_of (X := cxOf (CXe P w) P w K mg base Ratio_over_N "Ratio.over" (defScope s_Ratio_over) (He.fAd K ("Ratio", some "over")) cdv A outer s H E) rfl
    exact (pdb_one (pds_ret (pd_call (fn_quotient_of (P := P) (w := w) (base := base) T) (hr.mono (by decide)) (pda_cons (pd_var 0) (pda_cons (pd_var 1) pda_nil)))))
  case r =>
    intro ds μ k ex h
    unfold t_Ratio_over
    obtain ⟨e, t, b, u, c, rfl, h2, s1, s2, s3, s4, hz, h⟩ := h
    walk_at "rd"
    exact ⟨_, e, t, b, u, c, rfl, .inr rfl, h2, s1, s2, s3, s4, hz, h⟩
theorem me_Ratio_over (T : Tx K mg) : MethG P w K mg base 5 (He.ga K "Ratio") "over" ["self", "other"] (sp_Ratio_over K) := by
  obtain ⟨fd, F, hb, ok⟩ := ok_Ratio_over (P := P) (w := w) (base := base) T
  exact ⟨T.cl_Ratio, _, fd, T.me_Ratio_over, hb, ok⟩
def sp_whole_quotient (K : PySem.W.Frag) : SpD := fun ds μ k _ => ∃ (d e : D) (t b u c : Int), ds = [d, e] ∧ Term K d t b ∧ Term K e u c ∧ Sm t ∧ Sm b ∧ Sm u ∧ Sm c ∧ b * u ≠ 0 ∧ k (.int ((t * c).fdiv (b * u))) μ
def t_whole_quotient (K : PySem.W.Frag) (ex : XD) : TSD :=
  (dSeq (dAsg (dCall (sp_quotient_of K) (dCons (dVar 0) (dCons (dVar 1) dNil))) (.nm 2))
  (dRet (dOp rFdivD (dFld (He.ga K "Ratio") "top" (dVar 2)) (dFld (He.ga K "Ratio") "bottom" (dVar 2)))))
set_option maxHeartbeats 4000000 in
theorem ok_whole_quotient (T : Tx K mg) : ∃ fd, FunD K "whole_quotient" "whole_quotient" (defArgs s_whole_quotient) (defBody s_whole_quotient) (defScope s_whole_quotient) [] [] (He.fAd K ("whole_quotient", none)) fd ∧ Binds K fd ["one", "other"] [] ∧ FnOk P w K mg base (CXe P w) 5 (He.fAd K ("whole_quotient", none)) fd ["one", "other"] (lSp K (sp_whole_quotient K)) := by
  obtain ⟨fd, F⟩ := T.d_whole_quotient
  refine ⟨fd, F, F.bindsN (fun _ _ _ _ _ _ us hl => match us, hl with | [_, _], _ => rfl), ?_⟩
  refine okD (t := t_whole_quotient K) F sc_whole_quotient ?l ?b ?r
  case l =>
    intro ds μ k ex h
    obtain ⟨_, _, _, _, _, _, rfl, _⟩ := h; rfl
  case b =>
    intro cdv A outer s H E B ex hr tk
    have hp := passes_of (X := cxOf (CXe P w) P w K mg base whole_quotient_N "whole_quotient" (defScope s_whole_quotient) (He.fAd K ("whole_quotient", none)) cdv A outer s H E) rfl
    exact (pdb_cons (pds_set (i := 2) sc_whole_quotient.nd (pd_call (fn_quotient_of (P := P) (w := w) (base := base) T) (hr.mono (by decide)) (pda_cons (pd_var 0) (pda_cons (pd_var 1) pda_nil))))
    (pdb_one (pds_ret (pd_op od_fdiv (pd_fld T.fld_Ratio_top (pd_var 2)) (pd_fld T.fld_Ratio_bottom (pd_var 2))))))
  case r =>
    intro ds μ k ex h
    unfold t_whole_quotient
    obtain ⟨d, e, t, b, u, c, rfl, h1, h2, s1, s2, s3, s4, hz, h⟩ := h
    walk_at "rd"
    refine ⟨d, e, t, b, u, c, rfl, h1, h2, s1, s2, s3, s4, hz, ?_⟩
    obtain ⟨g, g0, e1, e2, l1, l2, l3⟩ := red_is (t * c) hz
    rw [← red_fdiv (t * c) hz] at h
    generalize redT (t * c) (b * u) = x at h l1
    generalize redB (t * c) (b * u) = y at h l2 l3
    have hy : y.natAbs.log2 < 9000 := by
      have h3 : y.natAbs.log2 < 8000 := (Nat.log2_lt (by omega)).mpr (Nat.lt_of_le_of_lt l3 (sm_prod8 s2 s3))
      omega
    unfold ratD
    walk_at "rd"
    simp only [Option.some.injEq, Prod.mk.injEq, true_and, exists_eq_left']
    walk_at "fl"
    walk_at "rd"
    exact ⟨⟨by omega, hy⟩, h⟩
theorem fn_whole_quotient (T : Tx K mg) : FnG P w K mg base 5 "whole_quotient" ["one", "other"] (sp_whole_quotient K) := by
  obtain ⟨fd, F, hb, ok⟩ := ok_whole_quotient (P := P) (w := w) (base := base) T
  exact ⟨⟨_, fd, T.g_whole_quotient, F.kp, hb, ok⟩⟩
def sp_is_term (K : PySem.W.Frag) : SpD := fun ds μ k _ => (∃ t b : Int, ds = [ratD K t b] ∧ k (.bl true) μ) ∨ (∃ i : Int, ds = [.int i] ∧ k (.bl true) μ) ∨ ∃ d : D, ds = [d] ∧ Isi K μ d (.ref (He.ga K "Ratio")) false ∧ Isi K μ d (.type "int") false ∧ k (.bl false) μ
def t_is_term (K : PySem.W.Frag) (ex : XD) : TSD :=
  (dRet (dOrV (dArgs (rIsiD K) (dCons (dVar 0) (dCons (dC (.ref (He.ga K "Ratio"))) dNil))) (dCall (sp_is_integer K) (dCons (dVar 0) dNil))))
set_option maxHeartbeats 4000000 in
theorem ok_is_term (T : Tx K mg) : ∃ fd, FunD K "is_term" "is_term" (defArgs s_is_term) (defBody s_is_term) (defScope s_is_term) [] [] (He.fAd K ("is_term", none)) fd ∧ Binds K fd ["value"] [] ∧ FnOk P w K mg base (CXe P w) 2 (He.fAd K ("is_term", none)) fd ["value"] (lSp K (sp_is_term K)) := by
  obtain ⟨fd, F⟩ := T.d_is_term
  refine ⟨fd, F, F.bindsN (fun _ _ _ _ _ _ us hl => match us, hl with | [_], _ => rfl), ?_⟩
  refine okD (t := t_is_term K) F sc_is_term ?l ?b ?r
  case l =>
    intro ds μ k ex h
    obtain ⟨_, _, rfl, _⟩ | ⟨_, rfl, _⟩ | ⟨_, rfl, _⟩ := h <;> rfl
  case b =>
    intro cdv A outer s H E B ex hr tk
    have hp := passes_of (X := cxOf (CXe P w) P w K mg base is_term_N "is_term" (defScope s_is_term) (He.fAd K ("is_term", none)) cdv A outer s H E) rfl
    exact (pdb_one (pds_ret (pd_or (pd_fnB cd_isi T.no_isinstance (pda_cons (pd_var 0) (pda_cons (pd_gcls T.g_Ratio) pda_nil))) (pd_one (pd_call (fn_is_integer (P := P) (w := w) (base := base) T) (hr.mono (by decide)) (pda_cons (pd_var 0) pda_nil))))))
  case r =>
    intro ds μ k ex h
    unfold t_is_term
    obtain ⟨t, b, rfl, h⟩ | ⟨i, rfl, h⟩ | ⟨d, rfl, h1, h2, h⟩ := h
    · walk_at "rd"
      refine ⟨true, isi_own T.ic_Ratio, ?_⟩
      walk_at "rd"
      exact h
    · walk_at "rd"
      refine ⟨false, isi_no (T := "int") rfl (fun _ e => by cases e) T.k_int_Ratio, ?_⟩
      walk_at "rd"
      exact .inl ⟨i, rfl, h⟩
    · walk_at "rd"
      refine ⟨false, h1, ?_⟩
      walk_at "rd"
      exact .inr (.inr ⟨d, rfl, h2, h⟩)
theorem fn_is_term (T : Tx K mg) : FnG P w K mg base 2 "is_term" ["value"] (sp_is_term K) := by
  obtain ⟨fd, F, hb, ok⟩ := ok_is_term (P := P) (w := w) (base := base) T
  exact ⟨⟨_, fd, T.g_is_term, F.kp, hb, ok⟩⟩
def sp_Ratio___floordiv__ (K : PySem.W.Frag) : SpD := fun ds μ k _ => ∃ (e : D) (t b u c : Int), ds = [ratD K t b, e] ∧ Term K e u c ∧ Sm t ∧ Sm b ∧ Sm u ∧ Sm c ∧ b * u ≠ 0 ∧ k (.int ((t * c).fdiv (b * u))) μ
def t_Ratio___floordiv__ (K : PySem.W.Frag) (ex : XD) : TSD :=
  (dSeq (dIfS (dNot (dTest (dCall (sp_is_term K) (dCons (dVar 1) dNil)))) dNever dNext)
  (dRet (dCall (sp_whole_quotient K) (dCons (dVar 0) (dCons (dVar 1) dNil)))))
set_option maxHeartbeats 4000000 in
theorem ok_Ratio___floordiv__ (T : Tx K mg) : ∃ fd, FunD K "__floordiv__" "Ratio.__floordiv__" (defArgs s_Ratio___floordiv__) (defBody s_Ratio___floordiv__) (defScope s_Ratio___floordiv__) [] [] (He.fAd K ("Ratio", some "__floordiv__")) fd ∧ Binds K fd ["self", "other"] [] ∧ FnOk P w K mg base (CXe P w) 6 (He.fAd K ("Ratio", some "__floordiv__")) fd ["self", "other"] (lSp K (sp_Ratio___floordiv__ K)) := by
  obtain ⟨fd, F⟩ := T.d_Ratio___floordiv__
  refine ⟨fd, F, F.bindsN (fun _ _ _ _ _ _ us hl => match us, hl with | [_, _], _ => rfl), ?_⟩
  refine okD (t := t_Ratio___floordiv__ K) F sc_Ratio___floordiv__ ?l ?b ?r
  case l =>
    intro ds μ k ex h
    obtain ⟨_, _, _, _, _, rfl, _⟩ := h; rfl
  case b =>
    intro cdv A outer s H E B ex hr tk
    have hp := passes_of (X := cxOf (CXe P w) P w K mg base Ratio___floordiv___N "Ratio.__floordiv__" (defScope s_Ratio___floordiv__) (He.fAd K ("Ratio", some "__floordiv__")) cdv A outer s H E) rfl
    exact (pdb_cons (pds_if (pdt_not (pdt_val (pd_call (fn_is_term (P := P) (w := w) (base := base) T) (hr.mono (by decide)) (pda_cons (pd_var 1) pda_nil)))) (pdb_one pds_never) pdb_nil)
    (pdb_one (pds_ret (pd_call (fn_whole_quotient (P := P) (w := w) (base := base) T) (hr.mono (by decide)) (pda_cons (pd_var 0) (pda_cons (pd_var 1) pda_nil))))))
  case r =>
    intro ds μ k ex h
    unfold t_Ratio___floordiv__
    obtain ⟨e, t, b, u, c, rfl, h2, s1, s2, s3, s4, hz, h⟩ := h
    walk_at "rd"
    have fin : sp_whole_quotient K [ratD K t b, e] μ k x0 := ⟨_, e, t, b, u, c, rfl, .inr rfl, h2, s1, s2, s3, s4, hz, h⟩
    rcases h2 with ⟨rfl, rfl⟩ | rfl
    · exact .inr (.inl ⟨_, rfl, _, rfl, iteF fin⟩)
    · exact .inl ⟨_, _, rfl, _, rfl, iteF fin⟩
theorem op_Ratio___floordiv__ (T : Tx K mg) : OpG P w K mg base 6 (He.ga K "Ratio") "__floordiv__" (sp_Ratio___floordiv__ K) := by
  obtain ⟨fd, F, hb, ok⟩ := ok_Ratio___floordiv__ (P := P) (w := w) (base := base) T
  exact ⟨⟨_, fd, _, T.me_Ratio___floordiv__.at_, T.me_Ratio___floordiv__.fn, hb, ok⟩⟩
def sp_Ratio___rfloordiv__ (K : PySem.W.Frag) : SpD := fun ds μ k _ => ∃ (e : D) (t b u c : Int), ds = [ratD K t b, e] ∧ Term K e u c ∧ Sm t ∧ Sm b ∧ Sm u ∧ Sm c ∧ c * t ≠ 0 ∧ k (.int ((u * b).fdiv (c * t))) μ
def t_Ratio___rfloordiv__ (K : PySem.W.Frag) (ex : XD) : TSD :=
  (dSeq (dIfS (dNot (dTest (dCall (sp_is_term K) (dCons (dVar 1) dNil)))) dNever dNext)
  (dRet (dCall (sp_whole_quotient K) (dCons (dVar 1) (dCons (dVar 0) dNil)))))
set_option maxHeartbeats 4000000 in
theorem ok_Ratio___rfloordiv__ (T : Tx K mg) : ∃ fd, FunD K "__rfloordiv__" "Ratio.__rfloordiv__" (defArgs s_Ratio___rfloordiv__) (defBody s_Ratio___rfloordiv__) (defScope s_Ratio___rfloordiv__) [] [] (He.fAd K ("Ratio", some "__rfloordiv__")) fd ∧ Binds K fd ["self", "other"] [] ∧ FnOk P w K mg base (CXe P w) 6 (He.fAd K ("Ratio", some "__rfloordiv__")) fd ["self", "other"] (lSp K (sp_Ratio___rfloordiv__ K)) := by
  obtain ⟨fd, F⟩ := T.d_Ratio___rfloordiv__
  refine ⟨fd, F, F.bindsN (fun _ _ _ _ _ _ us hl => match us, hl with | [_, _], _ => rfl), ?_⟩
  refine okD (t := t_Ratio___rfloordiv__ K) F sc_Ratio___rfloordiv__ ?l ?b ?r
  case l =>
    intro ds μ k ex h
    obtain ⟨_, _, _, _, _, rfl, _⟩ := h; rfl
  case b =>
    intro cdv A outer s H E B ex hr tk
    have hp := passes_of (X := cxOf (CXe P w) P w K mg base Ratio___rfloordiv___N "Ratio.__rfloordiv__" (defScope s_Ratio___rfloordiv__) (He.fAd K ("Ratio", some "__rfloordiv__")) cdv A outer s H E) rfl
    exact (pdb_cons (pds_if (pdt_not (pdt_val (pd_call (fn_is_term (P := P) (w := w) (base := base) T) (hr.mono (by decide)) (pda_cons (pd_var 1) pda_nil)))) (pdb_one pds_never) pdb_nil)
    (pdb_one (pds_ret (pd_call (fn_whole_quotient (P := P) (w := w) (base := base) T) (hr.mono (by decide)) (pda_cons (pd_var 1) (pda_cons (pd_var 0) pda_nil))))))
  case r =>
    intro ds μ k ex h
    unfold t_Ratio___rfloordiv__
    obtain ⟨e, t, b, u, c, rfl, h2, s1, s2, s3, s4, hz, h⟩ := h
    walk_at "rd"
    have fin : sp_whole_quotient K [e, ratD K t b] μ k x0 := ⟨e, _, u, c, t, b, rfl, h2, .inr rfl, s3, s4, s1, s2, hz, h⟩
    rcases h2 with ⟨rfl, rfl⟩ | rfl
    · exact .inr (.inl ⟨_, rfl, _, rfl, iteF fin⟩)
    · exact .inl ⟨_, _, rfl, _, rfl, iteF fin⟩
theorem op_Ratio___rfloordiv__ (T : Tx K mg) : OpG P w K mg base 6 (He.ga K "Ratio") "__rfloordiv__" (sp_Ratio___rfloordiv__ K) := by
  obtain ⟨fd, F, hb, ok⟩ := ok_Ratio___rfloordiv__ (P := P) (w := w) (base := base) T
  exact ⟨⟨_, fd, _, T.me_Ratio___rfloordiv__.at_, T.me_Ratio___rfloordiv__.fn, hb, ok⟩⟩
def sp_Ratio___mul__ (K : PySem.W.Frag) : SpD := fun ds μ k _ => ∃ (e : D) (t b u c : Int), ds = [ratD K t b, e] ∧ Term K e u c ∧ Sm t ∧ Sm b ∧ Sm u ∧ Sm c ∧ b * c ≠ 0 ∧ k (ratD K (redT (t * u) (b * c)) (redB (t * u) (b * c))) μ
def t_Ratio___mul__ (K : PySem.W.Frag) (ex : XD) : TSD :=
  (dSeq (dIfS (dNot (dTest (dCall (sp_is_term K) (dCons (dVar 1) dNil)))) dNever dNext)
  (dRet (dArgs (rMake (He.ga K "Ratio") (sp_Ratio___init__ K)) (dCons (dOp rMulD (dFld (He.ga K "Ratio") "top" (dVar 0)) (dCall (sp_top_of K) (dCons (dVar 1) dNil))) (dCons (dOp rMulD (dFld (He.ga K "Ratio") "bottom" (dVar 0)) (dCall (sp_bottom_of K) (dCons (dVar 1) dNil))) dNil)))))
set_option maxHeartbeats 4000000 in
theorem ok_Ratio___mul__ (T : Tx K mg) : ∃ fd, FunD K "__mul__" "Ratio.__mul__" (defArgs s_Ratio___mul__) (defBody s_Ratio___mul__) (defScope s_Ratio___mul__) [] [] (He.fAd K ("Ratio", some "__mul__")) fd ∧ Binds K fd ["self", "other"] [] ∧ FnOk P w K mg base (CXe P w) 4 (He.fAd K ("Ratio", some "__mul__")) fd ["self", "other"] (lSp K (sp_Ratio___mul__ K)) := by
  obtain ⟨fd, F⟩ := T.d_Ratio___mul__
  refine ⟨fd, F, F.bindsN (fun _ _ _ _ _ _ us hl => match us, hl with | [_, _], _ => rfl), ?_⟩
  refine okD (t := t_Ratio___mul__ K) F sc_Ratio___mul__ ?l ?b ?r
  case l =>
    intro ds μ k ex h
    obtain ⟨_, _, _, _, _, rfl, _⟩ := h; rfl
  case b =>
    intro cdv A outer s H E B ex hr tk
    have hp := passes_of (X := cxOf (CXe P w) P w K mg base Ratio___mul___N "Ratio.__mul__" (defScope s_Ratio___mul__) (He.fAd K ("Ratio", some "__mul__")) cdv A outer s H E) rfl
    exact (pdb_cons (pds_if (pdt_not (pdt_val (pd_call (fn_is_term (P := P) (w := w) (base := base) T) (hr.mono (by decide)) (pda_cons (pd_var 1) pda_nil)))) (pdb_one pds_never) pdb_nil)
    (pdb_one (pds_ret (pd_make (mk_Ratio (P := P) (w := w) (base := base) T) (hr.mono (by decide)) (pda_cons (pd_op od_mul (pd_fld T.fld_Ratio_top (pd_var 0)) (pd_call (fn_top_of (P := P) (w := w) (base := base) T) (hr.mono (by decide)) (pda_cons (pd_var 1) pda_nil))) (pda_cons (pd_op od_mul (pd_fld T.fld_Ratio_bottom (pd_var 0)) (pd_call (fn_bottom_of (P := P) (w := w) (base := base) T) (hr.mono (by decide)) (pda_cons (pd_var 1) pda_nil))) pda_nil))))))
  case r =>
    intro ds μ k ex h
    unfold t_Ratio___mul__
    obtain ⟨e, t, b, u, c, rfl, h2, s1, s2, s3, s4, hz, h⟩ := h
    walk_at "rd"
    have go : ∃ fs, insOf μ (ratD K t b) = some (He.ga K "Ratio", fs) ∧ ∃ v, fs.lookup ("top" : Str) = some v ∧ sp_top_of K [e] μ (fun y μ2 => rMulD v y μ2 fun x μ1 => ∃ fs, insOf μ1 (ratD K t b) = some (He.ga K "Ratio", fs) ∧ ∃ v, fs.lookup ("bottom" : Str) = some v ∧ sp_bottom_of K [e] μ1 (fun y μ2 => rMulD v y μ2 fun x_1 μ1 => rMake (He.ga K "Ratio") (sp_Ratio___init__ K) [x, x_1] μ1 k) x0) x0 := by
      refine ⟨_, rfl, _, rfl, e, u, c, rfl, h2, sm_mul' s1 s3, _, rfl, _, rfl, e, u, c, rfl, h2, sm_mul' s2 s4, mk_rat hz (sm_prod8 s2 s4) h⟩
    rcases h2 with ⟨rfl, rfl⟩ | rfl
    · exact .inr (.inl ⟨_, rfl, _, rfl, iteF go⟩)
    · exact .inl ⟨_, _, rfl, _, rfl, iteF go⟩
theorem op_Ratio___mul__ (T : Tx K mg) : OpG P w K mg base 4 (He.ga K "Ratio") "__mul__" (sp_Ratio___mul__ K) := by
  obtain ⟨fd, F, hb, ok⟩ := ok_Ratio___mul__ (P := P) (w := w) (base := base) T
  exact ⟨⟨_, fd, _, T.me_Ratio___mul__.at_, T.me_Ratio___mul__.fn, hb, ok⟩⟩
def sp_Ratio___rmul__ (K : PySem.W.Frag) : SpD := fun ds μ k _ => ∃ (e : D) (t b u c : Int), ds = [ratD K t b, e] ∧ Term K e u c ∧ Sm t ∧ Sm b ∧ Sm u ∧ Sm c ∧ b * c ≠ 0 ∧ k (ratD K (redT (t * u) (b * c)) (redB (t * u) (b * c))) μ
def t_Ratio___rmul__ (K : PySem.W.Frag) (ex : XD) : TSD :=
  (dSeq (dIfS (dNot (dTest (dCall (sp_is_term K) (dCons (dVar 1) dNil)))) dNever dNext)
  (dRet (dArgs (rMake (He.ga K "Ratio") (sp_Ratio___init__ K)) (dCons (dOp rMulD (dFld (He.ga K "Ratio") "top" (dVar 0)) (dCall (sp_top_of K) (dCons (dVar 1) dNil))) (dCons (dOp rMulD (dFld (He.ga K "Ratio") "bottom" (dVar 0)) (dCall (sp_bottom_of K) (dCons (dVar 1) dNil))) dNil)))))
set_option maxHeartbeats 4000000 in
theorem ok_Ratio___rmul__ (T : Tx K mg) : ∃ fd, FunD K "__rmul__" "Ratio.__rmul__" (defArgs s_Ratio___rmul__) (defBody s_Ratio___rmul__) (defScope s_Ratio___rmul__) [] [] (He.fAd K ("Ratio", some "__rmul__")) fd ∧ Binds K fd ["self", "other"] [] ∧ FnOk P w K mg base (CXe P w) 4 (He.fAd K ("Ratio", some "__rmul__")) fd ["self", "other"] (lSp K (sp_Ratio___rmul__ K)) := by
  obtain ⟨fd, F⟩ := T.d_Ratio___rmul__
  refine ⟨fd, F, F.bindsN (fun _ _ _ _ _ _ us hl => match us, hl with | [_, _], _ => rfl), ?_⟩
  refine okD (t := t_Ratio___rmul__ K) F sc_Ratio___rmul__ ?l ?b ?r
  case l =>
    intro ds μ k ex h
    obtain ⟨_, _, _, _, _, rfl, _⟩ := h; rfl
  case b =>
    intro cdv A outer s H E B ex hr tk
    have hp := passes_of (X := cxOf (CXe P w) P w K mg base Ratio___rmul___N "Ratio.__rmul__" (defScope s_Ratio___rmul__) (He.fAd K ("Ratio", some "__rmul__")) cdv A outer s H E) rfl
    exact (pdb_cons (pds_if (pdt_not (pdt_val (pd_call (fn_is_term (P := P) (w := w) (base := base) T) (hr.mono (by decide)) (pda_cons (pd_var 1) pda_nil)))) (pdb_one pds_never) pdb_nil)
    (pdb_one (pds_ret (pd_make (mk_Ratio (P := P) (w := w) (base := base) T) (hr.mono (by decide)) (pda_cons (pd_op od_mul (pd_fld T.fld_Ratio_top (pd_var 0)) (pd_call (fn_top_of (P := P) (w := w) (base := base) T) (hr.mono (by decide)) (pda_cons (pd_var 1) pda_nil))) (pda_cons (pd_op od_mul (pd_fld T.fld_Ratio_bottom (pd_var 0)) (pd_call (fn_bottom_of (P := P) (w := w) (base := base) T) (hr.mono (by decide)) (pda_cons (pd_var 1) pda_nil))) pda_nil))))))
  case r =>
    intro ds μ k ex h
    unfold t_Ratio___rmul__
    obtain ⟨e, t, b, u, c, rfl, h2, s1, s2, s3, s4, hz, h⟩ := h
    walk_at "rd"
    have go : ∃ fs, insOf μ (ratD K t b) = some (He.ga K "Ratio", fs) ∧ ∃ v, fs.lookup ("top" : Str) = some v ∧ sp_top_of K [e] μ (fun y μ2 => rMulD v y μ2 fun x μ1 => ∃ fs, insOf μ1 (ratD K t b) = some (He.ga K "Ratio", fs) ∧ ∃ v, fs.lookup ("bottom" : Str) = some v ∧ sp_bottom_of K [e] μ1 (fun y μ2 => rMulD v y μ2 fun x_1 μ1 => rMake (He.ga K "Ratio") (sp_Ratio___init__ K) [x, x_1] μ1 k) x0) x0 := by
      refine ⟨_, rfl, _, rfl, e, u, c, rfl, h2, sm_mul' s1 s3, _, rfl, _, rfl, e, u, c, rfl, h2, sm_mul' s2 s4, mk_rat hz (sm_prod8 s2 s4) h⟩
    rcases h2 with ⟨rfl, rfl⟩ | rfl
    · exact .inr (.inl ⟨_, rfl, _, rfl, iteF go⟩)
    · exact .inl ⟨_, _, rfl, _, rfl, iteF go⟩
theorem op_Ratio___rmul__ (T : Tx K mg) : OpG P w K mg base 4 (He.ga K "Ratio") "__rmul__" (sp_Ratio___rmul__ K) := by
  obtain ⟨fd, F, hb, ok⟩ := ok_Ratio___rmul__ (P := P) (w := w) (base := base) T
  exact ⟨⟨_, fd, _, T.me_Ratio___rmul__.at_, T.me_Ratio___rmul__.fn, hb, ok⟩⟩
def sp_difference_of (K : PySem.W.Frag) : SpD := fun ds μ k _ => ∃ (d e : D) (t b u c : Int), ds = [d, e] ∧ Term K d t b ∧ Term K e u c ∧ Sm t ∧ Sm b ∧ Sm u ∧ Sm c ∧ b * c ≠ 0 ∧ k (ratD K (redT (t * c - u * b) (b * c)) (redB (t * c - u * b) (b * c))) μ
def t_difference_of (K : PySem.W.Frag) (ex : XD) : TSD :=
  (dSeq (dAsg (dOp rSubD (dOp rMulD (dCall (sp_top_of K) (dCons (dVar 0) dNil)) (dCall (sp_bottom_of K) (dCons (dVar 1) dNil))) (dOp rMulD (dCall (sp_top_of K) (dCons (dVar 1) dNil)) (dCall (sp_bottom_of K) (dCons (dVar 0) dNil)))) (.nm 2))
  (dRet (dArgs (rMake (He.ga K "Ratio") (sp_Ratio___init__ K)) (dCons (dVar 2) (dCons (dOp rMulD (dCall (sp_bottom_of K) (dCons (dVar 0) dNil)) (dCall (sp_bottom_of K) (dCons (dVar 1) dNil))) dNil)))))
set_option maxHeartbeats 4000000 in
theorem ok_difference_of (T : Tx K mg) : ∃ fd, FunD K "difference_of" "difference_of" (defArgs s_difference_of) (defBody s_difference_of) (defScope s_difference_of) [] [] (He.fAd K ("difference_of", none)) fd ∧ Binds K fd ["one", "other"] [] ∧ FnOk P w K mg base (CXe P w) 4 (He.fAd K ("difference_of", none)) fd ["one", "other"] (lSp K (sp_difference_of K)) := by
  obtain ⟨fd, F⟩ := T.d_difference_of
  refine ⟨fd, F, F.bindsN (fun _ _ _ _ _ _ us hl => match us, hl with | [_, _], _ => rfl), ?_⟩
  refine okD (t := t_difference_of K) F sc_difference_of ?l ?b ?r
  case l =>
    intro ds μ k ex h
    obtain ⟨_, _, _, _, _, _, rfl, _⟩ := h; rfl
  case b =>
    intro cdv A outer s H E B ex hr tk
    have hp := passes_of (X := cxOf (CXe P w) P w K mg base difference_of_N "difference_of" (defScope s_difference_of) (He.fAd K ("difference_of", none)) cdv A outer s H E) rfl
    exact (pdb_cons (pds_set (i := 2) sc_difference_of.nd (pd_op od_sub (pd_op od_mul (pd_call (fn_top_of (P := P) (w := w) (base := base) T) (hr.mono (by decide)) (pda_cons (pd_var 0) pda_nil)) (pd_call (fn_bottom_of (P := P) (w := w) (base := base) T) (hr.mono (by decide)) (pda_cons (pd_var 1) pda_nil))) (pd_op od_mul (pd_call (fn_top_of (P := P) (w := w) (base := base) T) (hr.mono (by decide)) (pda_cons (pd_var 1) pda_nil)) (pd_call (fn_bottom_of (P := P) (w := w) (base := base) T) (hr.mono (by decide)) (pda_cons (pd_var 0) pda_nil)))))
    (pdb_one (pds_ret (pd_make (mk_Ratio (P := P) (w := w) (base := base) T) (hr.mono (by decide)) (pda_cons (pd_var 2) (pda_cons (pd_op od_mul (pd_call (fn_bottom_of (P := P) (w := w) (base := base) T) (hr.mono (by decide)) (pda_cons (pd_var 0) pda_nil)) (pd_call (fn_bottom_of (P := P) (w := w) (base := base) T) (hr.mono (by decide)) (pda_cons (pd_var 1) pda_nil))) pda_nil))))))
  case r =>
    intro ds μ k ex h
    unfold t_difference_of
    obtain ⟨d, e, t, b, u, c, rfl, h1, h2, s1, s2, s3, s4, hz, h⟩ := h
    walk_at "rd"
    refine ⟨d, t, b, rfl, h1, e, u, c, rfl, h2, ?_⟩
    walk_at "rd"
    refine ⟨sm_mul' s1 s4, e, u, c, rfl, h2, d, t, b, rfl, h1, ?_⟩
    walk_at "rd"
    refine ⟨sm_mul' s3 s2, d, t, b, rfl, h1, e, u, c, rfl, h2, ?_⟩
    walk_at "rd"
    exact ⟨sm_mul' s2 s4, mk_rat hz (sm_prod8 s2 s4) h⟩
theorem fn_difference_of (T : Tx K mg) : FnG P w K mg base 4 "difference_of" ["one", "other"] (sp_difference_of K) := by
  obtain ⟨fd, F, hb, ok⟩ := ok_difference_of (P := P) (w := w) (base := base) T
  exact ⟨⟨_, fd, T.g_difference_of, F.kp, hb, ok⟩⟩
def sp_Ratio___sub__ (K : PySem.W.Frag) : SpD := fun ds μ k _ => ∃ (e : D) (t b u c : Int), ds = [ratD K t b, e] ∧ Term K e u c ∧ Sm t ∧ Sm b ∧ Sm u ∧ Sm c ∧ b * c ≠ 0 ∧ k (ratD K (redT (t * c - u * b) (b * c)) (redB (t * c - u * b) (b * c))) μ
def t_Ratio___sub__ (K : PySem.W.Frag) (ex : XD) : TSD :=
  (dSeq (dIfS (dNot (dTest (dCall (sp_is_term K) (dCons (dVar 1) dNil)))) dNever dNext)
  (dRet (dCall (sp_difference_of K) (dCons (dVar 0) (dCons (dVar 1) dNil)))))
set_option maxHeartbeats 4000000 in
theorem ok_Ratio___sub__ (T : Tx K mg) : ∃ fd, FunD K "__sub__" "Ratio.__sub__" (defArgs s_Ratio___sub__) (defBody s_Ratio___sub__) (defScope s_Ratio___sub__) [] [] (He.fAd K ("Ratio", some "__sub__")) fd ∧ Binds K fd ["self", "other"] [] ∧ FnOk P w K mg base (CXe P w) 5 (He.fAd K ("Ratio", some "__sub__")) fd ["self", "other"] (lSp K (sp_Ratio___sub__ K)) := by
  obtain ⟨fd, F⟩ := T.d_Ratio___sub__
  refine ⟨fd, F, F.bindsN (fun _ _ _ _ _ _ us hl => match us, hl with | [_, _], _ => rfl), ?_⟩
  refine okD (t := t_Ratio___sub__ K) F sc_Ratio___sub__ ?l ?b ?r
  case l =>
    intro ds μ k ex h
    obtain ⟨_, _, _, _, _, rfl, _⟩ := h; rfl
  case b =>
    intro cdv A outer s H E B ex hr tk
    have hp := passes_of (X := cxOf (CXe P w) P w K mg base Ratio___sub___N "Ratio.__sub__" (defScope s_Ratio___sub__) (He.fAd K ("Ratio", some "__sub__")) cdv A outer s H E) rfl
    exact (pdb_cons (pds_if (pdt_not (pdt_val (pd_call (fn_is_term (P := P) (w := w) (base := base) T) (hr.mono (by decide)) (pda_cons (pd_var 1) pda_nil)))) (pdb_one pds_never) pdb_nil)
    (pdb_one (pds_ret (pd_call (fn_difference_of (P := P) (w := w) (base := base) T) (hr.mono (by decide)) (pda_cons (pd_var 0) (pda_cons (pd_var 1) pda_nil))))))
  case r =>
    intro ds μ k ex h
    unfold t_Ratio___sub__
    obtain ⟨e, t, b, u, c, rfl, h2, s1, s2, s3, s4, hz, h⟩ := h
    walk_at "rd"
    have fin : sp_difference_of K [ratD K t b, e] μ k x0 := ⟨_, e, t, b, u, c, rfl, .inr rfl, h2, s1, s2, s3, s4, hz, h⟩
    rcases h2 with ⟨rfl, rfl⟩ | rfl
    · exact .inr (.inl ⟨_, rfl, _, rfl, iteF fin⟩)
    · exact .inl ⟨_, _, rfl, _, rfl, iteF fin⟩
theorem op_Ratio___sub__ (T : Tx K mg) : OpG P w K mg base 5 (He.ga K "Ratio") "__sub__" (sp_Ratio___sub__ K) := by
  obtain ⟨fd, F, hb, ok⟩ := ok_Ratio___sub__ (P := P) (w := w) (base := base) T
  exact ⟨⟨_, fd, _, T.me_Ratio___sub__.at_, T.me_Ratio___sub__.fn, hb, ok⟩⟩
def sp_Ratio___rsub__ (K : PySem.W.Frag) : SpD := fun ds μ k _ => ∃ (e : D) (t b u c : Int), ds = [ratD K t b, e] ∧ Term K e u c ∧ Sm t ∧ Sm b ∧ Sm u ∧ Sm c ∧ c * b ≠ 0 ∧ k (ratD K (redT (u * b - t * c) (c * b)) (redB (u * b - t * c) (c * b))) μ
def t_Ratio___rsub__ (K : PySem.W.Frag) (ex : XD) : TSD :=
  (dSeq (dIfS (dNot (dTest (dCall (sp_is_term K) (dCons (dVar 1) dNil)))) dNever dNext)
  (dRet (dCall (sp_difference_of K) (dCons (dVar 1) (dCons (dVar 0) dNil)))))
set_option maxHeartbeats 4000000 in
theorem ok_Ratio___rsub__ (T : Tx K mg) : ∃ fd, FunD K "__rsub__" "Ratio.__rsub__" (defArgs s_Ratio___rsub__) (defBody s_Ratio___rsub__) (defScope s_Ratio___rsub__) [] [] (He.fAd K ("Ratio", some "__rsub__")) fd ∧ Binds K fd ["self", "other"] [] ∧ FnOk P w K mg base (CXe P w) 5 (He.fAd K ("Ratio", some "__rsub__")) fd ["self", "other"] (lSp K (sp_Ratio___rsub__ K)) := by
  obtain ⟨fd, F⟩ := T.d_Ratio___rsub__
  refine ⟨fd, F, F.bindsN (fun _ _ _ _ _ _ us hl => match us, hl with | [_, _], _ => rfl), ?_⟩
  refine okD (t := t_Ratio___rsub__ K) F sc_Ratio___rsub__ ?l ?b ?r
  case l =>
    intro ds μ k ex h
    obtain ⟨_, _, _, _, _, rfl, _⟩ := h; rfl
  case b =>
    intro cdv A outer s H E B ex hr tk
    have hp := passes_of (X := cxOf (CXe P w) P w K mg base Ratio___rsub___N "Ratio.__rsub__" (defScope s_Ratio___rsub__) (He.fAd K ("Ratio", some "__rsub__")) cdv A outer s H E) rfl
    exact (pdb_cons (pds_if (pdt_not (pdt_val (pd_call (fn_is_term (P := P) (w := w) (base := base) T) (hr.mono (by decide)) (pda_cons (pd_var 1) pda_nil)))) (pdb_one pds_never) pdb_nil)
    (pdb_one (pds_ret (pd_call (fn_difference_of (P := P) (w := w) (base := base) T) (hr.mono (by decide)) (pda_cons (pd_var 1) (pda_cons (pd_var 0) pda_nil))))))
  case r =>
    intro ds μ k ex h
    unfold t_Ratio___rsub__
    obtain ⟨e, t, b, u, c, rfl, h2, s1, s2, s3, s4, hz, h⟩ := h
    walk_at "rd"
    have fin : sp_difference_of K [e, ratD K t b] μ k x0 := ⟨e, _, u, c, t, b, rfl, h2, .inr rfl, s3, s4, s1, s2, hz, h⟩
    rcases h2 with ⟨rfl, rfl⟩ | rfl
    · exact .inr (.inl ⟨_, rfl, _, rfl, iteF fin⟩)
    · exact .inl ⟨_, _, rfl, _, rfl, iteF fin⟩
theorem op_Ratio___rsub__ (T : Tx K mg) : OpG P w K mg base 5 (He.ga K "Ratio") "__rsub__" (sp_Ratio___rsub__ K) := by
  obtain ⟨fd, F, hb, ok⟩ := ok_Ratio___rsub__ (P := P) (w := w) (base := base) T
  exact ⟨⟨_, fd, _, T.me_Ratio___rsub__.at_, T.me_Ratio___rsub__.fn, hb, ok⟩⟩
def sp_sum_of (K : PySem.W.Frag) : SpD := fun ds μ k _ => ∃ (d e : D) (t b u c : Int), ds = [d, e] ∧ Term K d t b ∧ Term K e u c ∧ Sm t ∧ Sm b ∧ Sm u ∧ Sm c ∧ b * c ≠ 0 ∧ k (ratD K (redT (t * c + u * b) (b * c)) (redB (t * c + u * b) (b * c))) μ
def t_sum_of (K : PySem.W.Frag) (ex : XD) : TSD :=
  (dSeq (dAsg (dOp rAddD (dOp rMulD (dCall (sp_top_of K) (dCons (dVar 0) dNil)) (dCall (sp_bottom_of K) (dCons (dVar 1) dNil))) (dOp rMulD (dCall (sp_top_of K) (dCons (dVar 1) dNil)) (dCall (sp_bottom_of K) (dCons (dVar 0) dNil)))) (.nm 2))
  (dRet (dArgs (rMake (He.ga K "Ratio") (sp_Ratio___init__ K)) (dCons (dVar 2) (dCons (dOp rMulD (dCall (sp_bottom_of K) (dCons (dVar 0) dNil)) (dCall (sp_bottom_of K) (dCons (dVar 1) dNil))) dNil)))))
set_option maxHeartbeats 4000000 in
theorem ok_sum_of (T : Tx K mg) : ∃ fd, FunD K "sum_of" "sum_of" (defArgs s_sum_of) (defBody s_sum_of) (defScope s_sum_of) [] [] (He.fAd K ("sum_of", none)) fd ∧ Binds K fd ["one", "other"] [] ∧ FnOk P w K mg base (CXe P w) 4 (He.fAd K ("sum_of", none)) fd ["one", "other"] (lSp K (sp_sum_of K)) := by
  obtain ⟨fd, F⟩ := T.d_sum_of
  refine ⟨fd, F, F.bindsN (fun _ _ _ _ _ _ us hl => match us, hl with | [_, _], _ => rfl), ?_⟩
  refine okD (t := t_sum_of K) F sc_sum_of ?l ?b ?r
  case l =>
    intro ds μ k ex h
    obtain ⟨_, _, _, _, _, _, rfl, _⟩ := h; rfl
  case b =>
    intro cdv A outer s H E B ex hr tk
    have hp := passes_of (X := cxOf (CXe P w) P w K mg base sum_of_N "sum_of" (defScope s_sum_of) (He.fAd K ("sum_of", none)) cdv A outer s H E) rfl
    exact (pdb_cons (pds_set (i := 2) sc_sum_of.nd (pd_op od_add (pd_op od_mul (pd_call (fn_top_of (P := P) (w := w) (base := base) T) (hr.mono (by decide)) (pda_cons (pd_var 0) pda_nil)) (pd_call (fn_bottom_of (P := P) (w := w) (base := base) T) (hr.mono (by decide)) (pda_cons (pd_var 1) pda_nil))) (pd_op od_mul (pd_call (fn_top_of (P := P) (w := w) (base := base) T) (hr.mono (by decide)) (pda_cons (pd_var 1) pda_nil)) (pd_call (fn_bottom_of (P := P) (w := w) (base := base) T) (hr.mono (by decide)) (pda_cons (pd_var 0) pda_nil)))))
    (pdb_one (pds_ret (pd_make (mk_Ratio (P := P) (w := w) (base := base) T) (hr.mono (by decide)) (pda_cons (pd_var 2) (pda_cons (pd_op od_mul (pd_call (fn_bottom_of (P := P) (w := w) (base := base) T) (hr.mono (by decide)) (pda_cons (pd_var 0) pda_nil)) (pd_call (fn_bottom_of (P := P) (w := w) (base := base) T) (hr.mono (by decide)) (pda_cons (pd_var 1) pda_nil))) pda_nil))))))
  case r =>
    intro ds μ k ex h
    unfold t_sum_of
    obtain ⟨d, e, t, b, u, c, rfl, h1, h2, s1, s2, s3, s4, hz, h⟩ := h
    walk_at "rd"
    refine ⟨d, t, b, rfl, h1, e, u, c, rfl, h2, ?_⟩
    walk_at "rd"
    refine ⟨sm_mul' s1 s4, e, u, c, rfl, h2, d, t, b, rfl, h1, ?_⟩
    walk_at "rd"
    refine ⟨sm_mul' s3 s2, d, t, b, rfl, h1, e, u, c, rfl, h2, ?_⟩
    walk_at "rd"
    exact ⟨sm_mul' s2 s4, mk_rat hz (sm_prod8 s2 s4) h⟩
theorem fn_sum_of (T : Tx K mg) : FnG P w K mg base 4 "sum_of" ["one", "other"] (sp_sum_of K) := by
  obtain ⟨fd, F, hb, ok⟩ := ok_sum_of (P := P) (w := w) (base := base) T
  exact ⟨⟨_, fd, T.g_sum_of, F.kp, hb, ok⟩⟩
def sp_Ratio___add__ (K : PySem.W.Frag) : SpD := fun ds μ k _ => ∃ (e : D) (t b u c : Int), ds = [ratD K t b, e] ∧ Term K e u c ∧ Sm t ∧ Sm b ∧ Sm u ∧ Sm c ∧ b * c ≠ 0 ∧ k (ratD K (redT (t * c + u * b) (b * c)) (redB (t * c + u * b) (b * c))) μ
def t_Ratio___add__ (K : PySem.W.Frag) (ex : XD) : TSD :=
  (dSeq (dIfS (dNot (dTest (dCall (sp_is_term K) (dCons (dVar 1) dNil)))) dNever dNext)
  (dRet (dCall (sp_sum_of K) (dCons (dVar 0) (dCons (dVar 1) dNil)))))
set_option maxHeartbeats 4000000 in
theorem ok_Ratio___add__ (T : Tx K mg) : ∃ fd, FunD K "__add__" "Ratio.__add__" (defArgs s_Ratio___add__) (defBody s_Ratio___add__) (defScope s_Ratio___add__) [] [] (He.fAd K ("Ratio", some "__add__")) fd ∧ Binds K fd ["self", "other"] [] ∧ FnOk P w K mg base (CXe P w) 5 (He.fAd K ("Ratio", some "__add__")) fd ["self", "other"] (lSp K (sp_Ratio___add__ K)) := by
  obtain ⟨fd, F⟩ := T.d_Ratio___add__
  refine ⟨fd, F, F.bindsN (fun _ _ _ _ _ _ us hl => match us, hl with | [_, _], _ => rfl), ?_⟩
  refine okD (t := t_Ratio___add__ K) F sc_Ratio___add__ ?l ?b ?r
  case l =>
    intro ds μ k ex h
    obtain ⟨_, _, _, _, _, rfl, _⟩ := h; rfl
  case b =>
    intro cdv A outer s H E B ex hr tk
    have hp := passes_of (X := cxOf (CXe P w) P w K mg base Ratio___add___N "Ratio.__add__" (defScope s_Ratio___add__) (He.fAd K ("Ratio", some "__add__")) cdv A outer s H E) rfl
    exact (pdb_cons (pds_if (pdt_not (pdt_val (pd_call (fn_is_term (P := P) (w := w) (base := base) T) (hr.mono (by decide)) (pda_cons (pd_var 1) pda_nil)))) (pdb_one pds_never) pdb_nil)
    (pdb_one (pds_ret (pd_call (fn_sum_of (P := P) (w := w) (base := base) T) (hr.mono (by decide)) (pda_cons (pd_var 0) (pda_cons (pd_var 1) pda_nil))))))
  case r =>
    intro ds μ k ex h
    unfold t_Ratio___add__
    obtain ⟨e, t, b, u, c, rfl, h2, s1, s2, s3, s4, hz, h⟩ := h
    walk_at "rd"
    have fin : sp_sum_of K [ratD K t b, e] μ k x0 := ⟨_, e, t, b, u, c, rfl, .inr rfl, h2, s1, s2, s3, s4, hz, h⟩
    rcases h2 with ⟨rfl, rfl⟩ | rfl
    · exact .inr (.inl ⟨_, rfl, _, rfl, iteF fin⟩)
    · exact .inl ⟨_, _, rfl, _, rfl, iteF fin⟩
theorem op_Ratio___add__ (T : Tx K mg) : OpG P w K mg base 5 (He.ga K "Ratio") "__add__" (sp_Ratio___add__ K) := by
  obtain ⟨fd, F, hb, ok⟩ := ok_Ratio___add__ (P := P) (w := w) (base := base) T
  exact ⟨⟨_, fd, _, T.me_Ratio___add__.at_, T.me_Ratio___add__.fn, hb, ok⟩⟩
def sp_Ratio___radd__ (K : PySem.W.Frag) : SpD := fun ds μ k _ => ∃ (e : D) (t b u c : Int), ds = [ratD K t b, e] ∧ Term K e u c ∧ Sm t ∧ Sm b ∧ Sm u ∧ Sm c ∧ c * b ≠ 0 ∧ k (ratD K (redT (u * b + t * c) (c * b)) (redB (u * b + t * c) (c * b))) μ
def t_Ratio___radd__ (K : PySem.W.Frag) (ex : XD) : TSD :=
  (dSeq (dIfS (dNot (dTest (dCall (sp_is_term K) (dCons (dVar 1) dNil)))) dNever dNext)
  (dRet (dCall (sp_sum_of K) (dCons (dVar 1) (dCons (dVar 0) dNil)))))
set_option maxHeartbeats 4000000 in
theorem ok_Ratio___radd__ (T : Tx K mg) : ∃ fd, FunD K "__radd__" "Ratio.__radd__" (defArgs s_Ratio___radd__) (defBody s_Ratio___radd__) (defScope s_Ratio___radd__) [] [] (He.fAd K ("Ratio", some "__radd__")) fd ∧ Binds K fd ["self", "other"] [] ∧ FnOk P w K mg base (CXe P w) 5 (He.fAd K ("Ratio", some "__radd__")) fd ["self", "other"] (lSp K (sp_Ratio___radd__ K)) := by
  obtain ⟨fd, F⟩ := T.d_Ratio___radd__
  refine ⟨fd, F, F.bindsN (fun _ _ _ _ _ _ us hl => match us, hl with | [_, _], _ => rfl), ?_⟩
  refine okD (t := t_Ratio___radd__ K) F sc_Ratio___radd__ ?l ?b ?r
  case l =>
    intro ds μ k ex h
    obtain ⟨_, _, _, _, _, rfl, _⟩ := h; rfl
  case b =>
    intro cdv A outer s H E B ex hr tk
    have hp := passes_of (X := cxOf (CXe P w) P w K mg base Ratio___radd___N "Ratio.__radd__" (defScope s_Ratio___radd__) (He.fAd K ("Ratio", some "__radd__")) cdv A outer s H E) rfl
    exact (pdb_cons (pds_if (pdt_not (pdt_val (pd_call (fn_is_term (P := P) (w := w) (base := base) T) (hr.mono (by decide)) (pda_cons (pd_var 1) pda_nil)))) (pdb_one pds_never) pdb_nil)
    (pdb_one (pds_ret (pd_call (fn_sum_of (P := P) (w := w) (base := base) T) (hr.mono (by decide)) (pda_cons (pd_var 1) (pda_cons (pd_var 0) pda_nil))))))
  case r =>
    intro ds μ k ex h
    unfold t_Ratio___radd__
    obtain ⟨e, t, b, u, c, rfl, h2, s1, s2, s3, s4, hz, h⟩ := h
    walk_at "rd"
    have fin : sp_sum_of K [e, ratD K t b] μ k x0 := ⟨e, _, u, c, t, b, rfl, h2, .inr rfl, s3, s4, s1, s2, hz, h⟩
    rcases h2 with ⟨rfl, rfl⟩ | rfl
    · exact .inr (.inl ⟨_, rfl, _, rfl, iteF fin⟩)
    · exact .inl ⟨_, _, rfl, _, rfl, iteF fin⟩
theorem op_Ratio___radd__ (T : Tx K mg) : OpG P w K mg base 5 (He.ga K "Ratio") "__radd__" (sp_Ratio___radd__ K) := by
  obtain ⟨fd, F, hb, ok⟩ := ok_Ratio___radd__ (P := P) (w := w) (base := base) T
  exact ⟨⟨_, fd, _, T.me_Ratio___radd__.at_, T.me_Ratio___radd__.fn, hb, ok⟩⟩
/-- a term that stands for h / l -/
def Rt (K : PySem.W.Frag) (a : D) (h l T B g : Int) : Prop := Term K a T B ∧ g ≠ 0 ∧ B ≠ 0 ∧ h = g * T ∧ l = g * B ∧ T.natAbs ≤ 10 ^ 40 ∧ B.natAbs ≤ 10 ^ 40 ∧ h.natAbs ≤ 10 ^ 40 ∧ l.natAbs ≤ 10 ^ 40
theorem smA {i : Int} (h : i.natAbs ≤ 10 ^ 40) : Sm i := Nat.lt_of_le_of_lt h (by decide +kernel)
section
variable {a b : D} {t s u c : Int} {μ : Mu} {k : KD}
theorem bin2 {spa spb : SpD} (ta : Term K a t s) (tb : Term K b u c) (o : a = ratD K t s ∨ b = ratD K u c) (h1 : a = ratD K t s → spa [a, b] μ k x0) (h2 : b = ratD K u c → spb [b, a] μ k x0) : rOr (rBin (He.ga K "Ratio") spa) (rBinR (He.ga K "Ratio") spb) a b μ k := by
  rcases ta with ⟨rfl, rfl⟩ | rfl
  · rcases o with o | o
    · cases o
    · subst o
      exact .inr ⟨⟨_, rfl⟩, ⟨_, rfl⟩, h2 rfl⟩
  · rcases tb with ⟨rfl, rfl⟩ | rfl
    · exact .inl ⟨⟨_, rfl⟩, .inr ⟨_, rfl⟩, h1 rfl⟩
    · exact .inl ⟨⟨_, rfl⟩, .inl ⟨_, rfl⟩, h1 rfl⟩
/-- the two sides: a ratio at least at one -/
structure Sd (K : PySem.W.Frag) (a b : D) (t s u c : Int) : Prop where
  ta : Term K a t s
  tb : Term K b u c
  one : a = ratD K t s ∨ b = ratD K u c
  s1 : Sm t
  s2 : Sm s
  s3 : Sm u
  s4 : Sm c
theorem bin_add (S : Sd K a b t s u c) (z : s * c ≠ 0) (h : k (ratD K (redT (t * c + u * s) (s * c)) (redB (t * c + u * s) (s * c))) μ) : rOr (rBin (He.ga K "Ratio") (sp_Ratio___add__ K)) (rBinR (He.ga K "Ratio") (sp_Ratio___radd__ K)) a b μ k :=
  bin2 S.ta S.tb S.one (fun e => by subst e; exact ⟨b, t, s, u, c, rfl, S.tb, S.s1, S.s2, S.s3, S.s4, z, h⟩) fun e => by subst e; exact ⟨a, u, c, t, s, rfl, S.ta, S.s3, S.s4, S.s1, S.s2, z, h⟩
theorem bin_sub (S : Sd K a b t s u c) (z : s * c ≠ 0) (h : k (ratD K (redT (t * c - u * s) (s * c)) (redB (t * c - u * s) (s * c))) μ) : rOr (rBin (He.ga K "Ratio") (sp_Ratio___sub__ K)) (rBinR (He.ga K "Ratio") (sp_Ratio___rsub__ K)) a b μ k :=
  bin2 S.ta S.tb S.one (fun e => by subst e; exact ⟨b, t, s, u, c, rfl, S.tb, S.s1, S.s2, S.s3, S.s4, z, h⟩) fun e => by subst e; exact ⟨a, u, c, t, s, rfl, S.ta, S.s3, S.s4, S.s1, S.s2, z, h⟩
theorem bin_mul (S : Sd K a b t s u c) (z : s * c ≠ 0) (h : k (ratD K (redT (t * u) (s * c)) (redB (t * u) (s * c))) μ) : rOr (rBin (He.ga K "Ratio") (sp_Ratio___mul__ K)) (rBinR (He.ga K "Ratio") (sp_Ratio___rmul__ K)) a b μ k :=
  bin2 S.ta S.tb S.one (fun e => by subst e; exact ⟨b, t, s, u, c, rfl, S.tb, S.s1, S.s2, S.s3, S.s4, z, h⟩) fun e => by subst e; exact ⟨a, u, c, t, s, rfl, S.ta, S.s3, S.s4, S.s1, S.s2, by rw [Int.mul_comm]; exact z, by rw [Int.mul_comm u t, Int.mul_comm c s]; exact h⟩
theorem bin_fdiv (S : Sd K a b t s u c) (z : s * u ≠ 0) (h : k (.int ((t * c).fdiv (s * u))) μ) : rOr (rBin (He.ga K "Ratio") (sp_Ratio___floordiv__ K)) (rBinR (He.ga K "Ratio") (sp_Ratio___rfloordiv__ K)) a b μ k :=
  bin2 S.ta S.tb S.one (fun e => by subst e; exact ⟨b, t, s, u, c, rfl, S.tb, S.s1, S.s2, S.s3, S.s4, z, h⟩) fun e => by subst e; exact ⟨a, u, c, t, s, rfl, S.ta, S.s3, S.s4, S.s1, S.s2, z, h⟩
end
theorem big_prod {i j : Int} (h : i.natAbs ≤ 10 ^ 40) (h' : j.natAbs ≤ 10 ^ 40) : (i * j).natAbs < 2 ^ 8000 := sm_prod8 (smA h) (smA h')
theorem repr_fdiv {x y : Int} (h : x.natAbs < 2 ^ 1900) : ∃ z, reprD (.int (x.fdiv y)) = some z := by
  have h2 : (x.fdiv y).natAbs.log2 < 1920 := by
    by_cases z : (x.fdiv y).natAbs = 0
    · rw [z]; decide
    · have h3 : (x.fdiv y).natAbs.log2 < 1900 := (Nat.log2_lt z).mpr (Nat.lt_of_le_of_lt (Int.natAbs_fdiv_le_natAbs x y) h)
      omega
  refine ⟨(toString (x.fdiv y) : String), ?_⟩
  show (if (x.fdiv y).natAbs.log2 < 1920 then some _ else none) = some _
  rw [if_pos h2]
theorem prod80 {i j : Int} (h : i.natAbs ≤ 10 ^ 40) (h' : j.natAbs ≤ 10 ^ 40) : (i * j).natAbs < 2 ^ 1900 := by
  rw [Int.natAbs_mul]
  exact Nat.lt_of_le_of_lt (Nat.mul_le_mul h h') (by decide +kernel)
theorem logP {i j : Int} (h : i.natAbs ≤ 10 ^ 40) (h' : j.natAbs ≤ 10 ^ 40) (z : i * j ≠ 0) : (i * j).natAbs.log2 < 9000 := by
  have h3 : (i * j).natAbs.log2 < 1900 := (Nat.log2_lt (by omega)).mpr (prod80 h h')
  omega
def sp__law_pair_right (K : PySem.W.Frag) : SpD := fun ds μ k _ => ∃ (a b : D) (h l o u t s v c g g' : Int), ds = [.tup [.int h, .int l], .tup [.int o, .int u], a, b] ∧ Rt K a h l t s g ∧ Rt K b o u v c g' ∧ (a = ratD K t s ∨ b = ratD K v c) ∧ k (.bl true) μ
def t__law_pair_right (K : PySem.W.Frag) (ex : XD) : TSD :=
  (dSeq (dAsg (dVar 0) (.tp [5, 6]))
  (dSeq (dAsg (dVar 1) (.tp [7, 8]))
  (dSeq (dIfS (dNot (dTest (dCall (sp__law_is K) (dCons (dOp (rOr (rBin (He.ga K "Ratio") (sp_Ratio___add__ K)) (rBinR (He.ga K "Ratio") (sp_Ratio___radd__ K))) (dVar 2) (dVar 3)) (dCons (dOp rAddD (dOp rMulD (dVar 5) (dVar 8)) (dOp rMulD (dVar 7) (dVar 6))) (dCons (dOp rMulD (dVar 6) (dVar 8)) dNil)))))) (dRet (dC (.bl false))) dNext)
  (dSeq (dIfS (dNot (dTest (dCall (sp__law_is K) (dCons (dOp (rOr (rBin (He.ga K "Ratio") (sp_Ratio___sub__ K)) (rBinR (He.ga K "Ratio") (sp_Ratio___rsub__ K))) (dVar 2) (dVar 3)) (dCons (dOp rSubD (dOp rMulD (dVar 5) (dVar 8)) (dOp rMulD (dVar 7) (dVar 6))) (dCons (dOp rMulD (dVar 6) (dVar 8)) dNil)))))) (dRet (dC (.bl false))) dNext)
  (dSeq (dIfS (dNot (dTest (dCall (sp__law_is K) (dCons (dOp (rOr (rBin (He.ga K "Ratio") (sp_Ratio___mul__ K)) (rBinR (He.ga K "Ratio") (sp_Ratio___rmul__ K))) (dVar 2) (dVar 3)) (dCons (dOp rMulD (dVar 5) (dVar 7)) (dCons (dOp rMulD (dVar 6) (dVar 8)) dNil)))))) (dRet (dC (.bl false))) dNext)
  (dSeq (dIfS (dTest (dOp (rEqB false) (dVar 7) (dC (.int 0)))) (dRet (dC (.bl true))) dNext)
  (dSeq (dAsg (dOp rFdivD (dOp rMulD (dVar 5) (dVar 8)) (dOp rMulD (dVar 6) (dVar 7))) (.nm 4))
  (dSeq (dIfS (dTest (dOp (rEqB true) (dArgs rRepr (dCons (dOp (rOr (rBin (He.ga K "Ratio") (sp_Ratio___floordiv__ K)) (rBinR (He.ga K "Ratio") (sp_Ratio___rfloordiv__ K))) (dVar 2) (dVar 3)) dNil)) (dArgs rRepr (dCons (dVar 4) dNil)))) (dRet (dC (.bl false))) dNext)
  (dRet (dOrV (dNotV (dArgs (rIsiD K) (dCons (dVar 2) (dCons (dC (.ref (He.ga K "Ratio"))) dNil)))) (dCall (sp__law_is K) (dCons (dMeth (He.ga K "Ratio") "over" (sp_Ratio_over K) (dVar 2) (dCons (dVar 3) dNil)) (dCons (dOp rMulD (dVar 5) (dVar 8)) (dCons (dOp rMulD (dVar 6) (dVar 7)) dNil))))))))))))))
set_option maxHeartbeats 4000000 in
theorem ok__law_pair_right (T : Tx K mg) : ∃ fd, FunD K "_law_pair_right" "_law_pair_right" (defArgs s__law_pair_right) (defBody s__law_pair_right) (defScope s__law_pair_right) [] [] (He.fAd K ("_law_pair_right", none)) fd ∧ Binds K fd ["_law_one", "_law_two", "_law_a", "_law_b"] [] ∧ FnOk P w K mg base (CXe P w) 7 (He.fAd K ("_law_pair_right", none)) fd ["_law_one", "_law_two", "_law_a", "_law_b"] (lSp K (sp__law_pair_right K)) := by
  obtain ⟨fd, F⟩ := T.d__law_pair_right
  refine ⟨fd, F, F.bindsN (fun _ _ _ _ _ _ us hl => match us, hl with | [_, _, _, _], _ => rfl), ?_⟩
  refine okD (t := t__law_pair_right K) F sc__law_pair_right ?l ?b ?r
  case l =>
    intro ds μ k ex h
    obtain ⟨_, _, _, _, _, _, _, _, _, _, _, _, rfl, _⟩ := h; rfl
  case b =>
    intro cdv A outer s H E B ex hr tk
    have hp := passes_of (X := cxOf (CXe P w) P w K mg base _law_pair_right_N "_law_pair_right" (defScope s__law_pair_right) (He.fAd K ("_law_pair_right", none)) cdv A outer s H E) rfl
    exact (pdb_cons (pds_unp (p := (.tp [5, 6])) (pd_var 0) (pg_tup rfl (pgs_cons (pg_name (i := 5) sc__law_pair_right.nd rfl (by first | exact Or.inl rfl | exact Or.inr rfl)) (pgs_cons (pg_name (i := 6) sc__law_pair_right.nd rfl (by first | exact Or.inl rfl | exact Or.inr rfl)) pgs_nil))))
    (pdb_cons (pds_unp (p := (.tp [7, 8])) (pd_var 1) (pg_tup rfl (pgs_cons (pg_name (i := 7) sc__law_pair_right.nd rfl (by first | exact Or.inl rfl | exact Or.inr rfl)) (pgs_cons (pg_name (i := 8) sc__law_pair_right.nd rfl (by first | exact Or.inl rfl | exact Or.inr rfl)) pgs_nil))))
    (pdb_cons (pds_if (pdt_not (pdt_val (pd_call (fn__law_is (P := P) (w := w) (base := base) T) (hr.mono (by decide)) (pda_cons (pd_op (orD (od_bin io_add (op_Ratio___add__ (P := P) (w := w) (base := base) T) T.self_Ratio T.me_Ratio___radd__.at_ (.inr ⟨_, rfl⟩) (hr.mono (by decide))) (od_binR io_add (op_Ratio___add__ (P := P) (w := w) (base := base) T) (op_Ratio___radd__ (P := P) (w := w) (base := base) T) T.self_Ratio T.si_Ratio (hr.mono (by decide)))) (pd_var 2) (pd_var 3)) (pda_cons (pd_op od_add (pd_op od_mul (pd_var 5) (pd_var 8)) (pd_op od_mul (pd_var 7) (pd_var 6))) (pda_cons (pd_op od_mul (pd_var 6) (pd_var 8)) pda_nil)))))) (pdb_one (pds_ret pd_bl)) pdb_nil)
    (pdb_cons (pds_if (pdt_not (pdt_val (pd_call (fn__law_is (P := P) (w := w) (base := base) T) (hr.mono (by decide)) (pda_cons (pd_op (orD (od_bin io_sub (op_Ratio___sub__ (P := P) (w := w) (base := base) T) T.self_Ratio T.me_Ratio___rsub__.at_ (.inr ⟨_, rfl⟩) (hr.mono (by decide))) (od_binR io_sub (op_Ratio___sub__ (P := P) (w := w) (base := base) T) (op_Ratio___rsub__ (P := P) (w := w) (base := base) T) T.self_Ratio T.si_Ratio (hr.mono (by decide)))) (pd_var 2) (pd_var 3)) (pda_cons (pd_op od_sub (pd_op od_mul (pd_var 5) (pd_var 8)) (pd_op od_mul (pd_var 7) (pd_var 6))) (pda_cons (pd_op od_mul (pd_var 6) (pd_var 8)) pda_nil)))))) (pdb_one (pds_ret pd_bl)) pdb_nil)
    (pdb_cons (pds_if (pdt_not (pdt_val (pd_call (fn__law_is (P := P) (w := w) (base := base) T) (hr.mono (by decide)) (pda_cons (pd_op (orD (od_bin io_mul (op_Ratio___mul__ (P := P) (w := w) (base := base) T) T.self_Ratio T.me_Ratio___rmul__.at_ (.inr ⟨_, rfl⟩) (hr.mono (by decide))) (od_binR io_mul (op_Ratio___mul__ (P := P) (w := w) (base := base) T) (op_Ratio___rmul__ (P := P) (w := w) (base := base) T) T.self_Ratio T.si_Ratio (hr.mono (by decide)))) (pd_var 2) (pd_var 3)) (pda_cons (pd_op od_mul (pd_var 5) (pd_var 7)) (pda_cons (pd_op od_mul (pd_var 6) (pd_var 8)) pda_nil)))))) (pdb_one (pds_ret pd_bl)) pdb_nil)
    (pdb_cons (pds_if (pdt_cmp (od_eq hr.units) (pd_var 7) pd_int (nomark _)) (pdb_one (pds_ret pd_bl)) pdb_nil)
    (pdb_cons (pds_set (i := 4) sc__law_pair_right.nd (pd_op od_fdiv (pd_op od_mul (pd_var 5) (pd_var 8)) (pd_op od_mul (pd_var 6) (pd_var 7))))
    (pdb_cons (pds_if (pdt_cmp (od_ne hr.units) (pd_fnB cd_repr T.no_repr (pda_cons (pd_op (orD (od_bin io_fdiv (op_Ratio___floordiv__ (P := P) (w := w) (base := base) T) T.self_Ratio T.me_Ratio___rfloordiv__.at_ (.inr ⟨_, rfl⟩) (hr.mono (by decide))) (od_binR io_fdiv (op_Ratio___floordiv__ (P := P) (w := w) (base := base) T) (op_Ratio___rfloordiv__ (P := P) (w := w) (base := base) T) T.self_Ratio T.si_Ratio (hr.mono (by decide)))) (pd_var 2) (pd_var 3)) pda_nil)) (pd_fnB cd_repr T.no_repr (pda_cons (pd_var 4) pda_nil)) (nomark _)) (pdb_one (pds_ret pd_bl)) pdb_nil)
    (pdb_one (pds_ret (pd_or (pd_not (pd_fnB cd_isi T.no_isinstance (pda_cons (pd_var 2) (pda_cons (pd_gcls T.g_Ratio) pda_nil)))) (pd_one (pd_call (fn__law_is (P := P) (w := w) (base := base) T) (hr.mono (by decide)) (pda_cons (pd_meth (me_Ratio_over (P := P) (w := w) (base := base) T) (hr.mono (by decide)) (pd_var 2) (pda_cons (pd_var 3) pda_nil)) (pda_cons (pd_op od_mul (pd_var 5) (pd_var 8)) (pda_cons (pd_op od_mul (pd_var 6) (pd_var 7)) pda_nil))))))))))))))))
  case r =>
    intro ds μ k ex h
    unfold t__law_pair_right
    obtain ⟨a, b, h, l, o, u, t, s, v, c, g, g', rfl, ⟨t1, g0, s0, rfl, rfl, n1, n2, n3, n4⟩, ⟨t2, g0', c0, rfl, rfl, m1, m2, m3, m4⟩, hab, hk⟩ := h
    walk_at "rd"
    have gg : g * g' ≠ 0 := Int.mul_ne_zero g0 g0'
    have sc : s * c ≠ 0 := Int.mul_ne_zero s0 c0
    have cm1 := sm_mul' (smA n3) (smA m4)
    have cm2 := sm_mul' (smA m3) (smA n4)
    have cm3 := sm_mul' (smA n4) (smA m4)
    have cm4 := sm_mul' (smA n3) (smA m3)
    have cm5 := sm_mul' (smA n4) (smA m3)
    have S : Sd K a b t s v c := ⟨t1, t2, hab, smA n1, smA n2, smA m1, smA m2⟩
    refine bin_add S sc ⟨cm1, cm2, cm3, _, _, g * g', _, _, rfl, sc, gg, by rw [Int.mul_add]; ac_rfl, by ac_rfl, big_prod n4 m4, _, rfl, iteF ?_⟩
    refine bin_sub S sc ⟨cm1, cm2, cm3, _, _, g * g', _, _, rfl, sc, gg, by rw [Int.mul_sub]; congr 1 <;> ac_rfl, by ac_rfl, big_prod n4 m4, _, rfl, iteF ?_⟩
    refine bin_mul S sc ⟨cm4, cm3, _, _, g * g', _, _, rfl, sc, gg, by ac_rfl, by ac_rfl, big_prod n4 m4, _, rfl, iteF ?_⟩
    refine ite2 (fun e => ?_) (fun e => ?_)
    · exact hk
    · have v0 : v ≠ 0 := fun z => e (by rw [z, Int.mul_zero])
      have sv : s * v ≠ 0 := Int.mul_ne_zero s0 v0
      have gsv : g * s * (g' * v) ≠ 0 := Int.mul_ne_zero (Int.mul_ne_zero g0 s0) (Int.mul_ne_zero g0' v0)
      obtain ⟨z, hz⟩ := repr_fdiv (y := s * v) (prod80 n1 m2)
      have ef : (g * t * (g' * c)).fdiv (g * s * (g' * v)) = (t * c).fdiv (s * v) := by
        rw [show g * t * (g' * c) = (g * g') * (t * c) by ac_rfl, show g * s * (g' * v) = (g * g') * (s * v) by ac_rfl, fdiv_scale gg]
      refine ⟨cm1, cm5, ⟨gsv, logP n4 m3 gsv⟩, bin_fdiv S sv ⟨z, hz, z, by rw [ef]; exact hz, ?_⟩⟩
      rw [decide_eq_true rfl]
      refine iteF ?_
      rcases t1 with ⟨rfl, rfl⟩ | rfl
      · exact ⟨false, isi_no (T := "int") rfl (fun _ e => by cases e) T.k_int_Ratio, iteT hk⟩
      · refine ⟨true, isi_own T.ic_Ratio, iteF ?_⟩
        refine ⟨_, rfl, (by walk_at "fl"), b, t, s, v, c, rfl, t2, smA n1, smA n2, smA m1, smA m2, sv, cm1, cm5, _, _, g * g', _, _, rfl, sv, gg, by ac_rfl, by ac_rfl, big_prod n4 m3, hk⟩
theorem fn__law_pair_right (T : Tx K mg) : FnG P w K mg base 7 "_law_pair_right" ["_law_one", "_law_two", "_law_a", "_law_b"] (sp__law_pair_right K) := by
  obtain ⟨fd, F, hb, ok⟩ := ok__law_pair_right (P := P) (w := w) (base := base) T
  exact ⟨⟨_, fd, T.g__law_pair_right, F.kp, hb, ok⟩⟩
theorem fmod_rng (a : Int) {b : Int} (h : 0 < b) : 0 ≤ a.fmod b ∧ a.fmod b < b := ⟨Int.fmod_nonneg_of_pos a h, Int.fmod_lt_of_pos a h⟩
def sp__law_take (K : PySem.W.Frag) : SpD := fun ds μ k _ => ∃ (p : Addr) (many : Int), ds = [.ref p, .int many] ∧ PoolAt μ p ∧ 0 < many ∧ many.natAbs.log2 < 9000 ∧
  ∀ (r : Int) (μ' : Mu), 0 ≤ r → r < many → PoolAt μ' p → (∀ a, a ≠ p → μ' a = μ a) → k (.int r) μ'
def t__law_take (K : PySem.W.Frag) (ex : XD) : TSD :=
  (dSeq (dIfS (dTest (dOp rGtD (dOp rIxD (dVar 0) (dC (.int 0))) (dC (.int 0)))) (dSeq (dAsg (dOp rModD (dArgs rIntD (dCons (dOp rIxD (dVar 0) (dC (.int 0))) dNil)) (dVar 1)) (.nm 2))
  (dSeq (dSetI (dVar 0) (dC (.int 0)) (dOp rFdivD (dOp rIxD (dVar 0) (dC (.int 0))) (dVar 1)))
  (dRet (dVar 2)))) dNext)
  (dSeq (dSetI (dVar 0) (dC (.int 1)) (dOp rModD (dArgs rIntD (dCons (dOp rAddD (dOp rMulD (dOp rIxD (dVar 0) (dC (.int 1))) (dC (.int 48271))) (dC (.int 11))) dNil)) (dC (.int 2147483647))))
  (dRet (dOp rModD (dArgs rIntD (dCons (dOp rFdivD (dOp rModD (dArgs rIntD (dCons (dOp rMulD (dOp rIxD (dVar 0) (dC (.int 1))) (dOp rIxD (dVar 0) (dC (.int 1)))) dNil)) (dC (.int 2147483629))) (dC (.int 64))) dNil)) (dVar 1)))))
set_option maxHeartbeats 4000000 in
theorem ok__law_take (T : Tx K mg) : ∃ fd, FunD K "_law_take" "_law_take" (defArgs s__law_take) (defBody s__law_take) (defScope s__law_take) [] [] (He.fAd K ("_law_take", none)) fd ∧ Binds K fd ["_law_pool_here", "_law_many"] [] ∧ FnOk P w K mg base (CXe P w) 1 (He.fAd K ("_law_take", none)) fd ["_law_pool_here", "_law_many"] (lSp K (sp__law_take K)) := by
  obtain ⟨fd, F⟩ := T.d__law_take
  refine ⟨fd, F, F.bindsN (fun _ _ _ _ _ _ us hl => match us, hl with | [_, _], _ => rfl), ?_⟩
  refine okD (t := t__law_take K) F sc__law_take ?l ?b ?r
  case l =>
    intro ds μ k ex h
    obtain ⟨_, _, rfl, _⟩ := h; rfl
  case b =>
    intro cdv A outer s H E B ex hr tk
    have hp := passes_of (X := cxOf (CXe P w) P w K mg base _law_take_N "_law_take" (defScope s__law_take) (He.fAd K ("_law_take", none)) cdv A outer s H E) rfl
    exact (pdb_cons (pds_if (pdt_cmp od_gt (pd_ix (pd_var 0) pd_int) pd_int (nomark _)) (pdb_cons (pds_set (i := 2) sc__law_take.nd (pd_op od_mod (pd_fnT cd_int T.no_int (pda_cons (pd_ix (pd_var 0) pd_int) pda_nil)) (pd_var 1)))
    (pdb_cons (pds_setI (pd_var 0) pd_int (pd_op od_fdiv (pd_ix (pd_var 0) pd_int) (pd_var 1)))
    (pdb_one (pds_ret (pd_var 2))))) pdb_nil)
    (pdb_cons (pds_setI (pd_var 0) pd_int (pd_op od_mod (pd_fnT cd_int T.no_int (pda_cons (pd_op od_add (pd_op od_mul (pd_ix (pd_var 0) pd_int) pd_int) pd_int) pda_nil)) pd_int))
    (pdb_one (pds_ret (pd_op od_mod (pd_fnT cd_int T.no_int (pda_cons (pd_op od_fdiv (pd_op od_mod (pd_fnT cd_int T.no_int (pda_cons (pd_op od_mul (pd_ix (pd_var 0) pd_int) (pd_ix (pd_var 0) pd_int)) pda_nil)) pd_int) pd_int) pda_nil)) (pd_var 1))))))
  case r =>
    intro ds μ k ex h
    unfold t__law_take
    obtain ⟨p, many, rfl, ⟨g, s, hp, hg, hs, hs2⟩, h0, hm, h⟩ := h
    walk_at "rd"
    simp only [hp, Option.some.injEq, MO.lst.injEq, exists_eq_left']
    walk_at "rd"
    refine ite2 (fun c => ?_) (fun c => ?_)
    · simp only [hp, Option.some.injEq, MO.lst.injEq, exists_eq_left']
      walk_at "rd"
      simp only [hp, Option.some.injEq, MO.lst.injEq, exists_eq_left']
      walk_at "rd"
      obtain ⟨r1, r2⟩ := fmod_rng g h0
      refine ⟨by omega, ⟨by omega, hm⟩, _, hp, 0, rfl, h _ _ r1 r2 ⟨_, _, mput_same, ?_, hs, hs2⟩ fun a ha => mput_ne ha⟩
      exact Int.fdiv_nonneg hg (by omega)
    · simp only [hp, Option.some.injEq, MO.lst.injEq, exists_eq_left']
      walk_at "rd"
      simp only [hp, Option.some.injEq, MO.lst.injEq, exists_eq_left']
      walk_at "rd"
      obtain ⟨a1, a2⟩ := fmod_rng (s * 48271 + 11) (b := 2147483647) (by decide)
      refine ⟨.inl (.inr ⟨by decide, by decide⟩), .inl (.inl ⟨by omega, by omega⟩), ⟨by decide, by decide⟩, by omega, ?_⟩
      obtain ⟨r1, r2⟩ := fmod_rng ((((s * 48271 + 11).fmod 2147483647 * (s * 48271 + 11).fmod 2147483647).fmod 2147483629).fdiv 64) h0
      exact h _ _ r1 r2 ⟨_, _, mput_same, hg, a1, a2⟩ fun a ha => mput_ne ha
theorem fn__law_take (T : Tx K mg) : FnG P w K mg base 1 "_law_take" ["_law_pool_here", "_law_many"] (sp__law_take K) := by
  obtain ⟨fd, F, hb, ok⟩ := ok__law_take (P := P) (w := w) (base := base) T
  exact ⟨⟨_, fd, T.g__law_take, F.kp, hb, ok⟩⟩
theorem at4 (a b c d : Int) {r : Int} (h0 : 0 ≤ r) (h3 : r < 4) : L2.atI [D.int a, D.int b, D.int c, D.int d] r = some (D.int a) ∨ L2.atI [D.int a, D.int b, D.int c, D.int d] r = some (D.int b) ∨ L2.atI [D.int a, D.int b, D.int c, D.int d] r = some (D.int c) ∨ L2.atI [D.int a, D.int b, D.int c, D.int d] r = some (D.int d) := by
  have : r = 0 ∨ r = 1 ∨ r = 2 ∨ r = 3 := by omega
  rcases this with rfl | rfl | rfl | rfl
  · exact .inl rfl
  · exact .inr (.inl rfl)
  · exact .inr (.inr (.inl rfl))
  · exact .inr (.inr (.inr rfl))
theorem at4' {r : Int} (h0 : 0 ≤ r) (h3 : r < 4) : ∃ v : Int, L2.atI [D.int 3, D.int 12, D.int (10 ^ 9), D.int (10 ^ 30)] r = some (D.int v) ∧ 0 < v ∧ v ≤ 10 ^ 30 := by
  rcases at4 3 12 (10 ^ 9) (10 ^ 30) h0 h3 with h | h | h | h
  · exact ⟨_, h, by decide, by decide⟩
  · exact ⟨_, h, by decide, by decide⟩
  · exact ⟨_, h, by decide, by decide⟩
  · exact ⟨_, h, by decide, by decide⟩
theorem log30 {v : Int} (h0 : 0 < v) (h : v ≤ 10 ^ 30) : v.natAbs.log2 < 9000 := by
  have h3 : v.natAbs.log2 < 8000 := (Nat.log2_lt (by omega)).mpr (Nat.lt_of_le_of_lt (m := 10 ^ 30) (by omega) (by decide +kernel))
  omega
def sp__law_drawn (K : PySem.W.Frag) : SpD := fun ds μ k _ => ∃ (p : Addr) (l : Int), ds = [.ref p, .int l] ∧ (l = 0 ∨ l = 1) ∧ PoolAt μ p ∧ ∀ (t : Int) (μ' : Mu), t.natAbs ≤ 10 ^ 31 → (l = 1 → t ≠ 0) → PoolAt μ' p → (∀ q, q ≠ p → μ' q = μ q) → k (.int t) μ'
def t__law_drawn (K : PySem.W.Frag) (ex : XD) : TSD :=
  (dSeq (dAsg (dOp rIxD (dLst (dCons (dC (.int 3)) (dCons (dC (.int 12)) (dCons (dOp rPowD (dC (.int 10)) (dC (.int 9))) (dCons (dOp rPowD (dC (.int 10)) (dC (.int 30))) dNil))))) (dCall (sp__law_take K) (dCons (dVar 0) (dCons (dC (.int 4)) dNil)))) (.nm 2))
  (dSeq (dAsg (dOp rAddD (dVar 1) (dCall (sp__law_take K) (dCons (dVar 0) (dCons (dVar 2) dNil)))) (.nm 3))
  (dRet (dIf (dTest (dOp (rEqB false) (dCall (sp__law_take K) (dCons (dVar 0) (dCons (dC (.int 2)) dNil))) (dC (.int 1)))) (dUn (rU1 fun i => .int (-i)) (dVar 3)) (dVar 3)))))
set_option maxHeartbeats 4000000 in
theorem ok__law_drawn (T : Tx K mg) : ∃ fd, FunD K "_law_drawn" "_law_drawn" (defArgs s__law_drawn) (defBody s__law_drawn) (defScope s__law_drawn) [] [] (He.fAd K ("_law_drawn", none)) fd ∧ Binds K fd ["_law_pool_here", "_law_least"] [] ∧ FnOk P w K mg base (CXe P w) 2 (He.fAd K ("_law_drawn", none)) fd ["_law_pool_here", "_law_least"] (lSp K (sp__law_drawn K)) := by
  obtain ⟨fd, F⟩ := T.d__law_drawn
  refine ⟨fd, F, F.bindsN (fun _ _ _ _ _ _ us hl => match us, hl with | [_, _], _ => rfl), ?_⟩
  refine okD (t := t__law_drawn K) F sc__law_drawn ?l ?b ?r
  case l =>
    intro ds μ k ex h
    obtain ⟨_, _, rfl, _⟩ := h; rfl
  case b =>
    intro cdv A outer s H E B ex hr tk
    have hp := passes_of (X := cxOf (CXe P w) P w K mg base _law_drawn_N "_law_drawn" (defScope s__law_drawn) (He.fAd K ("_law_drawn", none)) cdv A outer s H E) rfl
    exact (pdb_cons (pds_set (i := 2) sc__law_drawn.nd (pd_ix (pd_lst (pda_cons pd_int (pda_cons pd_int (pda_cons (pd_op od_pow pd_int pd_int) (pda_cons (pd_op od_pow pd_int pd_int) pda_nil))))) (pd_call (fn__law_take (P := P) (w := w) (base := base) T) (hr.mono (by decide)) (pda_cons (pd_var 0) (pda_cons pd_int pda_nil)))))
    (pdb_cons (pds_set (i := 3) sc__law_drawn.nd (pd_op od_add (pd_var 1) (pd_call (fn__law_take (P := P) (w := w) (base := base) T) (hr.mono (by decide)) (pda_cons (pd_var 0) (pda_cons (pd_var 2) pda_nil)))))
    (pdb_one (pds_ret (pd_if (pdt_cmp (od_eq hr.units) (pd_call (fn__law_take (P := P) (w := w) (base := base) T) (hr.mono (by decide)) (pda_cons (pd_var 0) (pda_cons pd_int pda_nil))) pd_int (nomark _)) (pd_un ud_neg (pd_var 3)) (pd_var 3))))))
  case r =>
    intro ds μ k ex h
    unfold t__law_drawn
    obtain ⟨p, l, rfl, hl, hp, h⟩ := h
    walk_at "rd"
    refine ⟨⟨by decide, by decide, by decide⟩, ⟨by decide, by decide, by decide⟩, p, 4, rfl, hp, by decide, by decide, fun r1 μ1 h1 h2 p1 f1 => ?_⟩
    obtain ⟨v, hv, v1, v2⟩ := at4' h1 h2
    walk_at "rd"
    refine ⟨_, hv, p, v, rfl, p1, v1, log30 v1 v2, fun r2 μ2 a1 a2 p2 f2 => ?_⟩
    walk_at "rd"
    refine ⟨p, 2, rfl, p2, by decide, by decide, fun r4 μ4 c1 c2 p4 f4 => ?_⟩
    walk_at "rd"
    refine ite2 (fun c => ?_) (fun c => ?_)
    · walk_at "rd"
      exact h _ μ4 (by omega) (fun _ => by omega) p4 fun q hq => (f4 q hq).trans ((f2 q hq).trans (f1 q hq))
    · walk_at "rd"
      exact h _ μ4 (by omega) (fun _ => by omega) p4 fun q hq => (f4 q hq).trans ((f2 q hq).trans (f1 q hq))
theorem fn__law_drawn (T : Tx K mg) : FnG P w K mg base 2 "_law_drawn" ["_law_pool_here", "_law_least"] (sp__law_drawn K) := by
  obtain ⟨fd, F, hb, ok⟩ := ok__law_drawn (P := P) (w := w) (base := base) T
  exact ⟨⟨_, fd, T.g__law_drawn, F.kp, hb, ok⟩⟩
theorem at_ints {ns : List Int} {n : Int} (h0 : 0 ≤ n) (c : n < (ns.length : Int)) : ∃ i, L2.atI (List.map D.int ns) n = some (D.int i) := by
  have h1 : n.toNat < ns.length := by omega
  refine ⟨ns[n.toNat], ?_⟩
  unfold L2.atI ixN
  rw [if_pos h0, if_pos (by rw [List.length_map]; exact c)]
  show (List.map D.int ns)[n.toNat]? = _
  rw [List.getElem?_map, List.getElem?_eq_getElem h1]
  rfl
theorem pool_end {n i : Int} {μ : Mu} {k : KD} (h0 : 0 ≤ n) (h63 : n ≤ 63) (h : ∀ (p : Addr) (μ' : Mu), μ p = none → PoolAt μ' p → (∀ (a : Addr), a ≠ p → μ' a = μ a) → k (D.ref p) μ') :
    CMulD 104729 n ∧ CMulD (104729 * n) n ∧ CMulD 7919 n ∧ CPow (i.fmod 2147483629 + 104729 * n * n + 7919 * n + 11) 3 ∧ CPow 10 18 ∧
      CMulD (if i < 0 then -i else i) (if 1000000000000000000 ≤ if i < 0 then -i else i then 1 else 0) ∧
      ∀ (p : Addr), μ p = none → k (D.ref p) (mput μ p (MO.lst [D.int ((if i < 0 then -i else i) * if 1000000000000000000 ≤ if i < 0 then -i else i then 1 else 0), D.int (((i.fmod 2147483629 + 104729 * n * n + 7919 * n + 11) ^ 3).fmod 2147483647)])) := by
  obtain ⟨a1, a2⟩ := fmod_rng i (b := 2147483629) (by decide)
  have hn : 0 ≤ 104729 * n * n ∧ 104729 * n * n ≤ 104729 * 63 * 63 := by
    have h1 : 104729 * n ≤ 104729 * 63 := by omega
    exact ⟨Int.mul_nonneg (by omega) h0, Int.mul_le_mul h1 h63 h0 (by decide)⟩
  refine ⟨.inl (.inl ⟨by decide, by decide⟩), .inl (.inr ⟨by omega, by omega⟩), .inl (.inl ⟨by decide, by decide⟩), ⟨by decide, by decide, by omega⟩, ⟨by decide, by decide, by decide⟩, .inl (.inr ?_), fun p np => h p _ np ⟨_, _, mput_same, ?_, ?_, ?_⟩ fun a ha => mput_ne ha⟩
  · constructor <;> ((repeat' split) <;> decide)
  · refine Int.mul_nonneg ?_ ?_
    · split <;> omega
    · split <;> omega
  · exact (fmod_rng _ (by decide)).1
  · exact (fmod_rng _ (by decide)).2
def sp__law_pool (K : PySem.W.Frag) : SpD := fun ds μ k _ => ∃ (ns : List Int) (n : Int), ds = [.lst (ns.map .int), .int n] ∧ 0 ≤ n ∧ n ≤ 63 ∧
  ∀ (p : Addr) (μ' : Mu), μ p = none → PoolAt μ' p → (∀ a, a ≠ p → μ' a = μ a) → k (.ref p) μ'
def t__law_pool (K : PySem.W.Frag) (ex : XD) : TSD :=
  (dSeq (dAsg (dC (.int 0)) (.nm 2))
  (dSeq (dIfS (dTest (dOp rLtD (dVar 1) (dArgs rLenD (dCons (dVar 0) dNil)))) (dAsg (dOp rIxD (dVar 0) (dVar 1)) (.nm 2)) dNext)
  (dSeq (dAsg (dArgs (rInt1 fun i => .int (if i < 0 then -i else i)) (dCons (dVar 2) dNil)) (.nm 3))
  (dSeq (dAsg (dOp rModD (dArgs rIntD (dCons (dOp rPowD (dOp rAddD (dOp rAddD (dOp rAddD (dOp rModD (dArgs rIntD (dCons (dVar 2) dNil)) (dC (.int 2147483629))) (dOp rMulD (dOp rMulD (dC (.int 104729)) (dVar 1)) (dVar 1))) (dOp rMulD (dC (.int 7919)) (dVar 1))) (dC (.int 11))) (dC (.int 3))) dNil)) (dC (.int 2147483647))) (.nm 4))
  (dRet (dLstM (dCons (dOp rMulD (dVar 3) (dArgs rIntD (dCons (dOp rGeD (dVar 3) (dOp rPowD (dC (.int 10)) (dC (.int 18)))) dNil))) (dCons (dVar 4) dNil))))))))
set_option maxHeartbeats 4000000 in
theorem ok__law_pool (T : Tx K mg) : ∃ fd, FunD K "_law_pool" "_law_pool" (defArgs s__law_pool) (defBody s__law_pool) (defScope s__law_pool) [] [] (He.fAd K ("_law_pool", none)) fd ∧ Binds K fd ["_law_script", "_law_k"] [] ∧ FnOk P w K mg base (CXe P w) 1 (He.fAd K ("_law_pool", none)) fd ["_law_script", "_law_k"] (lSp K (sp__law_pool K)) := by
  obtain ⟨fd, F⟩ := T.d__law_pool
  refine ⟨fd, F, F.bindsN (fun _ _ _ _ _ _ us hl => match us, hl with | [_, _], _ => rfl), ?_⟩
  refine okD (t := t__law_pool K) F sc__law_pool ?l ?b ?r
  case l =>
    intro ds μ k ex h
    obtain ⟨_, _, rfl, _⟩ := h; rfl
  case b =>
    intro cdv A outer s H E B ex hr tk
    have hp := passes_of (X := cxOf (CXe P w) P w K mg base _law_pool_N "_law_pool" (defScope s__law_pool) (He.fAd K ("_law_pool", none)) cdv A outer s H E) rfl
    exact (pdb_cons (pds_set (i := 2) sc__law_pool.nd pd_int)
    (pdb_cons (pds_if (pdt_cmp od_lt (pd_var 1) (pd_fnB cd_len T.no_len (pda_cons (pd_var 0) pda_nil)) (nomark _)) (pdb_one (pds_set (i := 2) sc__law_pool.nd (pd_ix (pd_var 0) (pd_var 1)))) pdb_nil)
    (pdb_cons (pds_set (i := 3) sc__law_pool.nd (pd_fnB cd_abs T.no_abs (pda_cons (pd_var 2) pda_nil)))
    (pdb_cons (pds_set (i := 4) sc__law_pool.nd (pd_op od_mod (pd_fnT cd_int T.no_int (pda_cons (pd_op od_pow (pd_op od_add (pd_op od_add (pd_op od_add (pd_op od_mod (pd_fnT cd_int T.no_int (pda_cons (pd_var 2) pda_nil)) pd_int) (pd_op od_mul (pd_op od_mul pd_int (pd_var 1)) (pd_var 1))) (pd_op od_mul pd_int (pd_var 1))) pd_int) pd_int) pda_nil)) pd_int))
    (pdb_one (pds_ret (pd_lstM (pda_cons (pd_op od_mul (pd_var 3) (pd_fnT cd_int T.no_int (pda_cons (pd_cmp od_ge (pd_var 3) (pd_op od_pow pd_int pd_int) (nomark _)) pda_nil))) (pda_cons (pd_var 4) pda_nil)))))))))
  case r =>
    intro ds μ k ex h
    unfold t__law_pool
    obtain ⟨ns, n, rfl, h0, h63, h⟩ := h
    walk_at "rd"
    refine ite2 (fun c => ?_) (fun c => ?_)
    · rw [List.length_map] at c
      obtain ⟨i, hi⟩ := at_ints h0 c
      simp only [hi, Option.some.injEq, exists_eq_left']
      walk_at "rd"
      exact pool_end h0 h63 h
    · exact pool_end (i := 0) h0 h63 h
theorem fn__law_pool (T : Tx K mg) : FnG P w K mg base 1 "_law_pool" ["_law_script", "_law_k"] (sp__law_pool K) := by
  obtain ⟨fd, F, hb, ok⟩ := ok__law_pool (P := P) (w := w) (base := base) T
  exact ⟨⟨_, fd, T.g__law_pool, F.kp, hb, ok⟩⟩
def sp_law (K : PySem.W.Frag) : SpD := fun ds μ k _ => ∃ ns : List Int, ds = [.lst (ns.map .int)] ∧ ns.length ≤ 63 ∧ ∀ μ', k (.bl true) μ'
def t_law_b1 (K : PySem.W.Frag) (ex : XD) : TSD :=
  (dSeq (dAsg (dCall (sp__law_pool K) (dCons (dVar 0) (dCons (dVar 1) dNil))) (.nm 2))
  (dSeq (dAsg (dLst (dCons (dTup (dCons (dCall (sp__law_drawn K) (dCons (dVar 2) (dCons (dC (.int 0)) dNil))) (dCons (dCall (sp__law_drawn K) (dCons (dVar 2) (dCons (dC (.int 1)) dNil))) dNil))) (dCons (dTup (dCons (dCall (sp__law_drawn K) (dCons (dVar 2) (dCons (dC (.int 0)) dNil))) (dCons (dCall (sp__law_drawn K) (dCons (dVar 2) (dCons (dC (.int 1)) dNil))) dNil))) dNil))) (.nm 3))
  (dSeq (dPar 7 8 (dCons (dOp rAddD (dC (.int 1)) (dCall (sp__law_take K) (dCons (dVar 2) (dCons (dC (.int 12)) dNil)))) (dCons (dCall (sp__law_drawn K) (dCons (dVar 2) (dCons (dC (.int 0)) dNil))) dNil)))
  (dSeq (dAsg (dArgs (rMake (He.ga K "Ratio") (sp_Ratio___init__ K)) (dCons (dOp rMulD (dOp rIxD (dOp rIxD (dVar 3) (dC (.int 0))) (dC (.int 0))) (dVar 7)) (dCons (dOp rMulD (dOp rIxD (dOp rIxD (dVar 3) (dC (.int 0))) (dC (.int 1))) (dVar 7)) dNil))) (.nm 4))
  (dSeq (dAsg (dMakeS (He.ga K "Ratio") 0 2 [.a 0, .k 1, .k 0] [.int 1] (sp_Ratio___init__ K) w0 (dPK dNil (dCons (dOp rIxD (dOp rIxD (dVar 3) (dC (.int 1))) (dC (.int 1))) (dCons (dOp rIxD (dOp rIxD (dVar 3) (dC (.int 1))) (dC (.int 0))) dNil)))) (.nm 5))
  (dSeq (dIfS (dOr (dNot (dTest (dCall (sp__law_is K) (dCons (dVar 4) (dCons (dOp rIxD (dOp rIxD (dVar 3) (dC (.int 0))) (dC (.int 0))) (dCons (dOp rIxD (dOp rIxD (dVar 3) (dC (.int 0))) (dC (.int 1))) dNil)))))) (dNot (dTest (dCall (sp__law_is K) (dCons (dVar 5) (dCons (dOp rIxD (dOp rIxD (dVar 3) (dC (.int 1))) (dC (.int 0))) (dCons (dOp rIxD (dOp rIxD (dVar 3) (dC (.int 1))) (dC (.int 1))) dNil))))))) (dRet (dC (.bl false))) dNext)
  (dSeq (dIfS (dOr (dNot (dTest (dCall (sp__law_pair_right K) (dCons (dOp rIxD (dVar 3) (dC (.int 0))) (dCons (dOp rIxD (dVar 3) (dC (.int 1))) (dCons (dVar 4) (dCons (dVar 5) dNil))))))) (dNot (dTest (dCall (sp__law_pair_right K) (dCons (dOp rIxD (dVar 3) (dC (.int 1))) (dCons (dOp rIxD (dVar 3) (dC (.int 0))) (dCons (dVar 5) (dCons (dVar 4) dNil)))))))) (dRet (dC (.bl false))) dNext)
  (dSeq (dAsg (dTup (dCons (dVar 8) (dCons (dC (.int 1)) dNil))) (.nm 6))
  (dSeq (dIfS (dOr (dNot (dTest (dCall (sp__law_pair_right K) (dCons (dOp rIxD (dVar 3) (dC (.int 0))) (dCons (dVar 6) (dCons (dVar 4) (dCons (dVar 8) dNil))))))) (dNot (dTest (dCall (sp__law_pair_right K) (dCons (dVar 6) (dCons (dOp rIxD (dVar 3) (dC (.int 0))) (dCons (dVar 8) (dCons (dVar 4) dNil)))))))) (dRet (dC (.bl false))) dNext)
  (dSeq (dIfS (dOr (dNot (dTest (dCall (sp__law_is K) (dCons (dMakeS (He.ga K "Ratio") 1 0 [.a 0, .a 1, .d 0] [.int 1] (sp_Ratio___init__ K) w0 (dPK (dCons (dVar 8) dNil) dNil)) (dCons (dVar 8) (dCons (dC (.int 1)) dNil)))))) (dNot (dTest (dCall (sp__law_pair_right K) (dCons (dOp rIxD (dVar 3) (dC (.int 0))) (dCons (dOp rIxD (dVar 3) (dC (.int 0))) (dCons (dVar 4) (dCons (dVar 4) dNil)))))))) (dRet (dC (.bl false))) dNext)
  (dSeq (dIfS (dOr (dNot (dTest (dCall (sp__law_is K) (dCons (dUn (rUn (He.ga K "Ratio") (sp_Ratio___neg__ K)) (dVar 4)) (dCons (dUn (rU1 fun i => .int (-i)) (dOp rIxD (dOp rIxD (dVar 3) (dC (.int 0))) (dC (.int 0)))) (dCons (dOp rIxD (dOp rIxD (dVar 3) (dC (.int 0))) (dC (.int 1))) dNil)))))) (dNot (dTest (dCall (sp__law_is K) (dCons (dArgs (rOwn1 (He.ga K "Ratio") (sp_Ratio___abs__ K)) (dCons (dVar 4) dNil)) (dCons (dArgs (rInt1 fun i => .int (if i < 0 then -i else i)) (dCons (dOp rIxD (dOp rIxD (dVar 3) (dC (.int 0))) (dC (.int 0))) dNil)) (dCons (dArgs (rInt1 fun i => .int (if i < 0 then -i else i)) (dCons (dOp rIxD (dOp rIxD (dVar 3) (dC (.int 0))) (dC (.int 1))) dNil)) dNil))))))) (dRet (dC (.bl false))) dNext)
  (dIfS (dOr (dTest (dOp (rEqB true) (dArgs rRepr (dCons (dArgs (rBoolO (He.ga K "Ratio") (sp_Ratio___bool__ K)) (dCons (dVar 4) dNil)) dNil)) (dArgs rRepr (dCons (dOp (rEqB true) (dOp rIxD (dOp rIxD (dVar 3) (dC (.int 0))) (dC (.int 0))) (dC (.int 0))) dNil)))) (dNot (dTest (dCall (sp__law_is K) (dCons (dVar 4) (dCons (dOp rIxD (dOp rIxD (dVar 3) (dC (.int 0))) (dC (.int 0))) (dCons (dOp rIxD (dOp rIxD (dVar 3) (dC (.int 0))) (dC (.int 1))) dNil))))))) (dRet (dC (.bl false))) dNext))))))))))))
theorem rt_rat {h l : Int} (h0 : l ≠ 0) (h1 : h.natAbs ≤ 10 ^ 31) (h2 : l.natAbs ≤ 10 ^ 31) : ∃ g, Rt K (ratD K (redT h l) (redB h l)) h l (redT h l) (redB h l) g := by
  obtain ⟨g, g0, e1, e2, l1, l2, l3⟩ := red_is h h0
  exact ⟨g, .inr rfl, g0, by omega, e1, e2, by omega, by omega, by omega, by omega⟩
theorem k71_main (T : Tx K mg) {ex : XD} {ns : List Int} (hl : ns.length ≤ 63) {E : EndsD} {i : Int} (h0 : 0 ≤ i) (h63 : i ≤ 63) {μ : Mu} {o2 o3 o4 o5 o6 o7 o8 : Option D}
    (hE : ∀ v2 v3 v4 v5 v6 v7 v8 μ', E.nx [some (.lst (ns.map .int)), some (.int i), v2, v3, v4, v5, v6, v7, v8] μ') :
    t_law_b1 K ex E [some (.lst (ns.map .int)), some (.int i), o2, o3, o4, o5, o6, o7, o8] μ := by
  unfold t_law_b1
  walk_at "rd"
  refine ⟨ns, i, rfl, h0, h63, fun p μ1 np p1 f1 => ?_⟩
  refine ⟨p, 0, rfl, .inl rfl, p1, fun t1 μ2 x1 _ p2 f2 => ?_⟩
  refine ⟨p, 1, rfl, .inr rfl, p2, fun b1 μ3 x2 x3 p3 f3 => ?_⟩
  refine ⟨p, 0, rfl, .inl rfl, p3, fun t2 μ4 y1 _ p4 f4 => ?_⟩
  refine ⟨p, 1, rfl, .inr rfl, p4, fun b2 μ5 y2 y3 p5 f5 => ?_⟩
  walk_at "rd"
  refine ⟨p, 12, rfl, p5, by decide, by decide, fun r6 μ6 c1 c2 p6 f6 => ?_⟩
  walk_at "rd"
  refine ⟨p, 0, rfl, .inl rfl, p6, fun n μ7 z1 _ p7 f7 => ?_⟩
  walk_at "rd"
  have b1z : b1 ≠ 0 := x3 rfl
  have b2z : b2 ≠ 0 := y3 rfl
  have fz : (1 + r6) ≠ 0 := by omega
  have sc : redT (t1 * (1 + r6)) (b1 * (1 + r6)) = redT t1 b1 ∧ redB (t1 * (1 + r6)) (b1 * (1 + r6)) = redB t1 b1 := by
    rw [Int.mul_comm t1, Int.mul_comm b1]
    exact red_scale fz b1z
  have sm1 : Sm (1 + r6) := smA (by omega)
  refine ⟨sm_mul' (smA (by omega)) sm1, sm_mul' (smA (by omega)) sm1, mk_rat (Int.mul_ne_zero b1z fz) (sm_prod8 (smA (by omega)) sm1) ?_⟩
  rw [sc.1, sc.2]
  intro q nq
  refine ⟨q, t2, b2, rfl, mput_same, b2z, Nat.lt_of_le_of_lt y2 (by decide +kernel), rfl, _, mput_same, ?_⟩
  rw [mput_mput, mdel_mput nq]
  have l1 : b1.natAbs < 2 ^ 8000 := Nat.lt_of_le_of_lt x2 (by decide +kernel)
  have l2 : b2.natAbs < 2 ^ 8000 := Nat.lt_of_le_of_lt y2 (by decide +kernel)
  obtain ⟨g1, R1⟩ := rt_rat (K := K) b1z x1 x2
  obtain ⟨g2, R2⟩ := rt_rat (K := K) b2z y1 y2
  have R3 : Rt K (.int n) n 1 n 1 1 := ⟨.inl ⟨rfl, rfl⟩, by decide, by decide, by omega, by omega, by omega, by decide, by omega, by decide⟩
  refine ⟨t1, b1, 1, _, _, rfl, b1z, by decide, by omega, by omega, l1, _, rfl, iteF ?_⟩
  refine ⟨t2, b2, 1, _, _, rfl, b2z, by decide, by omega, by omega, l2, _, rfl, iteF ?_⟩
  refine ⟨_, _, _, _, _, _, _, _, _, _, g1, g2, rfl, R1, R2, .inl rfl, _, rfl, iteF ?_⟩
  refine ⟨_, _, _, _, _, _, _, _, _, _, g2, g1, rfl, R2, R1, .inl rfl, _, rfl, iteF ?_⟩
  refine ⟨_, _, _, _, _, _, _, _, _, _, g1, 1, rfl, R1, R3, .inl rfl, _, rfl, iteF ?_⟩
  refine ⟨_, _, _, _, _, _, _, _, _, _, 1, g1, rfl, R3, R1, .inr rfl, _, rfl, iteF ?_⟩
  intro q2 nq2
  refine ⟨q2, n, 1, rfl, mput_same, by decide, Nat.lt_of_le_of_lt (m := 1) (by decide) (Nat.one_lt_two_pow (by decide)), rfl, _, mput_same, ?_⟩
  rw [mput_mput, mdel_mput nq2]
  refine ⟨n, 1, 1, _, _, rfl, by decide, by decide, by omega, by omega, Nat.lt_of_le_of_lt (m := 1) (by decide) (Nat.one_lt_two_pow (by decide)), _, rfl, iteF ?_⟩
  refine ⟨_, _, _, _, _, _, _, _, _, _, g1, g1, rfl, R1, R1, .inl rfl, _, rfl, iteF ?_⟩
  obtain ⟨g, g0, e1, e2, d1, d2, d3⟩ := red_is t1 b1z
  have sB : Sm (redB t1 b1) := smA (by omega)
  refine ⟨⟨_, rfl⟩, redT t1 b1, redB t1 b1, rfl, sB, by omega, ?_⟩
  refine ⟨-redT t1 b1, redB t1 b1, g, _, _, rfl, by omega, g0, by rw [Int.mul_neg, ← e1], e2, l1, _, rfl, iteF ?_⟩
  have ea : (if t1 < 0 then -t1 else t1) = (if g < 0 then -g else g) * (if redT t1 b1 < 0 then -redT t1 b1 else redT t1 b1) := by
    have f : ∀ i : Int, (if i < 0 then -i else i) = (i.natAbs : Int) := fun i => by split <;> omega
    rw [f, f, f, ← Int.natCast_mul, ← Int.natAbs_mul, ← e1]
  have eb : (if b1 < 0 then -b1 else b1) = (if g < 0 then -g else g) * redB t1 b1 := by
    have f : ∀ i : Int, (if i < 0 then -i else i) = (i.natAbs : Int) := fun i => by split <;> omega
    have f2 : (redB t1 b1) = ((redB t1 b1).natAbs : Int) := by omega
    rw [f, f, f2, ← Int.natCast_mul, ← Int.natAbs_mul, ← e2]
  refine ⟨_, _, rfl, rfl, redT t1 b1, redB t1 b1, rfl, sB, by omega, ?_⟩
  refine ⟨_, redB t1 b1, _, _, _, rfl, by omega, ?_, ea, eb, ?_, _, rfl, iteF ?_⟩
  · split <;> omega
  · have : (if b1 < 0 then -b1 else b1).natAbs = b1.natAbs := by split <;> omega
    rw [this]
    exact l1
  have ez : decide (redT t1 b1 = 0) = decide (t1 = 0) := by
    refine decide_eq_decide.mpr ⟨fun z => by rw [e1, z, Int.mul_zero], fun z => ?_⟩
    rw [z] at e1
    rcases Int.mul_eq_zero.mp e1.symm with q | q
    · exact absurd q g0
    · rw [z]; exact q
  refine ⟨_, _, rfl, rfl, redT t1 b1, redB t1 b1, rfl, _, rfl, ?_⟩
  rw [ez]
  refine ⟨_, rfl, _, rfl, ?_⟩
  rw [decide_eq_true rfl]
  refine iteF ⟨t1, b1, 1, _, _, rfl, b1z, by decide, by omega, by omega, l1, _, rfl, iteF (hE _ _ _ _ _ _ _ _)⟩
theorem k71_loop (T : Tx K mg) {ex : XD} {ns : List Int} (hl : ns.length ≤ 63) {E : EndsD} (hE : ∀ ρ μ, E.nx ρ μ) : ∀ (n : Nat) (lo : Int) (μ : Mu), 0 ≤ lo → lo + n ≤ 64 → ∀ o1 o2 o3 o4 o5 o6 o7 o8 : Option D,
    dLoop (.nm 1) (t_law_b1 K ex) E (rngD lo n) [some (.lst (ns.map .int)), o1, o2, o3, o4, o5, o6, o7, o8] μ := by
  intro n
  induction n with
  | zero => intro lo μ _ _ o1 o2 o3 o4 o5 o6 o7 o8; exact hE _ _
  | succ n ih =>
    intro lo μ h0 h1 o1 o2 o3 o4 o5 o6 o7 o8
    rw [rng_succ]
    walk_at "lp"
    walk_at "rd"
    refine k71_main T hl h0 (by omega) fun v2 v3 v4 v5 v6 v7 v8 μ' => ?_
    exact ih (lo + 1) μ' (by omega) (by omega) _ _ _ _ _ _ _ _
def t_law (K : PySem.W.Frag) (ex : XD) : TSD :=
  (dSeq (dFor (dRange1 (dCons (dArgs (rInt2 fun i j => .int (if j > i then j else i)) (dCons (dC (.int 1)) (dCons (dArgs (rInt2 fun i j => .int (if j < i then j else i)) (dCons (dArgs rLenD (dCons (dVar 0) dNil)) (dCons (dC (.int 6)) dNil))) dNil))) dNil)) (.nm 1) (t_law_b1 K ex))
  (dRet (dC (.bl true))))
set_option maxHeartbeats 4000000 in
theorem ok_law (T : Tx K mg) : ∃ fd, FunD K "law" "law" (defArgs s_law) (defBody s_law) (defScope s_law) [] [] (He.fAd K ("law", none)) fd ∧ Binds K fd ["_law_script"] [] ∧ FnOk P w K mg base (CXe P w) 8 (He.fAd K ("law", none)) fd ["_law_script"] (lSp K (sp_law K)) := by
  obtain ⟨fd, F⟩ := T.d_law
  refine ⟨fd, F, F.bindsN (fun _ _ _ _ _ _ us hl => match us, hl with | [_], _ => rfl), ?_⟩
  refine okD (t := t_law K) F sc_law ?l ?b ?r
  case l =>
    intro ds μ k ex h
    obtain ⟨_, rfl, _⟩ := h; rfl
  case b =>
    intro cdv A outer s H E B ex hr tk
    have hp := passes_of (X := cxOf (CXe P w) P w K mg base law_N "law" (defScope s_law) (He.fAd K ("law", none)) cdv A outer s H E) rfl
    exact (pdb_cons (pds_for (p := (.nm 1)) hp rfl (pdi_range1 T.no_range (pda_cons (pd_fnB (cd_max2 rfl) T.no_max (pda_cons pd_int (pda_cons (pd_fnB (cd_min2 rfl) T.no_min (pda_cons (pd_fnB cd_len T.no_len (pda_cons (pd_var 0) pda_nil)) (pda_cons pd_int pda_nil))) pda_nil))) pda_nil)) (pg_name (i := 1) sc_law.nd rfl (by first | exact Or.inl rfl | exact Or.inr rfl)) (pdb_cons (pds_set (i := 2) sc_law.nd (pd_call (fn__law_pool (P := P) (w := w) (base := base) T) (hr.mono (by decide)) (pda_cons (pd_var 0) (pda_cons (pd_var 1) pda_nil))))
    (pdb_cons (pds_set (i := 3) sc_law.nd (pd_lst (pda_cons (pd_tup (pda_cons (pd_call (fn__law_drawn (P := P) (w := w) (base := base) T) (hr.mono (by decide)) (pda_cons (pd_var 2) (pda_cons pd_int pda_nil))) (pda_cons (pd_call (fn__law_drawn (P := P) (w := w) (base := base) T) (hr.mono (by decide)) (pda_cons (pd_var 2) (pda_cons pd_int pda_nil))) pda_nil))) (pda_cons (pd_tup (pda_cons (pd_call (fn__law_drawn (P := P) (w := w) (base := base) T) (hr.mono (by decide)) (pda_cons (pd_var 2) (pda_cons pd_int pda_nil))) (pda_cons (pd_call (fn__law_drawn (P := P) (w := w) (base := base) T) (hr.mono (by decide)) (pda_cons (pd_var 2) (pda_cons pd_int pda_nil))) pda_nil))) pda_nil))))
    (pdb_cons (pds_par (i := 7) (j := 8) rfl sc_law.nd (pda_cons (pd_op od_add pd_int (pd_call (fn__law_take (P := P) (w := w) (base := base) T) (hr.mono (by decide)) (pda_cons (pd_var 2) (pda_cons pd_int pda_nil)))) (pda_cons (pd_call (fn__law_drawn (P := P) (w := w) (base := base) T) (hr.mono (by decide)) (pda_cons (pd_var 2) (pda_cons pd_int pda_nil))) pda_nil)))
    (pdb_cons (pds_set (i := 4) sc_law.nd (pd_make (mk_Ratio (P := P) (w := w) (base := base) T) (hr.mono (by decide)) (pda_cons (pd_op od_mul (pd_ix (pd_ix (pd_var 3) pd_int) pd_int) (pd_var 7)) (pda_cons (pd_op od_mul (pd_ix (pd_ix (pd_var 3) pd_int) pd_int) (pd_var 7)) pda_nil))))
    (pdb_cons (pds_set (i := 5) sc_law.nd (pd_makeS (mkS_Ratio_0_bottom_top (P := P) (w := w) (base := base) T) (hr.mono (by decide)) tk0 (pdk_k (pdk_cons (pd_ix (pd_ix (pd_var 3) pd_int) pd_int) (pdk_cons (pd_ix (pd_ix (pd_var 3) pd_int) pd_int) pdk_nil)))))
    (pdb_cons (pds_if (pdt_w (pdw_or (pdt_not (pdt_val (pd_call (fn__law_is (P := P) (w := w) (base := base) T) (hr.mono (by decide)) (pda_cons (pd_var 4) (pda_cons (pd_ix (pd_ix (pd_var 3) pd_int) pd_int) (pda_cons (pd_ix (pd_ix (pd_var 3) pd_int) pd_int) pda_nil)))))) (pdw_or1 (pdt_not (pdt_val (pd_call (fn__law_is (P := P) (w := w) (base := base) T) (hr.mono (by decide)) (pda_cons (pd_var 5) (pda_cons (pd_ix (pd_ix (pd_var 3) pd_int) pd_int) (pda_cons (pd_ix (pd_ix (pd_var 3) pd_int) pd_int) pda_nil))))))))) (pdb_one (pds_ret pd_bl)) pdb_nil)
    (pdb_cons (pds_if (pdt_w (pdw_or (pdt_not (pdt_val (pd_call (fn__law_pair_right (P := P) (w := w) (base := base) T) (hr.mono (by decide)) (pda_cons (pd_ix (pd_var 3) pd_int) (pda_cons (pd_ix (pd_var 3) pd_int) (pda_cons (pd_var 4) (pda_cons (pd_var 5) pda_nil))))))) (pdw_or1 (pdt_not (pdt_val (pd_call (fn__law_pair_right (P := P) (w := w) (base := base) T) (hr.mono (by decide)) (pda_cons (pd_ix (pd_var 3) pd_int) (pda_cons (pd_ix (pd_var 3) pd_int) (pda_cons (pd_var 5) (pda_cons (pd_var 4) pda_nil)))))))))) (pdb_one (pds_ret pd_bl)) pdb_nil)
    (pdb_cons (pds_set (i := 6) sc_law.nd (pd_tup (pda_cons (pd_var 8) (pda_cons pd_int pda_nil))))
    (pdb_cons (pds_if (pdt_w (pdw_or (pdt_not (pdt_val (pd_call (fn__law_pair_right (P := P) (w := w) (base := base) T) (hr.mono (by decide)) (pda_cons (pd_ix (pd_var 3) pd_int) (pda_cons (pd_var 6) (pda_cons (pd_var 4) (pda_cons (pd_var 8) pda_nil))))))) (pdw_or1 (pdt_not (pdt_val (pd_call (fn__law_pair_right (P := P) (w := w) (base := base) T) (hr.mono (by decide)) (pda_cons (pd_var 6) (pda_cons (pd_ix (pd_var 3) pd_int) (pda_cons (pd_var 8) (pda_cons (pd_var 4) pda_nil)))))))))) (pdb_one (pds_ret pd_bl)) pdb_nil)
    (pdb_cons (pds_if (pdt_w (pdw_or (pdt_not (pdt_val (pd_call (fn__law_is (P := P) (w := w) (base := base) T) (hr.mono (by decide)) (pda_cons (pd_makeS (mkS_Ratio_1 (P := P) (w := w) (base := base) T) (hr.mono (by decide)) tk0 (pdk_n (pda_cons (pd_var 8) pda_nil))) (pda_cons (pd_var 8) (pda_cons pd_int pda_nil)))))) (pdw_or1 (pdt_not (pdt_val (pd_call (fn__law_pair_right (P := P) (w := w) (base := base) T) (hr.mono (by decide)) (pda_cons (pd_ix (pd_var 3) pd_int) (pda_cons (pd_ix (pd_var 3) pd_int) (pda_cons (pd_var 4) (pda_cons (pd_var 4) pda_nil)))))))))) (pdb_one (pds_ret pd_bl)) pdb_nil)
    (pdb_cons (pds_if (pdt_w (pdw_or (pdt_not (pdt_val (pd_call (fn__law_is (P := P) (w := w) (base := base) T) (hr.mono (by decide)) (pda_cons (pd_un (ud_own (op_Ratio___neg__ (P := P) (w := w) (base := base) T) (hr.mono (by decide))) (pd_var 4)) (pda_cons (pd_un ud_neg (pd_ix (pd_ix (pd_var 3) pd_int) pd_int)) (pda_cons (pd_ix (pd_ix (pd_var 3) pd_int) pd_int) pda_nil)))))) (pdw_or1 (pdt_not (pdt_val (pd_call (fn__law_is (P := P) (w := w) (base := base) T) (hr.mono (by decide)) (pda_cons (pd_fnB (cd_absO (op_Ratio___abs__ (P := P) (w := w) (base := base) T) (hr.mono (by decide))) T.no_abs (pda_cons (pd_var 4) pda_nil)) (pda_cons (pd_fnB cd_abs T.no_abs (pda_cons (pd_ix (pd_ix (pd_var 3) pd_int) pd_int) pda_nil)) (pda_cons (pd_fnB cd_abs T.no_abs (pda_cons (pd_ix (pd_ix (pd_var 3) pd_int) pd_int) pda_nil)) pda_nil))))))))) (pdb_one (pds_ret pd_bl)) pdb_nil)
    (pdb_one (pds_if (pdt_w (pdw_or (pdt_cmp (od_ne hr.units) (pd_fnB cd_repr T.no_repr (pda_cons (pd_fnT (cd_boolO (op_Ratio___bool__ (P := P) (w := w) (base := base) T) (hr.mono (by decide))) T.no_bool (pda_cons (pd_var 4) pda_nil)) pda_nil)) (pd_fnB cd_repr T.no_repr (pda_cons (pd_cmp (od_ne hr.units) (pd_ix (pd_ix (pd_var 3) pd_int) pd_int) pd_int (nomark _)) pda_nil)) (nomark _)) (pdw_or1 (pdt_not (pdt_val (pd_call (fn__law_is (P := P) (w := w) (base := base) T) (hr.mono (by decide)) (pda_cons (pd_var 4) (pda_cons (pd_ix (pd_ix (pd_var 3) pd_int) pd_int) (pda_cons (pd_ix (pd_ix (pd_var 3) pd_int) pd_int) pda_nil))))))))) (pdb_one (pds_ret pd_bl)) pdb_nil))))))))))))))
    (pdb_one (pds_ret pd_bl)))
  case r =>
    intro ds μ k ex h
    unfold t_law
    obtain ⟨ns, rfl, hl, h⟩ := h
    walk_at "rd"
    rw [List.length_map]
    refine ⟨by (repeat' split) <;> omega, by (repeat' split) <;> omega, ?_⟩
    refine k71_loop T hl (fun ρ μ => ?_) _ _ _ (by decide) (by (repeat' split) <;> omega) _ _ _ _ _ _ _ _
    exact h μ
end
section
variable {P : Program} {w : World} {K : PySem.W.Frag} {mg : Str → Option Value} {base : Heap}
theorem law_ok (T : Tx K mg) {fd : FuncData} (F : FunD K "law" "law" (defArgs s_law) (defBody s_law) (defScope s_law) [] [] (He.fAd K ("law", none)) fd) : FnOk P w K mg base (CXe P w) 8 (He.fAd K ("law", none)) fd ["_law_script"] (lSp K (sp_law K)) := by
  obtain ⟨fd2, F2, hb, ok⟩ := ok_law (P := P) (w := w) (base := base) T
  have e : fd = fd2 := fd_same F F2
  rw [e]
  exact ok
theorem law_end (K : PySem.W.Frag) (ns : List Int) (hl : ns.length ≤ 63) (μ : Mu) : sp_law K [.lst (ns.map D.int)] μ (fun d _ => d = .bl true) x0 := ⟨ns, rfl, hl, fun _ => rfl⟩
end
/-! ### the head -/
def dd_law : DefA := ⟨fun K => He.fAd K ("law", none), "law", "law", defArgs s_law, defBody s_law, defScope s_law, [], []⟩
def dd__law_is : DefA := ⟨fun K => He.fAd K ("_law_is", none), "_law_is", "_law_is", defArgs s__law_is, defBody s__law_is, defScope s__law_is, [], []⟩
def dd__law_low : DefA := ⟨fun K => He.fAd K ("_law_low", none), "_law_low", "_law_low", defArgs s__law_low, defBody s__law_low, defScope s__law_low, [], []⟩
def dd_Ratio___bool__ : DefA := ⟨fun K => He.fAd K ("Ratio", some "__bool__"), "__bool__", "Ratio.__bool__", defArgs s_Ratio___bool__, defBody s_Ratio___bool__, defScope s_Ratio___bool__, [], []⟩
def dd_Ratio___abs__ : DefA := ⟨fun K => He.fAd K ("Ratio", some "__abs__"), "__abs__", "Ratio.__abs__", defArgs s_Ratio___abs__, defBody s_Ratio___abs__, defScope s_Ratio___abs__, [], []⟩
def dd_Ratio___init__ : DefA := ⟨fun K => He.fAd K ("Ratio", some "__init__"), "__init__", "Ratio.__init__", defArgs s_Ratio___init__, defBody s_Ratio___init__, defScope s_Ratio___init__, [.int 1], []⟩
def dd_shared_divisor : DefA := ⟨fun K => He.fAd K ("shared_divisor", none), "shared_divisor", "shared_divisor", defArgs s_shared_divisor, defBody s_shared_divisor, defScope s_shared_divisor, [], []⟩
def dd_is_integer : DefA := ⟨fun K => He.fAd K ("is_integer", none), "is_integer", "is_integer", defArgs s_is_integer, defBody s_is_integer, defScope s_is_integer, [], []⟩
def dd_Ratio___neg__ : DefA := ⟨fun K => He.fAd K ("Ratio", some "__neg__"), "__neg__", "Ratio.__neg__", defArgs s_Ratio___neg__, defBody s_Ratio___neg__, defScope s_Ratio___neg__, [], []⟩
def dd__law_pair_right : DefA := ⟨fun K => He.fAd K ("_law_pair_right", none), "_law_pair_right", "_law_pair_right", defArgs s__law_pair_right, defBody s__law_pair_right, defScope s__law_pair_right, [], []⟩
def dd_Ratio_over : DefA := ⟨fun K => He.fAd K ("Ratio", some "over"), "over", "Ratio.over", defArgs s_Ratio_over, defBody s_Ratio_over, defScope s_Ratio_over, [], []⟩
def dd_quotient_of : DefA := ⟨fun K => He.fAd K ("quotient_of", none), "quotient_of", "quotient_of", defArgs s_quotient_of, defBody s_quotient_of, defScope s_quotient_of, [], []⟩
def dd_bottom_of : DefA := ⟨fun K => He.fAd K ("bottom_of", none), "bottom_of", "bottom_of", defArgs s_bottom_of, defBody s_bottom_of, defScope s_bottom_of, [], []⟩
def dd_top_of : DefA := ⟨fun K => He.fAd K ("top_of", none), "top_of", "top_of", defArgs s_top_of, defBody s_top_of, defScope s_top_of, [], []⟩
def dd_Ratio___floordiv__ : DefA := ⟨fun K => He.fAd K ("Ratio", some "__floordiv__"), "__floordiv__", "Ratio.__floordiv__", defArgs s_Ratio___floordiv__, defBody s_Ratio___floordiv__, defScope s_Ratio___floordiv__, [], []⟩
def dd_whole_quotient : DefA := ⟨fun K => He.fAd K ("whole_quotient", none), "whole_quotient", "whole_quotient", defArgs s_whole_quotient, defBody s_whole_quotient, defScope s_whole_quotient, [], []⟩
def dd_is_term : DefA := ⟨fun K => He.fAd K ("is_term", none), "is_term", "is_term", defArgs s_is_term, defBody s_is_term, defScope s_is_term, [], []⟩
def dd_Ratio___rfloordiv__ : DefA := ⟨fun K => He.fAd K ("Ratio", some "__rfloordiv__"), "__rfloordiv__", "Ratio.__rfloordiv__", defArgs s_Ratio___rfloordiv__, defBody s_Ratio___rfloordiv__, defScope s_Ratio___rfloordiv__, [], []⟩
def dd_Ratio___mul__ : DefA := ⟨fun K => He.fAd K ("Ratio", some "__mul__"), "__mul__", "Ratio.__mul__", defArgs s_Ratio___mul__, defBody s_Ratio___mul__, defScope s_Ratio___mul__, [], []⟩
def dd_Ratio___rmul__ : DefA := ⟨fun K => He.fAd K ("Ratio", some "__rmul__"), "__rmul__", "Ratio.__rmul__", defArgs s_Ratio___rmul__, defBody s_Ratio___rmul__, defScope s_Ratio___rmul__, [], []⟩
def dd_Ratio___sub__ : DefA := ⟨fun K => He.fAd K ("Ratio", some "__sub__"), "__sub__", "Ratio.__sub__", defArgs s_Ratio___sub__, defBody s_Ratio___sub__, defScope s_Ratio___sub__, [], []⟩
def dd_difference_of : DefA := ⟨fun K => He.fAd K ("difference_of", none), "difference_of", "difference_of", defArgs s_difference_of, defBody s_difference_of, defScope s_difference_of, [], []⟩
def dd_Ratio___rsub__ : DefA := ⟨fun K => He.fAd K ("Ratio", some "__rsub__"), "__rsub__", "Ratio.__rsub__", defArgs s_Ratio___rsub__, defBody s_Ratio___rsub__, defScope s_Ratio___rsub__, [], []⟩
def dd_Ratio___add__ : DefA := ⟨fun K => He.fAd K ("Ratio", some "__add__"), "__add__", "Ratio.__add__", defArgs s_Ratio___add__, defBody s_Ratio___add__, defScope s_Ratio___add__, [], []⟩
def dd_sum_of : DefA := ⟨fun K => He.fAd K ("sum_of", none), "sum_of", "sum_of", defArgs s_sum_of, defBody s_sum_of, defScope s_sum_of, [], []⟩
def dd_Ratio___radd__ : DefA := ⟨fun K => He.fAd K ("Ratio", some "__radd__"), "__radd__", "Ratio.__radd__", defArgs s_Ratio___radd__, defBody s_Ratio___radd__, defScope s_Ratio___radd__, [], []⟩
def dd__law_drawn : DefA := ⟨fun K => He.fAd K ("_law_drawn", none), "_law_drawn", "_law_drawn", defArgs s__law_drawn, defBody s__law_drawn, defScope s__law_drawn, [], []⟩
def dd__law_take : DefA := ⟨fun K => He.fAd K ("_law_take", none), "_law_take", "_law_take", defArgs s__law_take, defBody s__law_take, defScope s__law_take, [], []⟩
def dd__law_pool : DefA := ⟨fun K => He.fAd K ("_law_pool", none), "_law_pool", "_law_pool", defArgs s__law_pool, defBody s__law_pool, defScope s__law_pool, [], []⟩
def fbs : List Fb := [.fa (.glo "law"), .fa (.free "len"), .fa (.free "min"), .fa (.free "max"), .fa (.free "range"), .fa (.cls "Ratio"), .fa (.noat "Ratio" "bottom"), .fa (.noat "Ratio" "top"), .fa (.free "int"), .fa (.free "abs"), .fa (.free "isinstance"), .fa (.glo "Ratio"), .fa (.free "bool"), .fa (.free "repr"), .self1 "Ratio", .fa (.meth "Ratio" "__rfloordiv__"), .subT "Ratio" "int" false, .fa (.meth "Ratio" "__rmul__"), .fa (.meth "Ratio" "__rsub__"), .fa (.meth "Ratio" "__radd__"), .fa (.glo "_law_low"), .fa (.glo "_law_is"), .fa (.meth "Ratio" "__bool__"), .fa (.glo "shared_divisor"), .fa (.glo "is_integer"), .fa (.mkr "Ratio"), .fa (.meth "Ratio" "__abs__"), .fa (.meth "Ratio" "__neg__"), .fa (.glo "bottom_of"), .fa (.glo "top_of"), .fa (.glo "quotient_of"), .fa (.meth "Ratio" "over"), .fa (.glo "whole_quotient"), .fa (.glo "is_term"), .fa (.meth "Ratio" "__floordiv__"), .fa (.meth "Ratio" "__mul__"), .fa (.glo "difference_of"), .fa (.meth "Ratio" "__sub__"), .fa (.glo "sum_of"), .fa (.meth "Ratio" "__add__"), .fa (.glo "_law_pair_right"), .fa (.glo "_law_take"), .fa (.glo "_law_drawn"), .fa (.glo "_law_pool"), .insc "Ratio", .kitT "int" "Ratio" false]
def fns : List DefA := [dd_law, dd__law_is, dd__law_low, dd_Ratio___bool__, dd_Ratio___abs__, dd_Ratio___init__, dd_shared_divisor, dd_is_integer, dd_Ratio___neg__, dd__law_pair_right, dd_Ratio_over, dd_quotient_of, dd_bottom_of, dd_top_of, dd_Ratio___floordiv__, dd_whole_quotient, dd_is_term, dd_Ratio___rfloordiv__, dd_Ratio___mul__, dd_Ratio___rmul__, dd_Ratio___sub__, dd_difference_of, dd_Ratio___rsub__, dd_Ratio___add__, dd_sum_of, dd_Ratio___radd__, dd__law_drawn, dd__law_take, dd__law_pool]
abbrev R : PySem.W.OpenRow := PySem.W.OpenLaw.row PySem.Challenge.rw_switchforms_k71_whole_ratios_reckoned
abbrev hk : PySem.W.Hook := hookZ 5 fbs fns
def ob (s : PySem.W.SharedT) : AlZ := obsZG 5 fbs fns (HandSHeadRun.getT s)
theorem ob_eq (s : PySem.W.SharedT) : ob s = hk.obs s.abs := obsZG_eq (HandSHeadRun.getT_eq s)
def names0 : List Str := ["SwitchError", "BadNumber", "NoQuotient", "BadRatio", "DIGITS", "is_numeral", "is_integer", "MOST_DIGITS", "shared_divisor", "is_term", "top_of", "bottom_of", "sum_of", "difference_of", "quotient_of", "whole_quotient", "gap_of", "Ratio", "_law_pool", "_law_take", "_law_low", "_law_drawn", "_law_is", "_law_pair_right"]
def names : List Str := names0
set_option maxHeartbeats 0 in
theorem run (w : World) : HandSHeadRun.RunEq R (PySem.W.view R.prog [29]) hk ob 20000 names w := by
  intro os
  kernel_rfl
theorem facts {K : PySem.W.Frag} {h : Heap} {mg : Str → Option Value} (X : K.In h) (G : h.Ns mainGlobals mg) (c : SaysZ fbs fns K) : Tx K mg where
  g_law := He.glo_ok X G (c.fact 0 (f := .fa (.glo "law")) rfl)
  d_law := c.def_ 0 (d := dd_law) rfl
  no_len := He.free_ok X G (c.fact 1 (f := .fa (.free "len")) rfl)
  no_min := He.free_ok X G (c.fact 2 (f := .fa (.free "min")) rfl)
  no_max := He.free_ok X G (c.fact 3 (f := .fa (.free "max")) rfl)
  no_range := He.free_ok X G (c.fact 4 (f := .fa (.free "range")) rfl)
  d__law_is := c.def_ 1 (d := dd__law_is) rfl
  fld_Ratio_bottom := ⟨He.cls_ok (c.fact 5 (f := .fa (.cls "Ratio")) rfl), He.noat_ok (c.fact 6 (f := .fa (.noat "Ratio" "bottom")) rfl)⟩
  fld_Ratio_top := ⟨He.cls_ok (c.fact 5 (f := .fa (.cls "Ratio")) rfl), He.noat_ok (c.fact 7 (f := .fa (.noat "Ratio" "top")) rfl)⟩
  d__law_low := c.def_ 2 (d := dd__law_low) rfl
  no_int := He.free_ok X G (c.fact 8 (f := .fa (.free "int")) rfl)
  no_abs := He.free_ok X G (c.fact 9 (f := .fa (.free "abs")) rfl)
  no_isinstance := He.free_ok X G (c.fact 10 (f := .fa (.free "isinstance")) rfl)
  g_Ratio := He.glo_ok X G (c.fact 11 (f := .fa (.glo "Ratio")) rfl)
  d_Ratio___bool__ := c.def_ 3 (d := dd_Ratio___bool__) rfl
  no_bool := He.free_ok X G (c.fact 12 (f := .fa (.free "bool")) rfl)
  no_repr := He.free_ok X G (c.fact 13 (f := .fa (.free "repr")) rfl)
  d_Ratio___abs__ := c.def_ 4 (d := dd_Ratio___abs__) rfl
  d_Ratio___init__ := c.def_ 5 (d := dd_Ratio___init__) rfl
  d_shared_divisor := c.def_ 6 (d := dd_shared_divisor) rfl
  d_is_integer := c.def_ 7 (d := dd_is_integer) rfl
  d_Ratio___neg__ := c.def_ 8 (d := dd_Ratio___neg__) rfl
  d__law_pair_right := c.def_ 9 (d := dd__law_pair_right) rfl
  d_Ratio_over := c.def_ 10 (d := dd_Ratio_over) rfl
  d_quotient_of := c.def_ 11 (d := dd_quotient_of) rfl
  d_bottom_of := c.def_ 12 (d := dd_bottom_of) rfl
  d_top_of := c.def_ 13 (d := dd_top_of) rfl
  d_Ratio___floordiv__ := c.def_ 14 (d := dd_Ratio___floordiv__) rfl
  d_whole_quotient := c.def_ 15 (d := dd_whole_quotient) rfl
  d_is_term := c.def_ 16 (d := dd_is_term) rfl
  self_Ratio := self1_ok (c.fact 14 (f := .self1 "Ratio") rfl)
  me_Ratio___rfloordiv__ := He.meth_ok (c.fact 15 (f := .fa (.meth "Ratio" "__rfloordiv__")) rfl)
  d_Ratio___rfloordiv__ := c.def_ 17 (d := dd_Ratio___rfloordiv__) rfl
  si_Ratio := subT_ok (c.fact 16 (f := .subT "Ratio" "int" false) rfl)
  d_Ratio___mul__ := c.def_ 18 (d := dd_Ratio___mul__) rfl
  me_Ratio___rmul__ := He.meth_ok (c.fact 17 (f := .fa (.meth "Ratio" "__rmul__")) rfl)
  d_Ratio___rmul__ := c.def_ 19 (d := dd_Ratio___rmul__) rfl
  d_Ratio___sub__ := c.def_ 20 (d := dd_Ratio___sub__) rfl
  d_difference_of := c.def_ 21 (d := dd_difference_of) rfl
  me_Ratio___rsub__ := He.meth_ok (c.fact 18 (f := .fa (.meth "Ratio" "__rsub__")) rfl)
  d_Ratio___rsub__ := c.def_ 22 (d := dd_Ratio___rsub__) rfl
  d_Ratio___add__ := c.def_ 23 (d := dd_Ratio___add__) rfl
  d_sum_of := c.def_ 24 (d := dd_sum_of) rfl
  me_Ratio___radd__ := He.meth_ok (c.fact 19 (f := .fa (.meth "Ratio" "__radd__")) rfl)
  d_Ratio___radd__ := c.def_ 25 (d := dd_Ratio___radd__) rfl
  d__law_drawn := c.def_ 26 (d := dd__law_drawn) rfl
  d__law_take := c.def_ 27 (d := dd__law_take) rfl
  d__law_pool := c.def_ 28 (d := dd__law_pool) rfl
  g__law_low := He.glo_ok X G (c.fact 20 (f := .fa (.glo "_law_low")) rfl)
  g__law_is := He.glo_ok X G (c.fact 21 (f := .fa (.glo "_law_is")) rfl)
  me_Ratio___bool__ := He.meth_ok (c.fact 22 (f := .fa (.meth "Ratio" "__bool__")) rfl)
  g_shared_divisor := He.glo_ok X G (c.fact 23 (f := .fa (.glo "shared_divisor")) rfl)
  g_is_integer := He.glo_ok X G (c.fact 24 (f := .fa (.glo "is_integer")) rfl)
  m_Ratio := He.mkr_ok (c.fact 25 (f := .fa (.mkr "Ratio")) rfl)
  me_Ratio___abs__ := He.meth_ok (c.fact 26 (f := .fa (.meth "Ratio" "__abs__")) rfl)
  me_Ratio___neg__ := He.meth_ok (c.fact 27 (f := .fa (.meth "Ratio" "__neg__")) rfl)
  g_bottom_of := He.glo_ok X G (c.fact 28 (f := .fa (.glo "bottom_of")) rfl)
  g_top_of := He.glo_ok X G (c.fact 29 (f := .fa (.glo "top_of")) rfl)
  g_quotient_of := He.glo_ok X G (c.fact 30 (f := .fa (.glo "quotient_of")) rfl)
  me_Ratio_over := He.meth_ok (c.fact 31 (f := .fa (.meth "Ratio" "over")) rfl)
  cl_Ratio := He.cls_ok (c.fact 5 (f := .fa (.cls "Ratio")) rfl)
  g_whole_quotient := He.glo_ok X G (c.fact 32 (f := .fa (.glo "whole_quotient")) rfl)
  g_is_term := He.glo_ok X G (c.fact 33 (f := .fa (.glo "is_term")) rfl)
  me_Ratio___floordiv__ := He.meth_ok (c.fact 34 (f := .fa (.meth "Ratio" "__floordiv__")) rfl)
  me_Ratio___mul__ := He.meth_ok (c.fact 35 (f := .fa (.meth "Ratio" "__mul__")) rfl)
  g_difference_of := He.glo_ok X G (c.fact 36 (f := .fa (.glo "difference_of")) rfl)
  me_Ratio___sub__ := He.meth_ok (c.fact 37 (f := .fa (.meth "Ratio" "__sub__")) rfl)
  g_sum_of := He.glo_ok X G (c.fact 38 (f := .fa (.glo "sum_of")) rfl)
  me_Ratio___add__ := He.meth_ok (c.fact 39 (f := .fa (.meth "Ratio" "__add__")) rfl)
  g__law_pair_right := He.glo_ok X G (c.fact 40 (f := .fa (.glo "_law_pair_right")) rfl)
  g__law_take := He.glo_ok X G (c.fact 41 (f := .fa (.glo "_law_take")) rfl)
  g__law_drawn := He.glo_ok X G (c.fact 42 (f := .fa (.glo "_law_drawn")) rfl)
  g__law_pool := He.glo_ok X G (c.fact 43 (f := .fa (.glo "_law_pool")) rfl)
  ic_Ratio := insc_ok (c.fact 44 (f := .insc "Ratio") rfl)
  k_int_Ratio := kitT_ok (c.fact 45 (f := .kitT "int" "Ratio" false) rfl)
end Lk
open PySem PySem.W PySem.Calls PyProof.Rows
set_option maxHeartbeats 0 in
theorem PySem.Challenge.cw_switchforms_k71_whole_ratios_reckoned_holds : PySem.Challenge.rw_switchforms_k71_whole_ratios_reckoned.Holds := by
  w_on; o_law
  refine HandSHeadRun.head_any (r := OpenLaw.row PySem.Challenge.rw_switchforms_k71_whole_ratios_reckoned) (q := view (OpenLaw.row PySem.Challenge.rw_switchforms_k71_whole_ratios_reckoned).prog [29]) (H := Lk.hk) (ob := Lk.ob) (M := 20000) (loose := Lk.names) (d := HandSHeadRun.topDef (OpenLaw.row PySem.Challenge.rw_switchforms_k71_whole_ratios_reckoned).prog 29) (kwd := []) Lk.ob_eq
    (by kernel_rfl) (fun s => by kernel_rfl) Lk.run (by kernel_rfl) (by kernel_rfl) (by kernel_rfl) (by rfl) (by first | assumption | decide +kernel) (by decide +kernel) ⟨rfl, rfl, rfl, rfl, rfl, by decide +kernel⟩ ?hw ?hc
  case hw => w_witness2
  case hc =>
    refine L2.walk_ofE2 (l := PySem.Challenge.rw_switchforms_k71_whole_ratios_reckoned) (n := 63) (k := 8) (x := "_law_script") (CX := fun w => Dl.CXe (PySem.Challenge.rw_switchforms_k71_whole_ratios_reckoned).prog w) rfl (by decide) (by kernel_rfl) ⟨rfl, by decide, by decide⟩ ?F (fun w _ _ _ _ z => Dl.cxe_none z)
    intro w mg fa h Y G hmg0
    obtain ⟨K, KX, c⟩ := Y
    have T := Lk.facts KX G c
    have hmg : mg ("law" : PySem.Str) = some (.ref fa) := by
      have e : (HandSHeadRun.topDef (OpenLaw.row PySem.Challenge.rw_switchforms_k71_whole_ratios_reckoned).prog 29).name = ("law" : PySem.Str) := by kernel_rfl
      rw [← e]
      exact hmg0
    have e := hmg.symm.trans T.g_law
    cases e
    obtain ⟨fd, F⟩ := T.d_law
    have b := L2.FunD.bindsA (ps := ["_law_script"]) F fun _ _ _ _ _ _ us hl => match us, hl with | [_], _ => rfl
    exact ⟨K, fd, Dl.lSp K (Lk.sp_law K), KX, fun s v => b s [v] rfl, fun H a ns hl _ hS => Dl.end_sp hS fun μ => Lk.law_end K ns hl μ, fun base _ _ => Lk.law_ok T F⟩
