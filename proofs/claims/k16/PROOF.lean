import PyProof.Rows.All
import Wide.All
import OpenK.AllK
import Wide.FinOn
import HandS.ForMost
import HandS.Evl
import HandS.HeadHook2
import HandS.Wide
import HandS.ForExc
import HandS.Defaults
import HandS.CallSlots
import HandS.Conv
import HandS.SortInts
import HandS.Style
import HandS.Deep
import HandS.NoneIn
import HandS.IsInst
import HandS.More
import HandS.SetFor
import HandS.TupLen
import KE.KDictZip
import KE.DatumOrd
import HandS.ListItems
import Wide.Txt2
import KE.KDictDisplayH
import HandS.Head0
import HandS.Head1
import HandS.Head2
import HandS.HeadEnd
import HandS.HeadHook1
import PySem.Challenge.RW_swapweb_k16_fewest_of_short_orders
set_option Elab.async false
set_option linter.all false
set_option maxRecDepth 100000
/-! The data layer, part 1: data, how they lie in a heap, the state of a body. -/
namespace DL
open PySem PySem.Spec PyProof.Rows L2

/-- data: what a value is worth, whatever its addresses -/
inductive D where
  | non | bl (b : Bool) | int (i : Int) | str (s : Str)
  | tup (l : List D) | lst (l : List D)
  | dic (t : Bool) (ks vs : List D)
  | obj (c : Str) (ns : List Str) (vs : List D)
  deriving Inhabited

abbrev Fp := List Addr

/-- keys of dicts -/
def keyD : Key → D
  | .inl i => .int i
  | .inr s => .str s
def DicAt (H : Hp) (a : Addr) : Bool → List D → List V → Prop
  | false, ks, us => ∃ kvs : List (Key × V), Rd H a (.dK kvs) ∧ ks = kvs.map (fun p => keyD p.1) ∧ us = kvs.map (fun p => p.2) ∧ (kvs.map (fun p => p.1)).Nodup
  | true, ks, us => ∃ kvs : List (List Key × V), Rd H a (.dT kvs) ∧ ks = kvs.map (fun p => .tup (p.1.map keyD)) ∧ us = kvs.map (fun p => p.2) ∧ (kvs.map (fun p => p.1)).Nodup
/-- a list that the module's top has written -/
def KL (K : PySem.W.Frag) (a : Addr) (xs : List V) : Prop :=
  ∃ (o : Obj) (its : Array Value) (n : Nat), K.lookup a = some o ∧ o.cls = .type "list" ∧ o.dict = none ∧ o.data = .seq its n ∧ its.size ≤ sizeLine ∧ Vals xs its.toList

mutual
/-- v is worth d in H; the objects that may be written lie at fp -/
def Rep (K : PySem.W.Frag) (kl : Bool) (C : Str → Addr) (H : Hp) : D → V → Fp → Prop
  | .non, v, fp => v = .non ∧ fp = []
  | .bl b, v, fp => v = .bl b ∧ fp = []
  | .int i, v, fp => v = .int i ∧ fp = []
  | .str s, v, fp => v = .str s ∧ fp = []
  | .tup l, v, fp => ∃ a vs, v = .ref a ∧ H a = some (.tup vs) ∧ Reps K kl C H l vs fp
  | .lst l, v, fp => ∃ a vs fs, v = .ref a ∧ Reps K kl C H l vs fs ∧ ((Rd H a (.lst vs) ∧ fp = a :: fs) ∨ (kl = true ∧ KL K a vs ∧ fp = fs))
  | .dic t ks l, v, fp => ∃ a vs fs, v = .ref a ∧ Reps K kl C H l vs fs ∧ DicAt H a t ks vs ∧ fp = a :: fs
  | .obj c ns l, v, fp => ∃ a dx vs fs, v = .ref a ∧ Reps K kl C H l vs fs ∧ H a = some (.ins (C c) dx (ns.zip vs)) ∧ ns.length = vs.length ∧ fp = a :: fs
def Reps (K : PySem.W.Frag) (kl : Bool) (C : Str → Addr) (H : Hp) : List D → List V → Fp → Prop
  | [], vs, fp => vs = [] ∧ fp = []
  | d :: ds, vs, fp => ∃ v vs' f1 f2, vs = v :: vs' ∧ fp = f1 ++ f2 ∧ Rep K kl C H d v f1 ∧ Reps K kl C H ds vs' f2
end

mutual
/-- nothing that may be written is in it -/
def imm : D → Bool
  | .non => true
  | .bl _ => true
  | .int _ => true
  | .str _ => true
  | .tup l => imms l
  | .lst _ => false
  | .dic _ _ _ => false
  | .obj _ _ _ => false
def imms : List D → Bool
  | [] => true
  | d :: ds => imm d && imms ds
end

section
variable {K : PySem.W.Frag} {kl : Bool} {C : Str → Addr} {H H' : Hp}
theorem reps_nil : Reps K kl C H [] [] [] := ⟨rfl, rfl⟩
theorem reps_cons {d : D} {ds : List D} {v : V} {vs : List V} {f1 f2 : Fp} (h1 : Rep K kl C H d v f1) (h2 : Reps K kl C H ds vs f2) : Reps K kl C H (d :: ds) (v :: vs) (f1 ++ f2) := ⟨v, vs, f1, f2, rfl, rfl, h1, h2⟩
theorem reps_len : ∀ {ds : List D} {vs : List V} {fp : Fp}, Reps K kl C H ds vs fp → vs.length = ds.length
  | [], _, _, ⟨e, _⟩ => by rw [e]; rfl
  | d :: ds, _, _, ⟨v, vs, f1, f2, e, _, _, h⟩ => by rw [e]; simp [reps_len h]

mutual
/-- the general frame: what stands at fp and the tuples stay -/
theorem rep_frame : ∀ {d : D} {v : V} {fp : Fp}, Rep K kl C H d v fp → (∀ a ∈ fp, ∀ o, H a = some o → H' a = some o) → (∀ a xs, H a = some (.tup xs) → H' a = some (.tup xs)) → Rep K kl C H' d v fp
  | .non, _, _, h, _, _ => h
  | .bl _, _, _, h, _, _ => h
  | .int _, _, _, h, _, _ => h
  | .str _, _, _, h, _, _ => h
  | .tup l, v, fp, h, k, t => by
    unfold Rep at h ⊢
    obtain ⟨a, vs, e, ht, hr⟩ := h
    exact ⟨a, vs, e, t _ _ ht, reps_frame hr k t⟩
  | .lst l, v, fp, h, k, t => by
    unfold Rep at h ⊢
    obtain ⟨a, vs, fs, e, hr, h⟩ := h
    rcases h with ⟨hl, rfl⟩ | ⟨hkl, hl, rfl⟩
    · refine ⟨a, vs, fs, e, reps_frame hr (fun b hb => k b (List.mem_cons_of_mem _ hb)) t, .inl ⟨?_, rfl⟩⟩
      rcases hl with q | ⟨o, q⟩
      · exact .inl (k a List.mem_cons_self _ q)
      · exact .inr ⟨o, k a List.mem_cons_self _ q⟩
    · exact ⟨a, vs, _, e, reps_frame hr k t, .inr ⟨hkl, hl, rfl⟩⟩
  | .dic tt ks l, v, fp, h, k, t => by
    unfold Rep at h ⊢
    obtain ⟨a, vs, fs, e, hr, hd, rfl⟩ := h
    refine ⟨a, vs, fs, e, reps_frame hr (fun b hb => k b (List.mem_cons_of_mem _ hb)) t, ?_, rfl⟩
    have rd : ∀ u, Rd H a u → Rd H' a u := fun u q => by
      rcases q with q | ⟨o, q⟩
      · exact .inl (k a List.mem_cons_self _ q)
      · exact .inr ⟨o, k a List.mem_cons_self _ q⟩
    cases tt with
    | false => obtain ⟨kvs, q, r⟩ := hd; exact ⟨kvs, rd _ q, r⟩
    | true => obtain ⟨kvs, q, r⟩ := hd; exact ⟨kvs, rd _ q, r⟩
  | .obj c ns l, v, fp, h, k, t => by
    unfold Rep at h ⊢
    obtain ⟨a, dx, vs, fs, e, hr, hd, hn, rfl⟩ := h
    exact ⟨a, dx, vs, fs, e, reps_frame hr (fun b hb => k b (List.mem_cons_of_mem _ hb)) t, k a List.mem_cons_self _ hd, hn, rfl⟩
theorem reps_frame : ∀ {ds : List D} {vs : List V} {fp : Fp}, Reps K kl C H ds vs fp → (∀ a ∈ fp, ∀ o, H a = some o → H' a = some o) → (∀ a xs, H a = some (.tup xs) → H' a = some (.tup xs)) → Reps K kl C H' ds vs fp
  | [], _, _, h, _, _ => h
  | d :: ds, vs, fp, h, k, t => by
    unfold Reps at h ⊢
    obtain ⟨v, vs', f1, f2, e, rfl, h1, h2⟩ := h
    exact ⟨v, vs', f1, f2, e, rfl, rep_frame h1 (fun a ha => k a (List.mem_append_left _ ha)) t, reps_frame h2 (fun a ha => k a (List.mem_append_right _ ha)) t⟩
end
mutual
theorem rep_in : ∀ {d : D} {v : V} {fp : Fp}, Rep K kl C H d v fp → ∀ a ∈ fp, H a ≠ none
  | .non, _, _, ⟨_, e⟩, a, h => by rw [e] at h; cases h
  | .bl _, _, _, ⟨_, e⟩, a, h => by rw [e] at h; cases h
  | .int _, _, _, ⟨_, e⟩, a, h => by rw [e] at h; cases h
  | .str _, _, _, ⟨_, e⟩, a, h => by rw [e] at h; cases h
  | .tup l, v, fp, h, a, ha => by
    unfold Rep at h
    obtain ⟨a, vs, e, ht, hr⟩ := h
    exact reps_in hr _ ha
  | .lst l, v, fp, h, b, hb => by
    unfold Rep at h
    obtain ⟨a, vs, fs, e, hr, h⟩ := h
    rcases h with ⟨hl, rfl⟩ | ⟨hkl, hl, rfl⟩
    · rcases List.mem_cons.mp hb with rfl | hb
      · rcases hl with q | ⟨o, q⟩ <;> (rw [q]; simp)
      · exact reps_in hr _ hb
    · exact reps_in hr _ hb
  | .dic tt ks l, v, fp, h, b, hb => by
    unfold Rep at h
    obtain ⟨a, vs, fs, e, hr, hd, rfl⟩ := h
    rcases List.mem_cons.mp hb with rfl | hb
    · cases tt with
      | false => obtain ⟨kvs, q | ⟨o, q⟩, r⟩ := hd <;> (rw [q]; simp)
      | true => obtain ⟨kvs, q | ⟨o, q⟩, r⟩ := hd <;> (rw [q]; simp)
    · exact reps_in hr _ hb
  | .obj c ns l, v, fp, h, b, hb => by
    unfold Rep at h
    obtain ⟨a, dx, vs, fs, e, hr, hd, hn, rfl⟩ := h
    rcases List.mem_cons.mp hb with rfl | hb
    · rw [hd]; simp
    · exact reps_in hr _ hb
theorem reps_in : ∀ {ds : List D} {vs : List V} {fp : Fp}, Reps K kl C H ds vs fp → ∀ a ∈ fp, H a ≠ none
  | [], _, _, ⟨_, e⟩, a, h => by rw [e] at h; cases h
  | d :: ds, vs, fp, h, a, ha => by
    unfold Reps at h
    obtain ⟨v, vs', f1, f2, e, rfl, h1, h2⟩ := h
    rcases List.mem_append.mp ha with ha | ha
    · exact rep_in h1 a ha
    · exact reps_in h2 a ha
end
mutual
theorem rep_imm : ∀ {d : D} {v : V} {fp : Fp}, Rep K kl C H d v fp → imm d = true → fp = []
  | .non, _, _, ⟨_, e⟩, _ => e
  | .bl _, _, _, ⟨_, e⟩, _ => e
  | .int _, _, _, ⟨_, e⟩, _ => e
  | .str _, _, _, ⟨_, e⟩, _ => e
  | .tup l, v, fp, h, k => by
    unfold Rep at h
    unfold imm at k
    obtain ⟨a, vs, e, ht, hr⟩ := h
    exact reps_imm hr k
  | .lst l, v, fp, h, k => by unfold imm at k; cases k
  | .dic tt ks l, v, fp, h, k => by unfold imm at k; cases k
  | .obj c ns l, v, fp, h, k => by unfold imm at k; cases k
theorem reps_imm : ∀ {ds : List D} {vs : List V} {fp : Fp}, Reps K kl C H ds vs fp → imms ds = true → fp = []
  | [], _, _, ⟨_, e⟩, _ => e
  | d :: ds, vs, fp, h, k => by
    unfold Reps at h
    unfold imms at k
    obtain ⟨v, vs', f1, f2, e, rfl, h1, h2⟩ := h
    have k' := Bool.and_eq_true_iff.mp k
    rw [rep_imm h1 k'.1, reps_imm h2 k'.2]; rfl
end
end

/-- heaps that keep all that is tracked -/
abbrev Ex := Evl.Ex
theorem rd_ex {a : Addr} {u : HO} {H H' : Hp} (e : Ex H H') (h : Rd H a u) : Rd H' a u := Evl.ex_rd e h
section
variable {K : PySem.W.Frag} {kl : Bool} {C : Str → Addr} {H H' : Hp}
theorem rep_ex {d : D} {v : V} {fp : Fp} (h : Rep K kl C H d v fp) (e : Ex H H') : Rep K kl C H' d v fp := rep_frame h (fun a _ o q => e a o q) fun a xs q => e a _ q
theorem reps_ex {d : List D} {v : List V} {fp : Fp} (h : Reps K kl C H d v fp) (e : Ex H H') : Reps K kl C H' d v fp := reps_frame h (fun a _ o q => e a o q) fun a xs q => e a _ q
/-- a write elsewhere -/
theorem rd_tup_upd {x a : Addr} {o : HO} {xs : List V} (mu : Mut (H x)) (h : H a = some (.tup xs)) : upd H x o a = some (.tup xs) := by
  have ne : a ≠ x := by
    rintro rfl
    rw [h] at mu
    exact mu
  rw [upd_ne ne]
  exact h
theorem rep_upd {d : D} {v : V} {fp : Fp} {x : Addr} {o : HO} (h : Rep K kl C H d v fp) (hx : x ∉ fp) (mu : Mut (H x)) : Rep K kl C (upd H x o) d v fp :=
  rep_frame h (fun a ha u q => by rw [upd_ne (by rintro rfl; exact hx ha)]; exact q) fun _ _ q => rd_tup_upd mu q
theorem reps_upd {d : List D} {v : List V} {fp : Fp} {x : Addr} {o : HO} (h : Reps K kl C H d v fp) (hx : x ∉ fp) (mu : Mut (H x)) : Reps K kl C (upd H x o) d v fp :=
  reps_frame h (fun a ha u q => by rw [upd_ne (by rintro rfl; exact hx ha)]; exact q) fun _ _ q => rd_tup_upd mu q
end
end DL


set_option Elab.async false
set_option linter.all false
set_option maxRecDepth 100000
/-! The data layer, part 2: the state of a body. -/
namespace DL
open PySem PySem.Spec PyProof.Rows L2

mutual
theorem rep_K {K : PySem.W.Frag} {kl : Bool} {C : Str → Addr} {H : Hp} : ∀ {d : D} {v : V} {fp : Fp}, Rep K false C H d v fp → Rep K kl C H d v fp
  | .non, _, _, h => h
  | .bl _, _, _, h => h
  | .int _, _, _, h => h
  | .str _, _, _, h => h
  | .tup l, v, fp, h => by
    unfold Rep at h ⊢
    obtain ⟨a, vs, e, ht, hr⟩ := h
    exact ⟨a, vs, e, ht, reps_K hr⟩
  | .lst l, v, fp, h => by
    unfold Rep at h ⊢
    obtain ⟨a, vs, fs, e, hr, h⟩ := h
    rcases h with ⟨hl, rfl⟩ | ⟨q, hl, rfl⟩
    · exact ⟨a, vs, fs, e, reps_K hr, .inl ⟨hl, rfl⟩⟩
    · cases q
  | .dic tt ks l, v, fp, h => by
    unfold Rep at h ⊢
    obtain ⟨a, vs, fs, e, hr, hd, rfl⟩ := h
    exact ⟨a, vs, fs, e, reps_K hr, hd, rfl⟩
  | .obj c ns l, v, fp, h => by
    unfold Rep at h ⊢
    obtain ⟨a, dx, vs, fs, e, hr, hd, hn, rfl⟩ := h
    exact ⟨a, dx, vs, fs, e, reps_K hr, hd, hn, rfl⟩
theorem reps_K {K : PySem.W.Frag} {kl : Bool} {C : Str → Addr} {H : Hp} : ∀ {ds : List D} {vs : List V} {fp : Fp}, Reps K false C H ds vs fp → Reps K kl C H ds vs fp
  | [], _, _, h => h
  | d :: ds, vs, fp, h => by
    unfold Reps at h ⊢
    obtain ⟨v, vs', f1, f2, e, rfl, h1, h2⟩ := h
    exact ⟨v, vs', f1, f2, e, rfl, rep_K h1, reps_K h2⟩
end
mutual
/-- what is not to be written may be seen either way -/
theorem rep_immK {K : PySem.W.Frag} {kl : Bool} {C : Str → Addr} {H : Hp} : ∀ {d : D} {v : V} {fp : Fp}, Rep K kl C H d v fp → imm d = true → Rep K false C H d v fp
  | .non, _, _, h, _ => h
  | .bl _, _, _, h, _ => h
  | .int _, _, _, h, _ => h
  | .str _, _, _, h, _ => h
  | .tup l, v, fp, h, k => by
    unfold Rep at h ⊢
    obtain ⟨a, vs, e, ht, hr⟩ := h
    exact ⟨a, vs, e, ht, reps_immK hr (by unfold imm at k; exact k)⟩
  | .lst l, v, fp, h, k => by unfold imm at k; cases k
  | .dic tt ks l, v, fp, h, k => by unfold imm at k; cases k
  | .obj c ns l, v, fp, h, k => by unfold imm at k; cases k
theorem reps_immK {K : PySem.W.Frag} {kl : Bool} {C : Str → Addr} {H : Hp} : ∀ {ds : List D} {vs : List V} {fp : Fp}, Reps K kl C H ds vs fp → imms ds = true → Reps K false C H ds vs fp
  | [], _, _, h, _ => h
  | d :: ds, vs, fp, h, k => by
    unfold Reps at h ⊢
    unfold imms at k
    obtain ⟨v, vs', f1, f2, e, rfl, h1, h2⟩ := h
    have k' := Bool.and_eq_true_iff.mp k
    exact ⟨v, vs', f1, f2, e, rfl, rep_immK h1 k'.1, reps_immK h2 k'.2⟩
end

/-- own: of this body alone. chg: handed in to be changed. shr: read, never written. pin: shr, and its name stays -/
inductive Md where
  | own | chg | shr | pin
  deriving DecidableEq, Inhabited
structure Slot where
  m : Md
  d : D
  deriving Inhabited
abbrev Env := List (Option Slot)
def Md.ex : Md → Bool
  | .own => true
  | .chg => true
  | _ => false

/-- what a body stands on -/
structure Bs where
  K : PySem.W.Frag
  H0 : Hp
  Mo : Fp
  Mm : Nat → Fp
  pins : Nat → V
/-- where the classes stand -/
def Bs.C (B : Bs) : Str → Addr := He.ga B.K

def OldO (B : Bs) (a : Addr) : Prop := a ∈ B.Mo ∨ B.H0 a = none
def OldM (B : Bs) (i : Nat) (a : Addr) : Prop := a ∈ B.Mm i ∨ a ∈ B.Mo ∨ B.H0 a = none
def SlotOk (B : Bs) (H : Hp) (i : Nat) (s : Slot) (v : V) (fp : Fp) : Prop :=
  match s.m with
  | .own => Rep B.K false B.C H s.d v fp ∧ fp.Nodup ∧ ∀ a ∈ fp, Mut (H a) ∧ OldO B a
  | .chg => Rep B.K false B.C H s.d v fp ∧ fp.Nodup ∧ (∀ a ∈ fp, Mut (H a) ∧ OldM B i a) ∧ v = B.pins i
  | .shr => Rep B.K true B.C H s.d v fp
  | .pin => Rep B.K true B.C H s.d v fp ∧ v = B.pins i
theorem SlotOk.rep {B : Bs} {H : Hp} {i : Nat} {s : Slot} {v : V} {fp : Fp} (h : SlotOk B H i s v fp) : Rep B.K true B.C H s.d v fp := by
  unfold SlotOk at h
  split at h
  · exact rep_K h.1
  · exact rep_K h.1
  · exact h
  · exact h.1

structure St (B : Bs) (σ : L2.St) (H : Hp) (env : Env) (φ : Nat → Fp) : Prop where
  len : σ.length = env.length
  ok : ∀ i s, env[i]? = some (some s) → ∃ v, σ[i]? = some (some v) ∧ SlotOk B H i s v (φ i)
  excl : ∀ i j s t, i ≠ j → env[i]? = some (some s) → env[j]? = some (some t) → s.m.ex = true → ∀ a ∈ φ i, a ∉ φ j
  frame : ∀ a o, B.H0 a = some o → a ∉ B.Mo → (∀ i, a ∉ B.Mm i) → H a = some o
  there : ∀ a, B.H0 a ≠ none → H a ≠ none

section
variable {B : Bs} {σ τ : L2.St} {H H' : Hp} {env te : Env} {φ : Nat → Fp}
theorem St.in (S : St B σ H env φ) {i : Nat} {s : Slot} (h : env[i]? = some (some s)) : ∀ a ∈ φ i, H a ≠ none := by
  obtain ⟨v, _, ok⟩ := S.ok i s h
  exact rep_in ok.rep
theorem St.get (S : St B σ H env φ) {i : Nat} {s : Slot} (h : env[i]? = some (some s)) : ∃ v, σ[i]? = some (some v) ∧ Rep B.K true B.C H s.d v (φ i) := by
  obtain ⟨v, e, ok⟩ := S.ok i s h
  exact ⟨v, e, ok.rep⟩
theorem SlotOk.ex {i : Nat} {s : Slot} {v : V} {fp : Fp} (h : SlotOk B H i s v fp) (e : Ex H H') : SlotOk B H' i s v fp := by
  have mu : ∀ a, Mut (H a) → Mut (H' a) := fun a q => by
    cases r : H a with
    | none => rw [r] at q; exact q.elim
    | some o => rw [e a o r]; rw [r] at q; exact q
  unfold SlotOk at h ⊢
  split at h
  · exact ⟨rep_ex h.1 e, h.2.1, fun a ha => ⟨mu a (h.2.2 a ha).1, (h.2.2 a ha).2⟩⟩
  · exact ⟨rep_ex h.1 e, h.2.1, fun a ha => ⟨mu a (h.2.2.1 a ha).1, (h.2.2.1 a ha).2⟩, h.2.2.2⟩
  · exact rep_ex h e
  · exact ⟨rep_ex h.1 e, h.2⟩
theorem St.ex (S : St B σ H env φ) (e : Ex H H') : St B σ H' env φ where
  len := S.len
  ok := fun i s h => by
    obtain ⟨v, q, ok⟩ := S.ok i s h
    exact ⟨v, q, ok.ex e⟩
  excl := S.excl
  frame := fun a o h h1 h2 => e a o (S.frame a o h h1 h2)
  there := fun a h => by
    have := S.there a h
    cases q : H a with
    | none => exact absurd q this
    | some o => rw [e a o q]; simp
/-- without what was laid last -/
theorem St.trunc (S : St B (σ ++ τ) H (env ++ te) φ) (hl : σ.length = env.length) : St B σ H env φ where
  len := hl
  ok := fun i s h => by
    obtain ⟨hi, _⟩ := List.getElem?_eq_some_iff.mp h
    obtain ⟨v, q, ok⟩ := S.ok i s (by rw [List.getElem?_append_left hi]; exact h)
    rw [List.getElem?_append_left (by omega)] at q
    exact ⟨v, q, ok⟩
  excl := fun i j s t n h1 h2 => by
    obtain ⟨hi, _⟩ := List.getElem?_eq_some_iff.mp h1
    obtain ⟨hj, _⟩ := List.getElem?_eq_some_iff.mp h2
    exact S.excl i j s t n (by rw [List.getElem?_append_left hi]; exact h1) (by rw [List.getElem?_append_left hj]; exact h2)
  frame := S.frame
  there := S.there
/-- φ matters at the slots alone -/
theorem St.congr {ψ : Nat → Fp} (S : St B σ H env φ) (e : ∀ i s, env[i]? = some (some s) → ψ i = φ i) : St B σ H env ψ where
  len := S.len
  ok := fun i s h => by rw [e i s h]; exact S.ok i s h
  excl := fun i j s t n h1 h2 hm => by rw [e i s h1, e j t h2]; exact S.excl i j s t n h1 h2 hm
  frame := S.frame
  there := S.there
def fset (φ : Nat → Fp) (i : Nat) (fp : Fp) : Nat → Fp := fun j => if j = i then fp else φ j
theorem fset_same {i : Nat} {fp : Fp} : fset φ i fp i = fp := if_pos rfl
theorem fset_ne {i j : Nat} {fp : Fp} (h : j ≠ i) : fset φ i fp j = φ j := if_neg h

theorem get_snoc {α : Type} {l : List (Option α)} {x : Option α} {i : Nat} {s : α} (h : (l ++ [x])[i]? = some (some s)) : (i < l.length ∧ l[i]? = some (some s)) ∨ (i = l.length ∧ x = some s) := by
  by_cases hi : i < l.length
  · rw [List.getElem?_append_left hi] at h
    exact .inl ⟨hi, h⟩
  · right
    rw [List.getElem?_append_right (by omega)] at h
    by_cases e : i - l.length = 0
    · have : i = l.length := by omega
      subst this
      simp at h
      exact ⟨rfl, h⟩
    · obtain ⟨k, hk⟩ : ∃ k, i - l.length = k + 1 := ⟨i - l.length - 1, by omega⟩
      rw [hk] at h
      simp at h

/-- a value of one's own laid behind -/
theorem St.push {d : D} {v : V} {fp : Fp} (S : St B σ H env φ) (r : Rep B.K false B.C H d v fp) (nd : fp.Nodup) (hm : ∀ a ∈ fp, Mut (H a) ∧ OldO B a)
    (hd : ∀ i s, env[i]? = some (some s) → ∀ a ∈ fp, a ∉ φ i) : St B (σ ++ [some v]) H (env ++ [some ⟨.own, d⟩]) (fset φ env.length fp) where
  len := by simp [S.len]
  ok := fun i s h => by
    rcases get_snoc h with ⟨hi, g⟩ | ⟨rfl, g⟩
    · obtain ⟨w, q, ok⟩ := S.ok i s g
      refine ⟨w, by rw [List.getElem?_append_left (by rw [S.len]; exact hi)]; exact q, ?_⟩
      rw [fset_ne (by omega)]
      exact ok
    · cases g
      refine ⟨v, by rw [← S.len]; simp, ?_⟩
      rw [fset_same]
      exact ⟨r, nd, hm⟩
  excl := fun i j s t n h1 h2 hx => by
    rcases get_snoc h1 with ⟨hi, g1⟩ | ⟨rfl, g1⟩ <;> rcases get_snoc h2 with ⟨hj, g2⟩ | ⟨rfl, g2⟩
    · rw [fset_ne (by omega), fset_ne (by omega)]
      exact S.excl i j s t n g1 g2 hx
    · rw [fset_ne (by omega), fset_same]
      exact fun a ha hb => hd i s g1 a hb ha
    · rw [fset_ne (i := env.length) (j := j) (by omega), fset_same]
      exact hd j t g2
    · exact absurd rfl n
  frame := S.frame
  there := S.there
/-- .. a new one: it was laid behind H -/
theorem St.pushNew {d : D} {v : V} {fp : Fp} (S : St B σ H env φ) (e : Ex H H') (r : Rep B.K false B.C H' d v fp) (nd : fp.Nodup) (hm : ∀ a ∈ fp, Mut (H' a) ∧ H a = none) :
    St B (σ ++ [some v]) H' (env ++ [some ⟨.own, d⟩]) (fset φ env.length fp) :=
  (S.ex e).push r nd (fun a ha => ⟨(hm a ha).1, .inr (by
    have n := (hm a ha).2
    cases q : B.H0 a with
    | none => rfl
    | some o => exact absurd n (S.there a (by rw [q]; simp)))⟩) fun i s h a ha hb => S.in h a hb (hm a ha).2
theorem St.pushImm {d : D} {v : V} (S : St B σ H env φ) (r : Rep B.K false B.C H d v []) : St B (σ ++ [some v]) H (env ++ [some ⟨.own, d⟩]) (fset φ env.length []) :=
  S.push r .nil (fun _ h => nomatch h) fun _ _ _ _ h => nomatch h
theorem St.pop {v : Option V} {x : Option Slot} (S : St B (σ ++ [v]) H (env ++ [x]) φ) : St B σ H env φ :=
  S.trunc (by have := S.len; simp at this; exact this)

/-- the last one goes to the name at i -/
theorem St.move {i : Nat} {v : V} {s : Slot} (S : St B (σ ++ [some v]) H (env ++ [some s]) φ) (hp : s.m = .own ∨ s.m = .shr) (hi : i < env.length) : St B (σ.set i (some v)) H (env.set i (some s)) (fset φ i (φ env.length)) := by
  have hl : σ.length = env.length := by have := S.len; simp at this; exact this
  have old : ∀ j t, j < env.length → env[j]? = some t → (env ++ [some s])[j]? = some t := fun j t h q => by rw [List.getElem?_append_left h]; exact q
  have last : (env ++ [some s])[env.length]? = some (some s) := by simp
  have at_ : ∀ j t, (env.set i (some s))[j]? = some (some t) → (j ≠ i ∧ j < env.length ∧ env[j]? = some (some t)) ∨ (j = i ∧ t = s) := fun j t h => by
    by_cases e : j = i
    · subst e
      rw [List.getElem?_set_self hi] at h
      cases h
      exact .inr ⟨rfl, rfl⟩
    · rw [List.getElem?_set_ne (Ne.symm e)] at h
      obtain ⟨hj, _⟩ := List.getElem?_eq_some_iff.mp h
      exact .inl ⟨e, hj, h⟩
  refine ⟨by simp [hl], fun j t h => ?_, fun j k t u n h1 h2 hx => ?_, S.frame, S.there⟩
  · rcases at_ j t h with ⟨n, hj, h⟩ | ⟨rfl, rfl⟩
    · obtain ⟨w, q, ok⟩ := S.ok j t (old j _ hj h)
      rw [List.getElem?_append_left (by omega)] at q
      refine ⟨w, by rw [List.getElem?_set_ne (Ne.symm n)]; exact q, ?_⟩
      rw [fset_ne n]
      exact ok
    · obtain ⟨w, q, ok⟩ := S.ok env.length t last
      rw [← hl] at q
      simp at q
      subst q
      refine ⟨v, by rw [List.getElem?_set_self (by omega)], ?_⟩
      rw [fset_same]
      unfold SlotOk at ok ⊢
      split at ok
      · exact ok
      · rename_i e
        rw [e] at hp
        rcases hp with q | q <;> cases q
      · exact ok
      · rename_i e
        rw [e] at hp
        rcases hp with q | q <;> cases q
  · rcases at_ j t h1 with ⟨n1, hj, g1⟩ | ⟨e1, e1'⟩ <;> rcases at_ k u h2 with ⟨n2, hk, g2⟩ | ⟨e2, e2'⟩
    · rw [fset_ne n1, fset_ne n2]
      exact S.excl j k t u n (old _ _ hj g1) (old _ _ hk g2) hx
    · subst e2; subst e2'
      rw [fset_ne n1, fset_same]
      exact S.excl j env.length t u (by omega) (old _ _ hj g1) last hx
    · subst e1; subst e1'
      rw [fset_ne n2, fset_same]
      exact S.excl env.length k t u (by omega) last (old _ _ hk g2) hx
    · exact absurd (e1.trans e2.symm) n
/-- a slot is forgotten -/
theorem St.clear {i : Nat} (S : St B σ H env φ) : St B σ H (env.set i none) φ := by
  have at_ : ∀ j t, (env.set i none)[j]? = some (some t) → env[j]? = some (some t) := fun j t h => by
    by_cases e : i = j
    · subst e
      rw [List.getElem?_set] at h
      simp at h
    · rw [List.getElem?_set_ne e] at h
      exact h
  exact ⟨by simp [S.len], fun j t h => S.ok j t (at_ j t h), fun j k t u n h1 h2 => S.excl j k t u n (at_ _ _ h1) (at_ _ _ h2), S.frame, S.there⟩
end
end DL


set_option Elab.async false
set_option linter.all false
set_option maxRecDepth 100000
/-! The data layer, part 3: places within data, and writes. -/
namespace DL
open PySem PySem.Spec PyProof.Rows L2

inductive Sel where
  | ix (n : Nat) | fld (f : Str)
def fldIx : List Str → Str → Nat
  | [], _ => 0
  | x :: r, f => if x = f then 0 else fldIx r f + 1
def kids : D → List D
  | .lst l => l
  | .tup l => l
  | .obj _ _ l => l
  | _ => []
def withKids : D → List D → D
  | .lst _, l => .lst l
  | .tup _, l => .tup l
  | .obj c ns _, l => .obj c ns l
  | d, _ => d
def selIx : D → Sel → Nat
  | .lst _, .ix n => n
  | .tup _, .ix n => n
  | .obj _ ns _, .fld f => fldIx ns f
  | d, _ => (kids d).length
def getP : D → List Sel → Option D
  | d, [] => some d
  | d, s :: p => match (kids d)[selIx d s]? with
    | some e => getP e p
    | none => none
def setP : D → List Sel → D → D
  | _, [], e => e
  | d, s :: p, e => match (kids d)[selIx d s]? with
    | some x => withKids d ((kids d).set (selIx d s) (setP x p e))
    | none => d

section
variable {K : PySem.W.Frag} {kl : Bool} {C : Str → Addr} {H H' : Hp}
/-- one item of a row of data -/
theorem reps_split : ∀ {l : List D} {vs : List V} {fs : Fp} {n : Nat} {d : D}, Reps K kl C H l vs fs → l[n]? = some d →
    ∃ v fa f fb, vs[n]? = some v ∧ fs = fa ++ f ++ fb ∧ Rep K kl C H d v f ∧
      ∀ H' d' f', (∀ a, a ∈ fa ∨ a ∈ fb → ∀ o, H a = some o → H' a = some o) → (∀ a xs, H a = some (.tup xs) → H' a = some (.tup xs)) → Rep K kl C H' d' v f' → Reps K kl C H' (l.set n d') vs (fa ++ f' ++ fb)
  | [], _, _, n, d, _, h => by simp at h
  | x :: l, _, _, 0, d, ⟨v, vs', f1, f2, rfl, rfl, h1, h2⟩, h => by
    simp at h
    subst h
    exact ⟨v, [], f1, f2, rfl, rfl, h1, fun H' d' f' k t r => ⟨v, vs', f', f2, rfl, rfl, r, reps_frame h2 (fun a ha => k a (.inr ha)) t⟩⟩
  | x :: l, _, _, n + 1, d, ⟨v, vs', f1, f2, rfl, rfl, h1, h2⟩, h => by
    obtain ⟨w, fa, f, fb, e1, rfl, r, k⟩ := reps_split (n := n) h2 (by simpa using h)
    refine ⟨w, f1 ++ fa, f, fb, by simpa using e1, by simp, r, fun H' d' f' k' t r' => ?_⟩
    refine ⟨v, vs', f1, fa ++ f' ++ fb, rfl, by simp, rep_frame h1 (fun a ha => k' a (.inl (List.mem_append_left _ ha))) t, ?_⟩
    exact k H' d' f' (fun a ha => k' a (ha.elim (fun z => .inl (List.mem_append_right _ z)) .inr)) t r'
theorem reps_app : ∀ {l m : List D} {vs ws : List V} {f g : Fp}, Reps K kl C H l vs f → Reps K kl C H m ws g → Reps K kl C H (l ++ m) (vs ++ ws) (f ++ g)
  | [], _, _, _, _, _, ⟨rfl, rfl⟩, h => h
  | x :: l, _, _, _, _, _, ⟨v, vs', f1, f2, rfl, rfl, h1, h2⟩, h => ⟨v, vs' ++ _, f1, f2 ++ _, rfl, by simp, h1, reps_app h2 h⟩
theorem reps_one {d : D} {v : V} {f : Fp} (h : Rep K kl C H d v f) : Reps K kl C H [d] [v] f := ⟨v, [], f, [], rfl, by simp, h, rfl, rfl⟩
/-- the kids of a datum that is no dict -/
theorem rep_kids {d : D} {v : V} {fp : Fp} {s : Sel} {e : D} (h : Rep K kl C H d v fp) (g : (kids d)[selIx d s]? = some e) :
    ∃ w ga f gb, Rep K kl C H e w f ∧ fp = ga ++ f ++ gb ∧
      ∀ H' e' f', (∀ a, a ∈ ga ∨ a ∈ gb → ∀ o, H a = some o → H' a = some o) → (∀ a xs, H a = some (.tup xs) → H' a = some (.tup xs)) → Rep K kl C H' e' w f' → Rep K kl C H' (withKids d ((kids d).set (selIx d s) e')) v (ga ++ f' ++ gb) := by
  cases d with
  | non => simp [kids] at g
  | bl => simp [kids] at g
  | int => simp [kids] at g
  | str => simp [kids] at g
  | dic => simp [kids] at g
  | tup l =>
    unfold Rep at h
    obtain ⟨a, vs, rfl, ht, hr⟩ := h
    obtain ⟨w, fa, f, fb, e1, rfl, r, k⟩ := reps_split hr g
    refine ⟨w, fa, f, fb, r, rfl, fun H' e' f' k' t r' => ?_⟩
    show Rep K kl C H' (.tup _) _ _
    unfold Rep
    exact ⟨a, vs, rfl, t _ _ ht, k H' e' f' k' t r'⟩
  | lst l =>
    unfold Rep at h
    obtain ⟨a, vs, fs, rfl, hr, h⟩ := h
    obtain ⟨w, fa, f, fb, e1, rfl, r, k⟩ := reps_split hr g
    rcases h with ⟨hl, rfl⟩ | ⟨hkl, hl, rfl⟩
    · refine ⟨w, a :: fa, f, fb, r, by simp, fun H' e' f' k' t r' => ?_⟩
      show Rep K kl C H' (.lst _) _ _
      unfold Rep
      refine ⟨a, vs, fa ++ f' ++ fb, rfl, k H' e' f' (fun b hb => k' b (hb.elim (fun z => .inl (List.mem_cons_of_mem _ z)) .inr)) t r', .inl ⟨?_, by simp⟩⟩
      rcases hl with q | ⟨o, q⟩
      · exact .inl (k' a (.inl List.mem_cons_self) _ q)
      · exact .inr ⟨o, k' a (.inl List.mem_cons_self) _ q⟩
    · refine ⟨w, fa, f, fb, r, rfl, fun H' e' f' k' t r' => ?_⟩
      show Rep K kl C H' (.lst _) _ _
      unfold Rep
      exact ⟨a, vs, fa ++ f' ++ fb, rfl, k H' e' f' k' t r', .inr ⟨hkl, hl, rfl⟩⟩
  | obj c ns l =>
    unfold Rep at h
    obtain ⟨a, dx, vs, fs, rfl, hr, hd, hn, rfl⟩ := h
    obtain ⟨w, fa, f, fb, e1, rfl, r, k⟩ := reps_split hr g
    refine ⟨w, a :: fa, f, fb, r, by simp, fun H' e' f' k' t r' => ?_⟩
    show Rep K kl C H' (.obj _ _ _) _ _
    unfold Rep
    exact ⟨a, dx, vs, fa ++ f' ++ fb, rfl, k H' e' f' (fun b hb => k' b (hb.elim (fun z => .inl (List.mem_cons_of_mem _ z)) .inr)) t r', k' a (.inl List.mem_cons_self) _ hd, hn, by simp⟩
/-- a place within a datum -/
theorem rep_path : ∀ {p : List Sel} {d : D} {v : V} {fp : Fp} {e : D}, Rep K kl C H d v fp → getP d p = some e →
    ∃ w ga f gb, Rep K kl C H e w f ∧ fp = ga ++ f ++ gb ∧
      ∀ H' e' f', (∀ a, a ∈ ga ∨ a ∈ gb → ∀ o, H a = some o → H' a = some o) → (∀ a xs, H a = some (.tup xs) → H' a = some (.tup xs)) → Rep K kl C H' e' w f' → Rep K kl C H' (setP d p e') v (ga ++ f' ++ gb)
  | [], d, v, fp, e, h, g => by
    cases g
    exact ⟨v, [], fp, [], h, by simp, fun H' e' f' _ _ r => by simpa [setP] using r⟩
  | s :: p, d, v, fp, e, h, g => by
    unfold getP at g
    split at g
    · rename_i x hx
      obtain ⟨w, ga, f, gb, r, rfl, k⟩ := rep_kids h hx
      obtain ⟨w2, ga2, f2, gb2, r2, rfl, k2⟩ := rep_path r g
      refine ⟨w2, ga ++ ga2, f2, gb2 ++ gb, r2, by simp, fun H' e' f' k' t r' => ?_⟩
      have e1 : setP d (s :: p) e' = withKids d ((kids d).set (selIx d s) (setP x p e')) := by
        show (match (kids d)[selIx d s]? with
          | some x => withKids d ((kids d).set (selIx d s) (setP x p e'))
          | none => d) = _
        rw [hx]
      rw [e1]
      have := k H' (setP x p e') (ga2 ++ f' ++ gb2) (fun a ha => k' a (ha.elim (fun z => .inl (List.mem_append_left _ z)) fun z => .inr (List.mem_append_right _ z))) t
        (k2 H' e' f' (fun a ha => k' a (ha.elim (fun z => .inl (List.mem_append_right _ z)) fun z => .inr (List.mem_append_left _ z))) t r')
      simpa using this
    · cases g
end

section
variable {B : Bs} {σ τ : L2.St} {H H' : Hp} {env te : Env} {φ : Nat → Fp}
theorem SlotOk.upd {i : Nat} {s : Slot} {v : V} {fp : Fp} {x : Addr} {o : HO} (h : SlotOk B H i s v fp) (hx : x ∉ fp) (mu : Mut (H x)) : SlotOk B (L2.upd H x o) i s v fp := by
  have mu' : ∀ a ∈ fp, Mut (H a) → Mut (L2.upd H x o a) := fun a ha q => by rw [upd_ne (by rintro rfl; exact hx ha)]; exact q
  unfold SlotOk at h ⊢
  split at h
  · exact ⟨rep_upd h.1 hx mu, h.2.1, fun a ha => ⟨mu' a ha (h.2.2 a ha).1, (h.2.2 a ha).2⟩⟩
  · exact ⟨rep_upd h.1 hx mu, h.2.1, fun a ha => ⟨mu' a ha (h.2.2.1 a ha).1, (h.2.2.1 a ha).2⟩, h.2.2.2⟩
  · exact rep_upd h hx mu
  · exact ⟨rep_upd h.1 hx mu, h.2⟩
theorem SlotOk.mk_ex {i : Nat} {s : Slot} {v : V} {fp : Fp} (h : SlotOk B H i s v fp) (hm : s.m.ex = true) : Rep B.K false B.C H s.d v fp ∧ fp.Nodup ∧ ∀ a ∈ fp, Mut (H a) ∧ OldM B i a := by
  unfold SlotOk at h
  split at h
  · exact ⟨h.1, h.2.1, fun a ha => ⟨(h.2.2 a ha).1, .inr (h.2.2 a ha).2⟩⟩
  · exact ⟨h.1, h.2.1, h.2.2.1⟩
  · rename_i e; rw [e] at hm; cases hm
  · rename_i e; rw [e] at hm; cases hm
/-- rows of values of one's own -/
def owns (ds : List D) : Env := ds.map fun d => some ⟨.own, d⟩
theorem owns_get {ds : List D} {k : Nat} {s : Slot} (h : (owns ds)[k]? = some (some s)) : ∃ d, ds[k]? = some d ∧ s = ⟨.own, d⟩ := by
  unfold owns at h
  rw [List.getElem?_map] at h
  cases q : ds[k]? with
  | none => rw [q] at h; simp at h
  | some d => rw [q] at h; simp at h; exact ⟨d, rfl, h.symm⟩
/-- THE WRITE: at x, one of the objects of the slot i, o' is laid; what the values behind hold may go into it -/
theorem St.write {i : Nat} {m : Md} {d d' : D} {v : V} {x : Addr} {o' : HO} {fp : Fp} {es : List D} (S : St B (σ ++ τ) H (env ++ owns es) φ) (hl : σ.length = env.length) (hi : env[i]? = some (some ⟨m, d⟩)) (hm : m.ex = true) (hv : σ[i]? = some (some v))
    (hx : x ∈ φ i) (mo : Mut (some o')) (r : Rep B.K false B.C (upd H x o') d' v fp) (nd : fp.Nodup) (sub : ∀ a ∈ fp, a ∈ φ i ∨ ∃ k, k < es.length ∧ a ∈ φ (env.length + k)) : St B σ (upd H x o') (env.set i (some ⟨m, d'⟩)) (fset φ i fp) := by
  obtain ⟨hil, _⟩ := List.getElem?_eq_some_iff.mp hi
  have old : ∀ j t, env[j]? = some t → (env ++ owns es)[j]? = some t := fun j t q => by
    obtain ⟨h, _⟩ := List.getElem?_eq_some_iff.mp q
    rw [List.getElem?_append_left h]; exact q
  have last : ∀ k, k < es.length → ∃ e, (env ++ owns es)[env.length + k]? = some (some (⟨.own, e⟩ : Slot)) := fun k hk => by
    refine ⟨es[k], ?_⟩
    rw [List.getElem?_append_right (by omega), show env.length + k - env.length = k by omega]
    unfold owns
    rw [List.getElem?_map, List.getElem?_eq_getElem hk]
    rfl
  have at_ : ∀ j t, (env.set i (some ⟨m, d'⟩))[j]? = some (some t) → (j ≠ i ∧ j < env.length ∧ env[j]? = some (some t)) ∨ (j = i ∧ t = ⟨m, d'⟩) := fun j t h => by
    by_cases e : j = i
    · subst e
      rw [List.getElem?_set_self hil] at h
      cases h
      exact .inr ⟨rfl, rfl⟩
    · rw [List.getElem?_set_ne (Ne.symm e)] at h
      obtain ⟨hj, _⟩ := List.getElem?_eq_some_iff.mp h
      exact .inl ⟨e, hj, h⟩
  obtain ⟨vi, qi, oki⟩ := S.ok i _ (old i _ hi)
  rw [List.getElem?_append_left (by omega), hv] at qi
  cases qi
  obtain ⟨ri, ndi, hmi⟩ := oki.mk_ex hm
  have okt : ∀ k, k < es.length → ∀ a ∈ φ (env.length + k), Mut (H a) ∧ OldO B a := fun k hk => by
    obtain ⟨e, he⟩ := last k hk
    obtain ⟨vt, qt, ok⟩ := S.ok _ _ he
    have ok' : Rep B.K false B.C H e vt (φ (env.length + k)) ∧ (φ (env.length + k)).Nodup ∧ ∀ a ∈ φ (env.length + k), Mut (H a) ∧ OldO B a := ok
    exact ok'.2.2
  have xO := (hmi x hx).2
  have xM := (hmi x hx).1
  refine ⟨by simp [hl], fun j t h => ?_, fun j k t u n h1 h2 hex => ?_, fun a o h h1 h2 => ?_, fun a h => ?_⟩
  · rcases at_ j t h with ⟨n, hj, g⟩ | ⟨e1, e2⟩
    · obtain ⟨w', q, ok⟩ := S.ok j t (old j _ g)
      rw [List.getElem?_append_left (by omega)] at q
      refine ⟨w', q, ?_⟩
      rw [fset_ne n]
      exact ok.upd (S.excl i j _ t (Ne.symm n) (old _ _ hi) (old _ _ g) hm x hx) xM
    · subst e1; subst e2
      refine ⟨v, hv, ?_⟩
      rw [fset_same]
      have mu : ∀ a ∈ fp, Mut (upd H x o' a) := fun a ha => by
        by_cases e : a = x
        · subst e; rw [upd_same]; exact mo
        · rw [upd_ne e]
          rcases sub a ha with q | ⟨k, hk, q⟩
          · exact (hmi a q).1
          · exact (okt k hk a q).1
      unfold SlotOk at oki ⊢
      cases m with
      | own => exact ⟨r, nd, fun a ha => ⟨mu a ha, (sub a ha).elim (fun q => (oki.2.2 a q).2) fun ⟨k, hk, q⟩ => (okt k hk a q).2⟩⟩
      | chg => exact ⟨r, nd, fun a ha => ⟨mu a ha, (sub a ha).elim (fun q => (oki.2.2.1 a q).2) fun ⟨k, hk, q⟩ => .inr (okt k hk a q).2⟩, oki.2.2.2⟩
      | shr => cases hm
      | pin => cases hm
  · rcases at_ j t h1 with ⟨n1, hj, g1⟩ | ⟨e1, e1'⟩ <;> rcases at_ k u h2 with ⟨n2, hk, g2⟩ | ⟨e2, e2'⟩
    · rw [fset_ne n1, fset_ne n2]
      exact S.excl j k t u n (old _ _ g1) (old _ _ g2) hex
    · subst e2; subst e2'
      rw [fset_ne n1, fset_same]
      intro a ha hb
      rcases sub a hb with q | ⟨c, hc, q⟩
      · exact S.excl j k t _ n1 (old _ _ g1) (old _ _ hi) hex a ha q
      · obtain ⟨e, he⟩ := last c hc
        exact S.excl j (env.length + c) t _ (by omega) (old _ _ g1) he hex a ha q
    · subst e1; subst e1'
      rw [fset_ne n2, fset_same]
      intro a ha hb
      rcases sub a ha with q | ⟨c, hc, q⟩
      · exact S.excl j k _ u n (old _ _ hi) (old _ _ g2) hm a q hb
      · obtain ⟨e, he⟩ := last c hc
        exact S.excl (env.length + c) k _ u (by omega) he (old _ _ g2) rfl a q hb
    · exact absurd (e1.trans e2.symm) n
  · have ne : a ≠ x := by
      rintro rfl
      rcases xO with q | q | q
      · exact h2 i q
      · exact h1 q
      · rw [q] at h; cases h
    rw [upd_ne ne]
    exact S.frame a o h h1 h2
  · by_cases e : a = x
    · subst e; rw [upd_same]; simp
    · rw [upd_ne e]; exact S.there a h
end
end DL


set_option Elab.async false
set_option linter.all false
set_option maxRecDepth 100000
/-! The data layer, part 4: what an expression is worth. -/
namespace DL
open PySem PySem.Spec PyProof.Rows L2

/-- what a pure expression is worth, by the state -/
abbrev DF := Env → Option D
/-- it lay there, or was laid new -/
def Known (H : Hp) (env : Env) (φ : Nat → Fp) (fp : Fp) : Prop := ∀ a ∈ fp, H a = none ∨ ∃ i s, env[i]? = some (some s) ∧ a ∈ φ i
def New (H H' : Hp) (fp : Fp) : Prop := fp.Nodup ∧ ∀ a ∈ fp, Mut (H' a) ∧ H a = none
def PP (B : Bs) (f : DF) : TE := fun σ H Q => ∃ env φ d, St B σ H env φ ∧ f env = some d ∧ ∀ v H' fp, Ex H H' → Rep B.K true B.C H' d v fp → Known H env φ fp → Q v H'
def PN (B : Bs) (f : DF) : TE := fun σ H Q => ∃ env φ d, St B σ H env φ ∧ f env = some d ∧ ∀ v H' fp, Ex H H' → Rep B.K false B.C H' d v fp → New H H' fp → Q v H'
def PB (B : Bs) (f : Env → Option Bool) : TT := fun σ H Q => ∃ env φ b, St B σ H env φ ∧ f env = some b ∧ ∀ H', Ex H H' → Q b H'

theorem _root_.L2.PE.imp {X : Cx} {e : Expr} {t t' : TE} (h : PE X e t) (k : ∀ σ H Q, t' σ H Q → t σ H Q) : PE X e t' := ⟨fun pins s σ H Q I q => h.run pins s σ H Q I (k σ H Q q)⟩
theorem _root_.L2.PT.imp {X : Cx} {e : Expr} {t t' : TT} (h : PT X e t) (k : ∀ σ H Q, t' σ H Q → t σ H Q) : PT X e t' := ⟨fun pins s σ H Q I q => h.run pins s σ H Q I (k σ H Q q)⟩
theorem _root_.L2.PA.imp {X : Cx} {e : List Expr} {t t' : TA} (h : PA X e t) (k : ∀ σ H Q, t' σ H Q → t σ H Q) : PA X e t' := ⟨fun pos pins s σ H Q I q => h.run pos pins s σ H Q I (k σ H Q q)⟩
theorem _root_.L2.PS.imp {X : Cx} {e : Stmt} {t t' : TS} (h : PS X e t) (k : ∀ D σ H, t' D σ H → t D σ H) : PS X e t' := ⟨fun pins s σ H D I q => h.run pins s σ H D I (k D σ H q)⟩
theorem _root_.L2.PSs.imp {X : Cx} {e : List Stmt} {t t' : TS} (h : PSs X e t) (k : ∀ D σ H, t' D σ H → t D σ H) : PSs X e t' := ⟨fun pins s σ H D I q => h.run pins s σ H D I (k D σ H q)⟩

structure DP (X : Cx) (e : Expr) (f : DF) : Prop where
  pe : ∀ B : Bs, B.K = X.K → PE X e (PP B f)
structure DN (X : Cx) (e : Expr) (f : DF) : Prop where
  pe : ∀ B : Bs, B.K = X.K → PE X e (PN B f)
structure DT (X : Cx) (e : Expr) (f : Env → Option Bool) : Prop where
  pt : ∀ B : Bs, B.K = X.K → PT X e (PB B f)

theorem New.known {H H' : Hp} {fp : Fp} {env : Env} {φ : Nat → Fp} (n : New H H' fp) : Known H env φ fp := fun a ha => .inl (n.2 a ha).2
theorem New.nil {H H' : Hp} : New H H' [] := ⟨.nil, fun _ h => nomatch h⟩
/-- fresh ahead of an extension is fresh before -/
theorem fresh_back {H H' : Hp} {p : Addr} (e : Ex H H') (h : H' p = none) : H p = none := Evl.fresh_back e h
theorem New.ex {H H1 H2 : Hp} {fp : Fp} (n : New H1 H2 fp) (e : Ex H H1) : New H H2 fp := ⟨n.1, fun a ha => ⟨(n.2 a ha).1, fresh_back e (n.2 a ha).2⟩⟩
theorem mut_ex {H H' : Hp} {a : Addr} (e : Ex H H') (h : Mut (H a)) : Mut (H' a) := by
  cases r : H a with
  | none => rw [r] at h; exact h.elim
  | some o => rw [e a o r]; rw [r] at h; exact h
theorem New.on {H H1 H2 : Hp} {fp : Fp} (n : New H H1 fp) (e : Ex H1 H2) : New H H2 fp := ⟨n.1, fun a ha => ⟨mut_ex e (n.2 a ha).1, (n.2 a ha).2⟩⟩
theorem Known.ex {H H1 : Hp} {env : Env} {φ : Nat → Fp} {fp : Fp} (k : Known H1 env φ fp) (e : Ex H H1) : Known H env φ fp := fun a ha => (k a ha).imp (fresh_back e) id
theorem New.app {K : PySem.W.Frag} {C : Str → Addr} {d : D} {v : V} {H H1 H2 : Hp} {f g : Fp} (n : New H H1 f) (e : Ex H H1) (r : Rep K false C H1 d v f) (m : New H1 H2 g) (e2 : Ex H1 H2) : New H H2 (f ++ g) :=
  ⟨List.nodup_append.mpr ⟨n.1, m.1, fun a ha b hb => by rintro rfl; exact rep_in r a ha (m.2 a hb).2⟩, fun a ha => (List.mem_append.mp ha).elim (fun q => ⟨mut_ex e2 (n.2 a q).1, (n.2 a q).2⟩) fun q => ⟨(m.2 a q).1, fresh_back e (m.2 a q).2⟩⟩

section
variable {X : Cx} {e a b c : Expr} {f fa fb : DF} {pos : Pos}
theorem DN.dp (h : DN X e f) : DP X e f := ⟨fun B hB => (h.pe B hB).imp fun σ H Q ⟨env, φ, d, S, q, k⟩ => ⟨env, φ, d, S, q, fun v H' fp e r n => k v H' fp e (rep_K r) n.known⟩⟩
def fImm (f : DF) : DF := fun env => match f env with
  | some d => if imm d = true then some d else none
  | none => none
theorem fImm_of {f : DF} {env : Env} {d : D} (h : fImm f env = some d) : f env = some d ∧ imm d = true := by
  unfold fImm at h
  split at h
  · rename_i e _
    split at h
    · cases h; exact ⟨by assumption, by assumption⟩
    · cases h
  · cases h
theorem DP.dn (h : DP X e f) : DN X e (fImm f) := ⟨fun B hB => (h.pe B hB).imp fun σ H Q ⟨env, φ, d, S, q, k⟩ => ⟨env, φ, d, S, (fImm_of q).1, fun v H' fp e r _ => by
  have i := (fImm_of q).2
  have z := rep_imm r i
  subst z
  exact k v H' [] e (rep_immK r i) New.nil⟩⟩

/-! ### names and constants -/
def fVar (i : Nat) : DF := fun env => match env[i]? with
  | some (some s) => some s.d
  | _ => none
theorem fVar_of {i : Nat} {env : Env} {d : D} (h : fVar i env = some d) : ∃ s, env[i]? = some (some s) ∧ s.d = d := by
  unfold fVar at h
  split at h
  · cases h; exact ⟨_, by assumption, rfl⟩
  · cases h
theorem dp_var {x : Str} (i : Nat) (hN : X.N[i]? = some x) (hv : Vis X.env.scope x) (hd : (x == ("__debug__" : Str)) = false := by decide) (hcd : (x == ("__classdict__" : Str)) = false := by decide) : DP X (.Name x pos) (fVar i) :=
  ⟨fun B hB => (pe_var hN hv hd hcd).imp fun σ H Q ⟨env, φ, d, S, q, k⟩ => by
    obtain ⟨s, es, rfl⟩ := fVar_of q
    obtain ⟨v, e, r⟩ := S.get es
    exact ⟨v, e, k v H _ (Evl.Ex.refl H) r fun a ha => .inr ⟨i, s, es, ha⟩⟩⟩
def fC (d : D) : DF := fun _ => some d
theorem dn_c {v : V} {d : D} (h : PE X e (tC v)) (r : ∀ K C H, Rep K false C H d v []) : DN X e (fC d) := ⟨fun B hB => h.imp fun σ H Q ⟨env, φ, d', S, q, k⟩ => by
  cases q
  exact k v H [] (Evl.Ex.refl H) (r _ _ _) New.nil⟩
theorem dn_int {i j pos} : DN X (.Constant (.int i) j pos) (fC (.int i)) := dn_c pe_int fun _ _ _ => ⟨rfl, rfl⟩
theorem dn_bl {b j pos} : DN X (.Constant (.bool b) j pos) (fC (.bl b)) := dn_c pe_bl fun _ _ _ => ⟨rfl, rfl⟩
theorem dn_non {j pos} : DN X (.Constant .none j pos) (fC .non) := dn_c pe_non fun _ _ _ => ⟨rfl, rfl⟩
theorem dn_str {x j pos} : DN X (.Constant (.str x) j pos) (fC (.str x)) := dn_c pe_str fun _ _ _ => ⟨rfl, rfl⟩

/-! ### operations by values -/
def f1 (g : D → Option D) (fa : DF) : DF := fun env => match fa env with
  | some x => g x
  | none => none
def f2 (g : D → D → Option D) (fa fb : DF) : DF := fun env => match fa env, fb env with
  | some x, some y => g x y
  | _, _ => none
theorem f1_of {g : D → Option D} {env : Env} {d : D} (h : f1 g fa env = some d) : ∃ x, fa env = some x ∧ g x = some d := by
  unfold f1 at h
  split at h
  · exact ⟨_, by assumption, h⟩
  · cases h
theorem f2_of {g : D → D → Option D} {env : Env} {d : D} (h : f2 g fa fb env = some d) : ∃ x y, fa env = some x ∧ fb env = some y ∧ g x y = some d := by
  unfold f2 at h
  split at h
  · exact ⟨_, _, by assumption, by assumption, h⟩
  · cases h
/-- a two-place operation: new data -/
def Op2N (K : PySem.W.Frag) (r : R2) (g : D → D → Option D) : Prop := ∀ (C : Str → Addr) (H : Hp) (x y d : D) (u v : V) (fu fv : Fp) (Q : VK), Rep K true C H x u fu → Rep K true C H y v fv → g x y = some d →
  (∀ w H' fp, Ex H H' → Rep K false C H' d w fp → New H H' fp → Q w H') → r u v H Q
/-- .. data that were there -/
def Op2P (K : PySem.W.Frag) (r : R2) (g : D → D → Option D) : Prop := ∀ (C : Str → Addr) (H : Hp) (x y d : D) (u v : V) (fu fv : Fp) (Q : VK), Rep K true C H x u fu → Rep K true C H y v fv → g x y = some d →
  (∀ w H' fp, Ex H H' → Rep K true C H' d w fp → (∀ a ∈ fp, H a = none ∨ a ∈ fu ∨ a ∈ fv) → Q w H') → r u v H Q
def Op1N (K : PySem.W.Frag) (r : V → Hp → VK → Prop) (g : D → Option D) : Prop := ∀ (C : Str → Addr) (H : Hp) (x d : D) (u : V) (fu : Fp) (Q : VK), Rep K true C H x u fu → g x = some d →
  (∀ w H' fp, Ex H H' → Rep K false C H' d w fp → New H H' fp → Q w H') → r u H Q
theorem op2_n {r : R2} {g : D → D → Option D} (hr : Op2N X.K r g) (ha : DP X a fa) (hb : DP X b fb) (h : ∀ ta tb, PE X a ta → PE X b tb → PE X e (tOp r ta tb)) : DN X e (f2 g fa fb) :=
  ⟨fun B hB => (h _ _ (ha.pe B hB) (hb.pe B hB)).imp fun σ H Q ⟨env, φ, d, S, q, k⟩ => by
    obtain ⟨x, y, q1, q2, q3⟩ := f2_of q
    refine ⟨env, φ, x, S, q1, fun u H1 fu e1 r1 k1 => ⟨env, φ, y, S.ex e1, q2, fun v H2 fv e2 r2 k2 => ?_⟩⟩
    refine hr B.C H2 x y d u v fu fv Q (hB ▸ rep_ex r1 e2) (hB ▸ r2) q3 fun w H3 fp e3 r3 n3 => ?_
    exact k w H3 fp ((e1.trans e2).trans e3) (hB ▸ r3) (n3.ex (e1.trans e2))⟩
theorem op2_p {r : R2} {g : D → D → Option D} (hr : Op2P X.K r g) (ha : DP X a fa) (hb : DP X b fb) (h : ∀ ta tb, PE X a ta → PE X b tb → PE X e (tOp r ta tb)) : DP X e (f2 g fa fb) :=
  ⟨fun B hB => (h _ _ (ha.pe B hB) (hb.pe B hB)).imp fun σ H Q ⟨env, φ, d, S, q, k⟩ => by
    obtain ⟨x, y, q1, q2, q3⟩ := f2_of q
    refine ⟨env, φ, x, S, q1, fun u H1 fu e1 r1 k1 => ⟨env, φ, y, S.ex e1, q2, fun v H2 fv e2 r2 k2 => ?_⟩⟩
    refine hr B.C H2 x y d u v fu fv Q (hB ▸ rep_ex r1 e2) (hB ▸ r2) q3 fun w H3 fp e3 r3 n3 => ?_
    refine k w H3 fp ((e1.trans e2).trans e3) (hB ▸ r3) fun z hz => ?_
    rcases n3 z hz with q | q | q
    · exact .inl (fresh_back (e1.trans e2) q)
    · exact k1 z q
    · exact (k2.ex e1) z q⟩
theorem op1_n {r : V → Hp → VK → Prop} {g : D → Option D} (hr : Op1N X.K r g) (ha : DP X a fa) (h : ∀ ta, PE X a ta → PE X e (tUn r ta)) : DN X e (f1 g fa) :=
  ⟨fun B hB => (h _ (ha.pe B hB)).imp fun σ H Q ⟨env, φ, d, S, q, k⟩ => by
    obtain ⟨x, q1, q3⟩ := f1_of q
    refine ⟨env, φ, x, S, q1, fun u H1 fu e1 r1 k1 => ?_⟩
    refine hr B.C H1 x d u fu Q (hB ▸ r1) q3 fun w H3 fp e3 r3 n3 => ?_
    exact k w H3 fp (e1.trans e3) (hB ▸ r3) (n3.ex e1)⟩
theorem dn_bin {op : Operator} {r : R2} {g : D → D → Option D} (hr : Op2N X.K r g) (ho : OpR X (binaryOp op) r) (ha : DP X a fa) (hb : DP X b fb) : DN X (.BinOp a op b pos) (f2 g fa fb) :=
  op2_n hr ha hb fun _ _ pa pb => pe_op ho pa pb
theorem dn_un {op : UnaryOp} {r : V → Hp → VK → Prop} {g : D → Option D} (hr : Op1N X.K r g) (ho : UnR X (unaryOp op) r) (ha : DP X a fa) : DN X (.UnaryOp op a pos) (f1 g fa) :=
  op1_n hr ha fun _ pa => pe_un ho pa
theorem dn_cmp {op : CmpOp} {r : R2} {g : D → D → Option D} (hr : Op2N X.K r g) (ho : OpR X (compareOp op) r) (ha : DP X a fa) (hb : DP X b fb) (hm : behindInMarks op b = false) : DN X (.Compare a [op] [b] pos) (f2 g fa fb) :=
  op2_n hr ha hb fun _ _ pa pb => pe_cmpR ho pa pb hm
/-- an expression of True or False as a test -/
def fB (f : DF) : Env → Option Bool := fun env => match f env with
  | some (.bl b) => some b
  | _ => none
theorem fB_of {env : Env} {b : Bool} (h : fB f env = some b) : f env = some (.bl b) := by
  unfold fB at h
  split at h
  · cases h; assumption
  · cases h
theorem dt_val (h : DP X e f) (he : ∀ whole, isTrue e X.env whole = (do let v ← whole; standAt e.pos; holding [v] (truthy v)) := by intro _; rfl) : DT X e (fB f) :=
  ⟨fun B hB => (pt_val (h.pe B hB) he).imp fun σ H Q ⟨env, φ, b, S, q, k⟩ => ⟨env, φ, _, S, fB_of q, fun v H' fp e r _ => ⟨b, r.1, k H' e⟩⟩⟩
theorem dt_cmp {op : CmpOp} {r : R2} {g : D → D → Option D} (hr : Op2N X.K r g) (ho : OpR X (compareOp op) r) (ha : DP X a fa) (hb : DP X b fb) (hm : behindInMarks op b = false) : DT X (.Compare a [op] [b] pos) (fB (f2 g fa fb)) :=
  ⟨fun B hB => (pt_cmpR ho (ha.pe B hB) (hb.pe B hB) hm).imp fun σ H Q ⟨env, φ, d, S, q, k⟩ => by
    obtain ⟨x, y, q1, q2, q3⟩ := f2_of (fB_of q)
    refine ⟨env, φ, x, S, q1, fun u H1 fu e1 r1 k1 => ⟨env, φ, y, S.ex e1, q2, fun v H2 fv e2 r2 k2 => ?_⟩⟩
    refine hr B.C H2 x y _ u v fu fv _ (hB ▸ rep_ex r1 e2) (hB ▸ r2) q3 fun w H3 fp e3 r3 n3 => ?_
    exact ⟨d, r3.1, k H3 ((e1.trans e2).trans e3)⟩⟩
/-! ### and, or, not, if -/
def fAnd (f g : Env → Option Bool) : Env → Option Bool := fun env => match f env with
  | some true => g env
  | some false => some false
  | none => none
def fOr (f g : Env → Option Bool) : Env → Option Bool := fun env => match f env with
  | some true => some true
  | some false => g env
  | none => none
def fNot (f : Env → Option Bool) : Env → Option Bool := fun env => match f env with
  | some b => some (!b)
  | none => none
structure DW (X : Cx) (e : Expr) (f : Env → Option Bool) : Prop where
  pw : ∀ B : Bs, B.K = X.K → PW X e (PB B f)
theorem DW.dt {g : Env → Option Bool} (h : DW X e g) : DT X e g := ⟨fun B hB => (h.pw B hB).pt⟩
theorem _root_.L2.PW.imp {X : Cx} {e : Expr} {t t' : TT} (h : PW X e t) (k : ∀ σ H Q, t' σ H Q → t σ H Q) : PW X e t' := ⟨fun whole pins s σ H Q I q => h.run whole pins s σ H Q I (k σ H Q q)⟩
variable {g h : Env → Option Bool} {rest : List Expr}
theorem dw_and1 (ha : DT X a g) : DW X (.BoolOp .And [a] pos) g := ⟨fun B hB => pw_and1 (ha.pt B hB)⟩
theorem dw_or1 (ha : DT X a g) : DW X (.BoolOp .Or [a] pos) g := ⟨fun B hB => pw_or1 (ha.pt B hB)⟩
theorem dw_and (ha : DT X a g) (hb : DW X (.BoolOp .And (b :: rest) pos) h) : DW X (.BoolOp .And (a :: b :: rest) pos) (fAnd g h) :=
  ⟨fun B hB => (pw_and (ha.pt B hB) (hb.pw B hB)).imp fun σ H Q ⟨env, φ, d, S, q, k⟩ => by
    unfold fAnd at q
    split at q
    · rename_i e
      exact ⟨env, φ, true, S, e, fun H1 e1 => by
        refine iteT ?_
        exact ⟨env, φ, d, S.ex e1, q, fun H2 e2 => k H2 (e1.trans e2)⟩⟩
    · rename_i e
      cases q
      exact ⟨env, φ, false, S, e, fun H1 e1 => by
        refine iteF ?_
        exact k H1 e1⟩
    · cases q⟩
theorem dw_or (ha : DT X a g) (hb : DW X (.BoolOp .Or (b :: rest) pos) h) : DW X (.BoolOp .Or (a :: b :: rest) pos) (fOr g h) :=
  ⟨fun B hB => (pw_or (ha.pt B hB) (hb.pw B hB)).imp fun σ H Q ⟨env, φ, d, S, q, k⟩ => by
    unfold fOr at q
    split at q
    · rename_i e
      cases q
      exact ⟨env, φ, true, S, e, fun H1 e1 => by
        refine iteT ?_
        exact k H1 e1⟩
    · rename_i e
      exact ⟨env, φ, false, S, e, fun H1 e1 => by
        refine iteF ?_
        exact ⟨env, φ, d, S.ex e1, q, fun H2 e2 => k H2 (e1.trans e2)⟩⟩
    · cases q⟩
theorem dt_not (ha : DT X a g) : DT X (.UnaryOp .Not a pos) (fNot g) :=
  ⟨fun B hB => (pt_not (ha.pt B hB)).imp fun σ H Q ⟨env, φ, d, S, q, k⟩ => by
    unfold fNot at q
    split at q
    · rename_i e
      cases q
      exact ⟨env, φ, _, S, e, fun H1 e1 => k H1 e1⟩
    · cases q⟩
/-- and, or, not as values: by the test's own answer (all parts True or False) -/
def fV (g : Env → Option Bool) : DF := fun env => match g env with
  | some b => some (.bl b)
  | none => none
theorem fV_of {env : Env} {d : D} (q : fV g env = some d) : ∃ b, g env = some b ∧ d = .bl b := by
  unfold fV at q
  split at q
  · cases q; exact ⟨_, by assumption, rfl⟩
  · cases q
theorem dn_one {op} (h : DN X a (fV g)) : DN X (.BoolOp op [a] pos) (fV g) := ⟨fun B hB => pe_one (h.pe B hB)⟩
theorem dn_and (ha : DN X a (fV g)) (hb : DN X (.BoolOp .And (b :: rest) pos) (fV h)) : DN X (.BoolOp .And (a :: b :: rest) pos) (fV (fAnd g h)) :=
  ⟨fun B hB => (pe_and (ha.pe B hB) (hb.pe B hB)).imp fun σ H Q ⟨env, φ, d, S, q, k⟩ => by
    obtain ⟨b, q', rfl⟩ := fV_of q
    clear q
    have q := q'
    clear q'
    unfold fAnd at q
    split at q
    · rename_i e
      refine ⟨env, φ, .bl true, S, by simp [fV, e], fun v H1 fp e1 r n => ⟨true, r.1, ?_⟩⟩
      refine iteT ?_
      exact ⟨env, φ, .bl b, S.ex e1, by simp [fV, q], fun w H2 fp e2 r n => k w H2 fp (e1.trans e2) r (n.ex e1)⟩
    · rename_i e
      cases q
      refine ⟨env, φ, .bl false, S, by simp [fV, e], fun v H1 fp e1 r n => ⟨false, r.1, ?_⟩⟩
      refine iteF ?_
      exact k _ H1 [] e1 ⟨rfl, rfl⟩ New.nil
    · cases q⟩
theorem dn_or (ha : DN X a (fV g)) (hb : DN X (.BoolOp .Or (b :: rest) pos) (fV h)) : DN X (.BoolOp .Or (a :: b :: rest) pos) (fV (fOr g h)) :=
  ⟨fun B hB => (pe_or (ha.pe B hB) (hb.pe B hB)).imp fun σ H Q ⟨env, φ, d, S, q, k⟩ => by
    obtain ⟨b, q', rfl⟩ := fV_of q
    clear q
    have q := q'
    clear q'
    unfold fOr at q
    split at q
    · rename_i e
      cases q
      refine ⟨env, φ, .bl true, S, by simp [fV, e], fun v H1 fp e1 r n => ⟨true, r.1, ?_⟩⟩
      refine iteT ?_
      exact k _ H1 [] e1 ⟨rfl, rfl⟩ New.nil
    · rename_i e
      refine ⟨env, φ, .bl false, S, by simp [fV, e], fun v H1 fp e1 r n => ⟨false, r.1, ?_⟩⟩
      refine iteF ?_
      exact ⟨env, φ, .bl b, S.ex e1, by simp [fV, q], fun w H2 fp e2 r n => k w H2 fp (e1.trans e2) r (n.ex e1)⟩
    · cases q⟩
theorem dn_notV (ha : DN X a (fV g)) : DN X (.UnaryOp .Not a pos) (fV (fNot g)) :=
  ⟨fun B hB => (pe_not (ha.pe B hB)).imp fun σ H Q ⟨env, φ, d, S, q, k⟩ => by
    obtain ⟨b, q', rfl⟩ := fV_of q
    clear q
    have q := q'
    clear q'
    unfold fNot at q
    split at q
    · rename_i c e
      cases q
      exact ⟨env, φ, .bl c, S, by simp [fV, e], fun v H1 fp e1 r n => ⟨c, r.1, k _ H1 [] e1 ⟨rfl, rfl⟩ New.nil⟩⟩
    · cases q⟩
/-- an expression that always gives True or False, as a value of a test's kind -/
theorem dn_fV (h : DN X e f) : DN X e (fV (fB f)) := ⟨fun B hB => (h.pe B hB).imp fun σ H Q ⟨env, φ, d, S, q, k⟩ => by
  obtain ⟨b, q', rfl⟩ := fV_of q
  exact ⟨env, φ, _, S, fB_of q', k⟩⟩
def fIf {α : Type} (g : Env → Option Bool) (fa fb : Env → Option α) : Env → Option α := fun env => match g env with
  | some true => fa env
  | some false => fb env
  | none => none
theorem dn_if (hc : DT X c g) (ha : DN X a fa) (hb : DN X b fb) : DN X (.IfExp c a b pos) (fIf g fa fb) :=
  ⟨fun B hB => (pe_ifExp (hc.pt B hB) (ha.pe B hB) (hb.pe B hB)).imp fun σ H Q ⟨env, φ, d, S, q, k⟩ => by
    unfold fIf at q
    split at q
    · rename_i e
      refine ⟨env, φ, true, S, e, fun H1 e1 => ?_⟩
      refine iteT ?_
      exact ⟨env, φ, d, S.ex e1, q, fun v H2 fp e2 r n => k v H2 fp (e1.trans e2) r (n.ex e1)⟩
    · rename_i e
      refine ⟨env, φ, false, S, e, fun H1 e1 => ?_⟩
      refine iteF ?_
      exact ⟨env, φ, d, S.ex e1, q, fun v H2 fp e2 r n => k v H2 fp (e1.trans e2) r (n.ex e1)⟩
    · cases q⟩
theorem dp_if (hc : DT X c g) (ha : DP X a fa) (hb : DP X b fb) : DP X (.IfExp c a b pos) (fIf g fa fb) :=
  ⟨fun B hB => (pe_ifExp (hc.pt B hB) (ha.pe B hB) (hb.pe B hB)).imp fun σ H Q ⟨env, φ, d, S, q, k⟩ => by
    unfold fIf at q
    split at q
    · rename_i e
      refine ⟨env, φ, true, S, e, fun H1 e1 => ?_⟩
      refine iteT ?_
      exact ⟨env, φ, d, S.ex e1, q, fun v H2 fp e2 r n => k v H2 fp (e1.trans e2) r (n.ex e1)⟩
    · rename_i e
      refine ⟨env, φ, false, S, e, fun H1 e1 => ?_⟩
      refine iteF ?_
      exact ⟨env, φ, d, S.ex e1, q, fun v H2 fp e2 r n => k v H2 fp (e1.trans e2) r (n.ex e1)⟩
    · cases q⟩
end
end DL


set_option Elab.async false
set_option linter.all false
set_option maxRecDepth 100000
/-! The data layer, part 5: operations. -/
namespace DL
open PySem PySem.Spec PyProof.Rows L2

def LIM : Nat := 1000000
theorem lim_le {n : Nat} (h : n ≤ LIM) : n ≤ sizeLine := Nat.le_trans h (by decide)
theorem lim_lt {n : Nat} (h : n < LIM) : n < sizeLine := Nat.lt_of_lt_of_le h (by decide)

section
variable {K : PySem.W.Frag} {kl : Bool} {C : Str → Addr} {H H' : Hp}
theorem rep_int {i : Int} {v : V} {fp : Fp} : Rep K kl C H (.int i) v fp ↔ v = .int i ∧ fp = [] := by unfold Rep; exact Iff.rfl
theorem rep_bl {i : Bool} {v : V} {fp : Fp} : Rep K kl C H (.bl i) v fp ↔ v = .bl i ∧ fp = [] := by unfold Rep; exact Iff.rfl
theorem rep_str {i : Str} {v : V} {fp : Fp} : Rep K kl C H (.str i) v fp ↔ v = .str i ∧ fp = [] := by unfold Rep; exact Iff.rfl
theorem rep_non {v : V} {fp : Fp} : Rep K kl C H .non v fp ↔ v = .non ∧ fp = [] := by unfold Rep; exact Iff.rfl
theorem rep_lst {l : List D} {v : V} {fp : Fp} : Rep K kl C H (.lst l) v fp ↔ ∃ a vs fs, v = .ref a ∧ Reps K kl C H l vs fs ∧ ((Rd H a (.lst vs) ∧ fp = a :: fs) ∨ (kl = true ∧ KL K a vs ∧ fp = fs)) := by unfold Rep; exact Iff.rfl
theorem rep_tup {l : List D} {v : V} {fp : Fp} : Rep K kl C H (.tup l) v fp ↔ ∃ a vs, v = .ref a ∧ H a = some (.tup vs) ∧ Reps K kl C H l vs fp := by unfold Rep; exact Iff.rfl
theorem rep_sql {l : List D} {v : V} {fp : Fp} (h : Rep K kl C H (.lst l) v fp) : ∃ a vs fs, v = .ref a ∧ SqL K H a vs ∧ Reps K kl C H l vs fs ∧ (∀ x ∈ fs, x ∈ fp) := by
  obtain ⟨a, vs, fs, e, hr, ⟨hl, rfl⟩ | ⟨_, hl, rfl⟩⟩ := rep_lst.mp h
  · exact ⟨a, vs, fs, e, .inl hl, hr, fun x hx => List.mem_cons_of_mem _ hx⟩
  · exact ⟨a, vs, _, e, .inr hl, hr, fun x hx => hx⟩
/-- a new list of what is never written -/
theorem rep_newL {l : List D} {vs : List V} {p : Addr} (h : Reps K false C H l vs []) (hp : H p = none) : Rep K false C (upd H p (.lst vs)) (.lst l) (.ref p) [p] :=
  rep_lst.mpr ⟨p, vs, [], rfl, reps_ex h (Evl.Ex.new hp), .inl ⟨.inl upd_same, rfl⟩⟩
theorem new_one {p : Addr} {vs : List V} (hp : H p = none) : New H (upd H p (.lst vs)) [p] := ⟨by simp, fun a ha => by
  rw [List.mem_singleton.mp ha, upd_same]
  exact ⟨trivial, hp⟩⟩
theorem rep_newT {l : List D} {vs : List V} {p : Addr} {fp : Fp} (h : Reps K kl C H l vs fp) (hp : H p = none) : Rep K kl C (upd H p (.tup vs)) (.tup l) (.ref p) fp :=
  rep_tup.mpr ⟨p, vs, rfl, upd_same, reps_ex h (Evl.Ex.new hp)⟩
end

/-! ### list + list, whoever holds them -/
section
variable {X : Cx}
def rCatS (K : PySem.W.Frag) : R2 := fun x y H Q => ∃ l b xs zs, x = .ref l ∧ y = .ref b ∧ SqL K H l xs ∧ SqL K H b zs ∧ xs.length + zs.length ≤ sizeLine ∧ ∀ p, H p = none → Q (.ref p) (L2.upd H p (.lst (xs ++ zs)))
theorem op_catS : OpR X (binaryOp .Add) (rCatS X.K) := by
  intro pins s σ H x y v u Q I rx ry h
  obtain ⟨l, b, xs, zs, rfl, rfl, hH, hB, hz, q⟩ := h
  cases rx
  cases ry
  obtain ⟨its, r, pl, hl⟩ := I.list hH
  obtain ⟨its2, r2, pl2, hl2⟩ := I.list hB
  have l1 := r.length
  have l2 := r2.length
  obtain ⟨⟨cls, dd, data, sl⟩, n, ho, hc, hdd, hd⟩ := pl
  obtain ⟨⟨cls2, dd2, data2, sl2⟩, n2, ho2, hc2, hdd2, hd2⟩ := pl2
  simp only at hc hd hdd hc2 hd2 hdd2
  subst hc hd hdd hc2 hd2 hdd2
  refine concat_meets ⟨_, ho, rfl⟩ ⟨_, ho2, rfl⟩ noFill_list_add seq_list_add F.slot_list_add F.entry_list_add (F.args_list_add_2 _ _) (list_addW l b its.toArray its2.toArray n n2 none none sl sl2 (by rw [List.size_toArray, List.size_toArray]; omega)) ⟨ho, ho2, ?_⟩
  have ea : its.toArray ++ its2.toArray = (its ++ its2).toArray := by simp
  rw [ea]
  exact ⟨.ref _, _, I.lnew (t' := s.toks) (r.append r2) (by rw [List.length_append]; omega), rfl, q _ I.fresh⟩
end

section
variable {K : PySem.W.Frag}
theorem fin_int {kl : Bool} {C : Str → Addr} {H : Hp} {i : Int} : Rep K kl C H (.int i) (.int i) [] := rep_int.mpr ⟨rfl, rfl⟩
theorem fin_bl {kl : Bool} {C : Str → Addr} {H : Hp} {i : Bool} : Rep K kl C H (.bl i) (.bl i) [] := rep_bl.mpr ⟨rfl, rfl⟩
theorem fin_str {kl : Bool} {C : Str → Addr} {H : Hp} {i : Str} : Rep K kl C H (.str i) (.str i) [] := rep_str.mpr ⟨rfl, rfl⟩

/-! ### whole numbers -/
def gI (C : Int → Int → Bool) (f : Int → Int → Int) : D → D → Option D
  | .int i, .int j => if C i j = true then some (.int (f i j)) else none
  | _, _ => none
theorem op_gI {C : Int → Int → Prop} {c : Int → Int → Bool} {f : Int → Int → Int} (hc : ∀ i j, c i j = true → C i j) : Op2N K (rI C fun i j => .int (f i j)) (gI c f) := by
  intro CC H x y d u v fu fv Q hx hy hg k
  unfold gI at hg
  split at hg
  · split at hg
    · cases hg
      rename_i i j h
      obtain ⟨rfl, _⟩ := rep_int.mp hx
      obtain ⟨rfl, _⟩ := rep_int.mp hy
      exact ⟨i, j, rfl, rfl, hc _ _ h, k _ H [] (Evl.Ex.refl H) fin_int New.nil⟩
    · cases hg
  · cases hg
def cPos (_ j : Int) : Bool := decide (0 < j)
def cDiv (_ j : Int) : Bool := decide (0 < j) && decide (j.natAbs < 2 ^ 200)
def cMul (i j : Int) : Bool := decide (i.natAbs.log2 + j.natAbs.log2 < 1000000)
def cPow (i j : Int) : Bool := decide (0 ≤ j) && (decide (j ≤ 1000) && decide (i.natAbs < 2 ^ 64))
def gMul := gI cMul fun i j => i * j
def gDiv := gI cDiv fun i j => i / j
def gMod := gI cPos fun i j => i % j
def gPow := gI cPow fun i j => i ^ j.toNat
def gSub : D → D → Option D
  | .int i, .int j => some (.int (i - j))
  | _, _ => none
theorem o_sub : Op2N K (rI0 fun i j => .int (i - j)) gSub := by
  intro CC H x y d u v fu fv Q hx hy hg k
  unfold gSub at hg
  split at hg
  · cases hg
    obtain ⟨rfl, _⟩ := rep_int.mp hx
    obtain ⟨rfl, _⟩ := rep_int.mp hy
    exact ⟨_, _, rfl, rfl, k _ H [] (Evl.Ex.refl H) fin_int New.nil⟩
  · cases hg
theorem o_mul : Op2N K (rI CMulW fun i j => .int (i * j)) gMul := op_gI fun i j h => by unfold CMulW; exact of_decide_eq_true h
theorem o_div : Op2N K (rI CDivW fun i j => .int (i / j)) gDiv := op_gI fun i j h => by
  have h' := Bool.and_eq_true_iff.mp h
  exact wide_div (of_decide_eq_true h'.1) (of_decide_eq_true h'.2) (by decide) (by decide)
theorem o_mod : Op2N K (rI (fun _ j => 0 < j) fun i j => .int (i % j)) gMod := op_gI fun i j h => (of_decide_eq_true h : _)
theorem o_pow : Op2N K (rI CPow fun i j => .int (i ^ j.toNat)) gPow := op_gI fun i j h => by
  have h' := Bool.and_eq_true_iff.mp h
  have h2 := Bool.and_eq_true_iff.mp h'.2
  exact ⟨of_decide_eq_true h'.1, Int.le_trans (of_decide_eq_true h2.1) (by decide), of_decide_eq_true h2.2⟩
def gNeg : D → Option D
  | .int i => some (.int (-i))
  | _ => none
theorem o_neg : Op1N K (rU fun i => .int (-i)) gNeg := by
  intro CC H x d u fu Q hx hg k
  unfold gNeg at hg
  split at hg
  · cases hg
    obtain ⟨rfl, _⟩ := rep_int.mp hx
    exact ⟨_, rfl, k _ H [] (Evl.Ex.refl H) fin_int New.nil⟩
  · cases hg
/-! ### + -/
def rAdd3 (K : PySem.W.Frag) : R2 := fun x y H Q => rI0 (fun i j => .int (i + j)) x y H Q ∨ (fun x y H Q => ∃ i j, x = .str i ∧ y = .str j ∧ i.length + j.length ≤ sizeLine ∧ Q (.str (i ++ j)) H) x y H Q ∨ rCatS K x y H Q
theorem op_add3 {X : Cx} : OpR X (binaryOp .Add) (rAdd3 X.K) := op_add.or (op_add_str.or op_catS)
def gAdd : D → D → Option D
  | .int i, .int j => some (.int (i + j))
  | .str i, .str j => if i.length + j.length ≤ LIM then some (.str (i ++ j)) else none
  | .lst l, .lst m => if imms l = true ∧ imms m = true ∧ l.length + m.length ≤ LIM then some (.lst (l ++ m)) else none
  | _, _ => none
theorem o_add : Op2N K (rAdd3 K) gAdd := by
  intro CC H x y d u v fu fv Q hx hy hg k
  unfold gAdd at hg
  split at hg
  · cases hg
    obtain ⟨rfl, _⟩ := rep_int.mp hx
    obtain ⟨rfl, _⟩ := rep_int.mp hy
    exact .inl ⟨_, _, rfl, rfl, k _ H [] (Evl.Ex.refl H) fin_int New.nil⟩
  · split at hg
    · cases hg
      rename_i h
      obtain ⟨rfl, _⟩ := rep_str.mp hx
      obtain ⟨rfl, _⟩ := rep_str.mp hy
      exact .inr (.inl ⟨_, _, rfl, rfl, lim_le h, k _ H [] (Evl.Ex.refl H) fin_str New.nil⟩)
    · cases hg
  · split at hg
    · cases hg
      rename_i h
      obtain ⟨a, xs, fs, rfl, hl, hr, _⟩ := rep_sql hx
      obtain ⟨b, ys, gs, rfl, hm, hs, _⟩ := rep_sql hy
      have e1 := reps_imm hr h.1
      have e2 := reps_imm hs h.2.1
      subst e1; subst e2
      have l1 := reps_len hr
      have l2 := reps_len hs
      refine .inr (.inr ⟨a, b, xs, ys, rfl, rfl, hl, hm, lim_le (by omega), fun p hp => ?_⟩)
      exact k _ _ [p] (Evl.Ex.new hp) (rep_newL (by simpa using reps_app (reps_immK hr h.1) (reps_immK hs h.2.1)) hp) (new_one hp)
    · cases hg
  · cases hg
/-! ### * : numbers, and a list so many times -/
def rMul2 (K : PySem.W.Frag) : R2 := fun x y H Q => rI CMulW (fun i j => .int (i * j)) x y H Q ∨ rRep x y H Q
theorem op_mul2 {X : Cx} : OpR X (binaryOp .Mult) (rMul2 X.K) := op_mulW.or op_rep
/-! ### comparisons -/
def gCmp (p : Int → Int → Bool) : D → D → Option D
  | .int i, .int j => some (.bl (p i j))
  | _, _ => none
theorem op_gCmp {p : Int → Int → Bool} : Op2N K (rI0 fun i j => .bl (p i j)) (gCmp p) := by
  intro CC H x y d u v fu fv Q hx hy hg k
  unfold gCmp at hg
  split at hg
  · cases hg
    obtain ⟨rfl, _⟩ := rep_int.mp hx
    obtain ⟨rfl, _⟩ := rep_int.mp hy
    exact ⟨_, _, rfl, rfl, k _ H [] (Evl.Ex.refl H) fin_bl New.nil⟩
  · cases hg
def gLt := gCmp fun i j => decide (i < j)
def gLe := gCmp fun i j => decide (i ≤ j)
def gGt := gCmp fun i j => decide (j < i)
def gGe := gCmp fun i j => decide (j ≤ i)
theorem o_lt : Op2N K (rI0 fun i j => .bl (decide (i < j))) gLt := op_gCmp
theorem o_le : Op2N K (rI0 fun i j => .bl (decide (i ≤ j))) gLe := op_gCmp
theorem o_gt : Op2N K (rI0 fun i j => .bl (decide (j < i))) gGt := op_gCmp
theorem o_ge : Op2N K (rI0 fun i j => .bl (decide (j ≤ i))) gGe := op_gCmp
/-- is None -/
def isNon : D → Bool
  | .non => true
  | _ => false
def gIs (neg : Bool) : D → D → Option D
  | x, .non => some (.bl (if neg then !isNon x else isNon x))
  | _, _ => none
theorem rep_isNon {kl : Bool} {C : Str → Addr} {H : Hp} {d : D} {v : V} {fp : Fp} (h : Rep K kl C H d v fp) : decide (v = .non) = isNon d := by
  cases d with
  | non => rw [(rep_non.mp h).1]; rfl
  | bl b => rw [(rep_bl.mp h).1]; rfl
  | int b => rw [(rep_int.mp h).1]; rfl
  | str b => rw [(rep_str.mp h).1]; rfl
  | tup l => obtain ⟨a, vs, rfl, _⟩ := rep_tup.mp h; rfl
  | lst l => obtain ⟨a, vs, fs, rfl, _⟩ := rep_lst.mp h; rfl
  | dic t ks l => unfold Rep at h; obtain ⟨a, vs, fs, rfl, _⟩ := h; rfl
  | obj c ns l => unfold Rep at h; obtain ⟨a, dx, vs, fs, rfl, _⟩ := h; rfl
theorem o_is : Op2N K (fun x y H Q => y = .non ∧ Q (.bl (decide (x = .non))) H) (gIs false) := by
  intro CC H x y d u v fu fv Q hx hy hg k
  unfold gIs at hg
  split at hg
  · cases hg
    refine ⟨(rep_non.mp hy).1, ?_⟩
    rw [rep_isNon hx]
    exact k _ H [] (Evl.Ex.refl H) fin_bl New.nil
  · cases hg
theorem o_isnot : Op2N K (fun x y H Q => y = .non ∧ Q (.bl (!decide (x = .non))) H) (gIs true) := by
  intro CC H x y d u v fu fv Q hx hy hg k
  unfold gIs at hg
  split at hg
  · cases hg
    refine ⟨(rep_non.mp hy).1, ?_⟩
    rw [rep_isNon hx]
    exact k _ H [] (Evl.Ex.refl H) fin_bl New.nil
  · cases hg
/-! ### == at any depth -/
mutual
def toPy : D → PyData
  | .non => .none
  | .bl b => .bool b
  | .int i => .int i
  | .str s => .str s
  | .tup l => .tuple (toPys l)
  | .lst l => .list (toPys l)
  | .dic _ _ _ => .dict []
  | .obj _ _ _ => .dict []
def toPys : List D → List PyData
  | [] => []
  | d :: ds => toPy d :: toPys ds
end
mutual
theorem rep_dp {kl : Bool} {C : Str → Addr} {H : Hp} : ∀ {d : D} {v : V} {fp : Fp}, Rep K kl C H d v fp → (toPy d).canLay0 = true → Dp K H v (toPy d)
  | .non, _, _, h, _ => by rw [(rep_non.mp h).1]; unfold toPy; exact .non
  | .bl _, _, _, h, _ => by rw [(rep_bl.mp h).1]; unfold toPy; exact .bl _
  | .int _, _, _, h, _ => by rw [(rep_int.mp h).1]; unfold toPy; exact .int _
  | .str _, _, _, h, _ => by rw [(rep_str.mp h).1]; unfold toPy; exact .str _
  | .tup l, v, fp, h, c => by
    obtain ⟨a, vs, rfl, ht, hr⟩ := rep_tup.mp h
    unfold toPy at c ⊢
    exact .tup (.inl (.inl ht)) (reps_dp hr (by simpa [PyData.canLay0] using c))
  | .lst l, v, fp, h, c => by
    obtain ⟨a, vs, fs, rfl, hl, hr, _⟩ := rep_sql h
    unfold toPy at c ⊢
    exact .lst hl (reps_dp hr (by simpa [PyData.canLay0] using c))
  | .dic _ _ _, v, fp, h, c => by unfold toPy at c; cases c
  | .obj _ _ _, v, fp, h, c => by unfold toPy at c; cases c
theorem reps_dp {kl : Bool} {C : Str → Addr} {H : Hp} : ∀ {ds : List D} {vs : List V} {fp : Fp}, Reps K kl C H ds vs fp → PyData.canLayAll0 (toPys ds) = true → DpAll K H vs (toPys ds)
  | [], vs, fp, h, _ => by
    unfold Reps at h
    obtain ⟨rfl, rfl⟩ := h
    unfold toPys
    exact .nil
  | d :: ds, vs, fp, h, c => by
    unfold Reps at h
    obtain ⟨v, vs', f1, f2, rfl, rfl, h1, h2⟩ := h
    unfold toPys at c ⊢
    have c' : (toPy d).canLay0 = true ∧ PyData.canLayAll0 (toPys ds) = true := by simpa [PyData.canLayAll0] using c
    exact .cons (rep_dp h1 c'.1) (reps_dp h2 c'.2)
end
def eqOk (x y : D) : Bool := (toPy x).canLay0 && ((toPy y).canLay0 && (decide ((toPy x).depth ≤ 60) || decide ((toPy y).depth ≤ 60)))
def eqD (x y : D) : Bool := PyData.eqv (toPy x) (toPy y)
def gEq (neg : Bool) (x y : D) : Option D := if eqOk x y = true then some (.bl (if neg then !eqD x y else eqD x y)) else none
def rEqM (K : PySem.W.Frag) (neg : Bool) : R2 := fun x y H Q => ∃ d e, Dp K H x d ∧ Dp K H y e ∧ d.canLay0 = true ∧ e.canLay0 = true ∧ min d.depth e.depth ≤ 60 ∧ Q (.bl (if neg then !PyData.eqv d e else PyData.eqv d e)) H
theorem o_eq {neg : Bool} : Op2N K (rEqM K neg) (gEq neg) := by
  intro CC H x y d u v fu fv Q hx hy hg k
  unfold gEq at hg
  split at hg
  · cases hg
    rename_i h
    unfold eqOk at h
    have h1 := Bool.and_eq_true_iff.mp h
    have h2 := Bool.and_eq_true_iff.mp h1.2
    have h3 := Bool.or_eq_true_iff.mp h2.2
    refine ⟨_, _, rep_dp hx h1.1, rep_dp hy h2.1, h1.1, h2.1, ?_, k _ H [] (Evl.Ex.refl H) fin_bl New.nil⟩
    rcases h3 with q | q
    · exact Nat.le_trans (Nat.min_le_left _ _) (of_decide_eq_true q)
    · exact Nat.le_trans (Nat.min_le_right _ _) (of_decide_eq_true q)
  · cases hg
end
section
variable {X : Cx}
theorem op_eqM (hu : X.A.units + 64 < cLine) : OpR X (compareOp .Eq) (rEqM X.K false) := by
  intro pins s σ H x y v u Q I rx ry h
  obtain ⟨d, e, hd, he, sd, se, sm, q⟩ := h
  obtain ⟨as, r1⟩ := Dp.reads I d x v hd rx
  obtain ⟨bs, r2⟩ := Dp.reads I e y u he ry
  exact SeqAt.compareEq_reads r1 r2 sd se (by omega) ⟨.bl _, H, I, rfl, q⟩
theorem op_neM (hu : X.A.units + 64 < cLine) : OpR X (compareOp .NotEq) (rEqM X.K true) := by
  intro pins s σ H x y v u Q I rx ry h
  obtain ⟨d, e, hd, he, sd, se, sm, q⟩ := h
  obtain ⟨as, r1⟩ := Dp.reads I d x v hd rx
  obtain ⟨bs, r2⟩ := Dp.reads I e y u he ry
  exact SeqAt.compareNe_reads r1 r2 sd se (by omega) ⟨.bl _, H, I, rfl, q⟩
end
end DL


set_option Elab.async false
set_option linter.all false
set_option maxRecDepth 100000
/-! The data layer, part 6: calls: a part of the state handed in, and back. -/
namespace DL
open PySem PySem.Spec PyProof.Rows L2

/-- the slots of what is handed in -/
def argEnv (ms : List Md) (ds : List D) : Env := List.zipWith (fun m d => some ⟨m, d⟩) ms ds
theorem argEnv_len {ms : List Md} {ds : List D} (h : ms.length = ds.length) : (argEnv ms ds).length = ds.length := by
  unfold argEnv
  rw [List.length_zipWith, h, Nat.min_self]
theorem argEnv_get {ms : List Md} {ds : List D} {k : Nat} {s : Slot} (h : (argEnv ms ds)[k]? = some (some s)) : ∃ m d, ms[k]? = some m ∧ ds[k]? = some d ∧ s = ⟨m, d⟩ := by
  unfold argEnv at h
  rw [List.getElem?_zipWith] at h
  cases e1 : ms[k]? with
  | none => rw [e1] at h; simp at h
  | some m =>
    cases e2 : ds[k]? with
    | none => rw [e1, e2] at h; simp at h
    | some d => rw [e1, e2] at h; simp at h; exact ⟨m, d, rfl, rfl, h.symm⟩

/-- how the arguments lie in the state: argument k is the slot ix k -/
structure Subs (τσ : L2.St) (E : Env) (ix : List Nat) (ms : List Md) (ds : List D) (vs : List V) : Prop where
  l1 : ix.length = ds.length
  l2 : ms.length = ds.length
  l3 : vs.length = ds.length
  at_ : ∀ (k i : Nat) (m : Md) (d : D) (v : V), ix[k]? = some i → ms[k]? = some m → ds[k]? = some d → vs[k]? = some v → ∃ s : Slot, E[i]? = some (some s) ∧ s.d = d ∧ τσ[i]? = some (some v) ∧ ((m = .chg ∧ s.m.ex = true) ∨ m = .shr)
  inj : ∀ k j i : Nat, k ≠ j → ix[k]? = some i → ix[j]? = some i → ms[k]? ≠ some Md.chg

/-- what a callee may change: for each argument its objects -/
def fpsOf (φ : Nat → Fp) (ms : List Md) (ix : List Nat) : Nat → Fp := fun k => if ms[k]? = some Md.chg then φ (ix.getD k 0) else []
theorem mem_fpsOf {φ : Nat → Fp} {a : Addr} {ms : List Md} {ix : List Nat} {k : Nat} (hl : ms.length = ix.length) : a ∈ fpsOf φ ms ix k ↔ ∃ i : Nat, ms[k]? = some Md.chg ∧ ix[k]? = some i ∧ a ∈ φ i := by
  unfold fpsOf
  by_cases h : ms[k]? = some Md.chg
  · rw [if_pos h]
    obtain ⟨hk, _⟩ := List.getElem?_eq_some_iff.mp h
    have e : ix[k]? = some ix[k] := List.getElem?_eq_getElem (by omega)
    have e2 : ix.getD k 0 = ix[k] := by rw [List.getD_eq_getElem?_getD, e]; rfl
    rw [e2]
    exact ⟨fun q => ⟨_, h, e, q⟩, fun ⟨i, _, q, r⟩ => by rw [e] at q; cases q; exact r⟩
  · rw [if_neg h]
    exact ⟨(fun q => absurd q (by simp)), fun ⟨i, q, _⟩ => absurd q h⟩

/-- the base of a callee -/
def subB (K : PySem.W.Frag) (H : Hp) (Mm : Nat → Fp) (vs : List V) : Bs := ⟨K, H, [], Mm, fun k => vs.getD k .non⟩

section
variable {B : Bs} {τσ : L2.St} {H H' : Hp} {E : Env} {φ ψ : Nat → Fp} {ix : List Nat} {ms : List Md} {ds : List D} {vs : List V}
theorem St.sub (S : St B τσ H E φ) (h : Subs τσ E ix ms ds vs) : St (subB B.K H (fpsOf φ ms ix) vs) (vs.map some) H (argEnv ms ds) (fun k => φ (ix.getD k 0)) := by
  have get : ∀ (k : Nat) (s : Slot), (argEnv ms ds)[k]? = some (some s) → ∃ (i : Nat) (m : Md) (d : D) (v : V) (t : Slot), ix[k]? = some i ∧ ms[k]? = some m ∧ ds[k]? = some d ∧ vs[k]? = some v ∧ s = ⟨m, d⟩ ∧ E[i]? = some (some t) ∧ t.d = d ∧ τσ[i]? = some (some v) ∧ ((m = .chg ∧ t.m.ex = true) ∨ m = .shr) := fun k s q => by
    obtain ⟨m, d, q1, q2, e⟩ := argEnv_get q
    obtain ⟨hk, _⟩ := List.getElem?_eq_some_iff.mp q2
    have hi : k < ix.length := by rw [h.l1]; exact hk
    have hv : k < vs.length := by rw [h.l3]; exact hk
    obtain ⟨t, r⟩ := h.at_ k _ _ _ _ (List.getElem?_eq_getElem hi) q1 q2 (List.getElem?_eq_getElem hv)
    exact ⟨_, m, d, _, t, List.getElem?_eq_getElem hi, q1, q2, List.getElem?_eq_getElem hv, e, r⟩
  have dix : ∀ {k i}, ix[k]? = some i → ix.getD k 0 = i := fun q => by rw [List.getD_eq_getElem?_getD, q]; rfl
  refine ⟨by rw [argEnv_len h.l2, List.length_map, h.l3], fun k s q => ?_, fun k j s t n q1 q2 hx => ?_, fun a o q _ _ => q, fun a q => q⟩
  · obtain ⟨i, m, d, v, t, ei, em, ed, ev, rfl, eE, etd, eσ, hm⟩ := get k s q
    obtain ⟨w, eσ', ok⟩ := S.ok i t eE
    rw [eσ] at eσ'
    cases eσ'
    refine ⟨v, by rw [List.getElem?_map, ev]; rfl, ?_⟩
    show SlotOk _ _ _ _ _ (φ (ix.getD k 0))
    rw [dix ei]
    rcases hm with ⟨rfl, hx⟩ | rfl
    · obtain ⟨r, nd, mu⟩ := ok.mk_ex hx
      rw [etd] at r
      exact ⟨r, nd, fun a ha => ⟨(mu a ha).1, (.inl ((mem_fpsOf (h.l2.trans h.l1.symm)).mpr ⟨i, em, ei, ha⟩))⟩, by show v = vs.getD k .non; rw [List.getD_eq_getElem?_getD, ev]; rfl⟩
    · have r := ok.rep
      rw [etd] at r
      exact r
  · obtain ⟨i, m, d, v, t', ei, em, ed, ev, rfl, eE, etd, eσ, hm⟩ := get k s q1
    obtain ⟨i2, m2, d2, v2, t2, ei2, em2, ed2, ev2, rfl, eE2, etd2, eσ2, hm2⟩ := get j t q2
    show ∀ a ∈ φ (ix.getD k 0), a ∉ φ (ix.getD j 0)
    rw [dix ei, dix ei2]
    have hmc : m = .chg := by
      rcases hm with ⟨rfl, _⟩ | rfl
      · rfl
      · cases hx
    subst hmc
    have ne : i ≠ i2 := by
      rintro rfl
      exact h.inj k j i n ei ei2 em
    have hx' : t'.m.ex = true := by
      rcases hm with ⟨_, q⟩ | q
      · exact q
      · cases q
    exact S.excl i i2 t' t2 ne eE eE2 hx'

def upS (E : Env) (i : Nat) (s : Slot) : Env := match E[i]? with
  | some (some t) => E.set i (some ⟨t.m, s.d⟩)
  | _ => E
/-- what comes back: the slots of what was handed in to be changed -/
def putBack : List Md → List Nat → Env → Env → Env
  | .chg :: ms, i :: ix, some s :: pe, E => putBack ms ix pe (upS E i s)
  | _ :: ms, _ :: ix, _ :: pe, E => putBack ms ix pe E
  | _, _, _, E => E
theorem putBack_len : ∀ {ms : List Md} {ix : List Nat} {pe E : Env}, (putBack ms ix pe E).length = E.length
  | [], _, _, _ => rfl
  | .own :: ms, [], _, _ => rfl
  | .shr :: ms, [], _, _ => rfl
  | .pin :: ms, [], _, _ => rfl
  | .chg :: ms, [], _, _ => rfl
  | .own :: ms, _ :: _, [], _ => rfl
  | .shr :: ms, _ :: _, [], _ => rfl
  | .pin :: ms, _ :: _, [], _ => rfl
  | .chg :: ms, _ :: _, [], _ => rfl
  | .own :: ms, _ :: ix, _ :: pe, E => putBack_len (ms := ms)
  | .shr :: ms, _ :: ix, _ :: pe, E => putBack_len (ms := ms)
  | .pin :: ms, _ :: ix, _ :: pe, E => putBack_len (ms := ms)
  | .chg :: ms, _ :: ix, none :: pe, E => putBack_len (ms := ms)
  | .chg :: ms, i :: ix, some s :: pe, E => by
    unfold putBack
    rw [putBack_len (ms := ms)]
    unfold upS
    split
    · rw [List.length_set]
    · rfl
/-- at a slot that nothing comes back to -/
theorem putBack_other {j : Nat} : ∀ {ms : List Md} {ix : List Nat} {pe E : Env}, (∀ k : Nat, ms[k]? = some Md.chg → ix[k]? ≠ some j) → (putBack ms ix pe E)[j]? = E[j]?
  | [], _, _, _, _ => rfl
  | .own :: ms, [], _, _, _ => rfl
  | .shr :: ms, [], _, _, _ => rfl
  | .pin :: ms, [], _, _, _ => rfl
  | .chg :: ms, [], _, _, _ => rfl
  | .own :: ms, _ :: _, [], _, _ => rfl
  | .shr :: ms, _ :: _, [], _, _ => rfl
  | .pin :: ms, _ :: _, [], _, _ => rfl
  | .chg :: ms, _ :: _, [], _, _ => rfl
  | .own :: ms, _ :: ix, _ :: pe, E, h => putBack_other (ms := ms) fun k q => by have := h (k + 1); simpa using this (by simpa using q)
  | .shr :: ms, _ :: ix, _ :: pe, E, h => putBack_other (ms := ms) fun k q => by have := h (k + 1); simpa using this (by simpa using q)
  | .pin :: ms, _ :: ix, _ :: pe, E, h => putBack_other (ms := ms) fun k q => by have := h (k + 1); simpa using this (by simpa using q)
  | .chg :: ms, _ :: ix, none :: pe, E, h => putBack_other (ms := ms) fun k q => by have := h (k + 1); simpa using this (by simpa using q)
  | .chg :: ms, i :: ix, some s :: pe, E, h => by
    unfold putBack
    rw [putBack_other (ms := ms) fun k q => by have := h (k + 1); simpa using this (by simpa using q)]
    have hi : i ≠ j := by have := h 0 rfl; simpa using this
    unfold upS
    split
    · rw [List.getElem?_set_ne hi]
    · rfl
/-- at a slot of a changed one -/
theorem putBack_at {j : Nat} {s t : Slot} : ∀ {ms : List Md} {ix : List Nat} {pe E : Env} {k : Nat}, (∀ a b i : Nat, a ≠ b → ix[a]? = some i → ix[b]? = some i → ms[a]? ≠ some Md.chg) → ms[k]? = some Md.chg → ix[k]? = some j → pe[k]? = some (some s) → E[j]? = some (some t) →
    (putBack ms ix pe E)[j]? = some (some ⟨t.m, s.d⟩)
  | [], _, _, _, _, _, h, _, _, _ => by simp at h
  | _ :: _, [], _, _, _, _, _, h, _, _ => by simp at h
  | _ :: _, _ :: _, [], _, _, _, _, _, h, _ => by simp at h
  | m :: ms, i :: ix, p :: pe, E, 0, inj, h1, h2, h3, h4 => by
    simp at h1 h2 h3
    subst h1; subst h2; subst h3
    unfold putBack upS
    rw [h4]
    rw [putBack_other (j := i) fun a q e => inj (a + 1) 0 i (by omega) (by simpa using e) rfl (by simpa using q)]
    obtain ⟨hi, _⟩ := List.getElem?_eq_some_iff.mp h4
    rw [List.getElem?_set_self hi]
  | m :: ms, i :: ix, p :: pe, E, k + 1, inj, h1, h2, h3, h4 => by
    have inj' : ∀ a b i : Nat, a ≠ b → ix[a]? = some i → ix[b]? = some i → ms[a]? ≠ some Md.chg := fun a b c n q1 q2 q3 => inj (a + 1) (b + 1) c (by omega) (by simpa using q1) (by simpa using q2) (by simpa using q3)
    have h1' : ms[k]? = some Md.chg := by simpa using h1
    have h2' : ix[k]? = some j := by simpa using h2
    have h3' : pe[k]? = some (some s) := by simpa using h3
    have ne : i ≠ j := by
      rintro rfl
      exact inj (k + 1) 0 i (by omega) h2 rfl h1
    cases m with
    | own => exact putBack_at (ms := ms) (ix := ix) (pe := pe) (k := k) inj' h1' h2' h3' h4
    | shr => exact putBack_at (ms := ms) (ix := ix) (pe := pe) (k := k) inj' h1' h2' h3' h4
    | pin => exact putBack_at (ms := ms) (ix := ix) (pe := pe) (k := k) inj' h1' h2' h3' h4
    | chg =>
      cases p with
      | none => exact putBack_at (ms := ms) (ix := ix) (pe := pe) (k := k) inj' h1' h2' h3' h4
      | some q =>
        unfold putBack
        refine putBack_at (ms := ms) (ix := ix) (pe := pe) (k := k) inj' h1' h2' h3' ?_
        unfold upS
        split
        · rw [List.getElem?_set_ne ne]; exact h4
        · exact h4

/-- the slots of what was handed in, as they come out: those that were to be changed -/
def isChg : Option Slot → Bool
  | some ⟨.chg, _⟩ => true
  | _ => false
def outEnv (ms : List Md) (pe : Env) : Bool := pe.length == ms.length && (List.zipWith (fun m p => if m = Md.chg then isChg p else p.isNone) ms pe).all id
theorem outEnv_len {pe : Env} (h : outEnv ms pe = true) : pe.length = ms.length := by
  unfold outEnv at h
  exact eq_of_beq (Bool.and_eq_true_iff.mp h).1
theorem outEnv_at {pe : Env} (h : outEnv ms pe = true) {k : Nat} {m : Md} (hm : ms[k]? = some m) : (m = .chg ∧ ∃ d, pe[k]? = some (some ⟨.chg, d⟩)) ∨ (m ≠ .chg ∧ pe[k]? = some none) := by
  have hl := outEnv_len h
  obtain ⟨hk, _⟩ := List.getElem?_eq_some_iff.mp hm
  unfold outEnv at h
  have h2 := (Bool.and_eq_true_iff.mp h).2
  have e : (List.zipWith (fun m p => if m = Md.chg then isChg p else p.isNone) ms pe)[k]? = some (if m = Md.chg then isChg pe[k] else (pe[k]).isNone) := by
    rw [List.getElem?_zipWith, hm, List.getElem?_eq_getElem (by omega)]
  have q := List.all_eq_true.mp h2 _ (List.mem_of_getElem? e)
  have ep : pe[k]? = some pe[k] := List.getElem?_eq_getElem (by omega)
  by_cases c : m = .chg
  · rw [if_pos c] at q
    cases r : pe[k] with
    | none => rw [r] at q; cases q
    | some s =>
      obtain ⟨mm, d⟩ := s
      cases mm with
      | chg => exact .inl ⟨c, d, by rw [ep, r]⟩
      | own => rw [r] at q; cases q
      | shr => rw [r] at q; cases q
      | pin => rw [r] at q; cases q
  · rw [if_neg c] at q
    refine .inr ⟨c, ?_⟩
    cases r : pe[k] with
    | none => rw [ep, r]
    | some s => rw [r] at q; cases q

theorem Subs.at' (h : Subs τσ E ix ms ds vs) {k i : Nat} (hi : ix[k]? = some i) : ∃ (m : Md) (d : D) (v : V) (s : Slot), ms[k]? = some m ∧ ds[k]? = some d ∧ vs[k]? = some v ∧ E[i]? = some (some s) ∧ s.d = d ∧ τσ[i]? = some (some v) ∧ ((m = .chg ∧ s.m.ex = true) ∨ m = .shr) := by
  obtain ⟨hk, _⟩ := List.getElem?_eq_some_iff.mp hi
  have k1 : k < ms.length := by rw [h.l2, ← h.l1]; exact hk
  have k2 : k < ds.length := by rw [← h.l1]; exact hk
  have k3 : k < vs.length := by rw [h.l3, ← h.l1]; exact hk
  have e1 : ms[k]? = some ms[k] := List.getElem?_eq_getElem k1
  have e2 : ds[k]? = some ds[k] := List.getElem?_eq_getElem k2
  have e3 : vs[k]? = some vs[k] := List.getElem?_eq_getElem k3
  obtain ⟨s, r⟩ := h.at_ k i _ _ _ hi e1 e2 e3
  exact ⟨_, _, _, s, e1, e2, e3, r⟩
/-- behind a callee: what is left of it (r: its value, or nothing) -/
theorem St.back {pe re : Env} {rv : L2.St} (S : St B τσ H E φ) (h : Subs τσ E ix ms ds vs) (S' : St (subB B.K H (fpsOf φ ms ix) vs) (vs.map some ++ rv) H' (pe ++ re) ψ) (ho : outEnv ms pe = true)
    (hre : ∀ (k : Nat) (s : Slot), re[k]? = some (some s) → s.m = .own) : ∃ φ', St B (τσ ++ rv) H' (putBack ms ix pe E ++ re) φ' := by
  have hpl : pe.length = vs.length := by rw [outEnv_len ho, h.l2, h.l3]
  have hml : ms.length = vs.length := by rw [h.l2, h.l3]
  have hil : ix.length = vs.length := by rw [h.l1, h.l3]
  have hrl : rv.length = re.length := by
    have := S'.len
    rw [List.length_append, List.length_append, List.length_map] at this
    omega
  have hmi : ms.length = ix.length := h.l2.trans h.l1.symm
  -- which slot an index of E comes from
  let src : Nat → Option Nat := fun j => (List.range ix.length).find? fun k => decide (ms[k]? = some Md.chg) && decide (ix[k]? = some j)
  have src_some : ∀ {j k : Nat}, src j = some k → ms[k]? = some Md.chg ∧ ix[k]? = some j := fun {j k} q => by
    have := List.find?_some q
    have := Bool.and_eq_true_iff.mp this
    exact ⟨of_decide_eq_true this.1, of_decide_eq_true this.2⟩
  have src_none : ∀ {j : Nat}, src j = none → ∀ k : Nat, ms[k]? = some Md.chg → ix[k]? ≠ some j := fun {j} q k q1 q2 => by
    have := List.find?_eq_none.mp q k (List.mem_range.mpr (List.getElem?_eq_some_iff.mp q2).1)
    rw [decide_eq_true q1, decide_eq_true q2] at this
    exact this rfl
  let φ' : Nat → Fp := fun j => if j < E.length then (match src j with
    | some k => ψ k
    | none => φ j) else ψ (pe.length + (j - E.length))
  have φ_chg : ∀ {j k : Nat}, j < E.length → src j = some k → φ' j = ψ k := fun {j k} hj q => by
    show (if j < E.length then _ else _) = _
    rw [if_pos hj, q]
  have φ_keep : ∀ {j : Nat}, j < E.length → src j = none → φ' j = φ j := fun {j} hj q => by
    show (if j < E.length then _ else _) = _
    rw [if_pos hj, q]
  have φ_new : ∀ {j : Nat}, φ' (E.length + j) = ψ (pe.length + j) := fun {j} => by
    show (if E.length + j < E.length then _ else _) = _
    rw [if_neg (by omega), show E.length + j - E.length = j by omega]
  have hσE := S.len
  -- what stands where
  have cases_ : ∀ (j : Nat) (s : Slot), (putBack ms ix pe E ++ re)[j]? = some (some s) →
      (j < E.length ∧ src j = none ∧ E[j]? = some (some s)) ∨
      (∃ (k : Nat) (t : Slot) (d : D) (v : V), j < E.length ∧ src j = some k ∧ ms[k]? = some Md.chg ∧ ix[k]? = some j ∧ E[j]? = some (some t) ∧ t.m.ex = true ∧ pe[k]? = some (some ⟨.chg, d⟩) ∧ s = ⟨t.m, d⟩ ∧ τσ[j]? = some (some v) ∧ vs[k]? = some v) ∨
      (∃ c, j = E.length + c ∧ re[c]? = some (some s)) := fun j s q => by
    by_cases hj : j < E.length
    · rw [List.getElem?_append_left (by rw [putBack_len]; exact hj)] at q
      cases e : src j with
      | none =>
        rw [putBack_other (src_none e)] at q
        exact .inl ⟨hj, rfl, q⟩
      | some k =>
        obtain ⟨q1, q2⟩ := src_some e
        obtain ⟨m, d, v, t, em, ed, ev, eE, etd, eσ, hm⟩ := h.at' q2
        rw [q1] at em
        cases em
        have hx : t.m.ex = true := by
          rcases hm with ⟨_, z⟩ | z
          · exact z
          · cases z
        rcases outEnv_at ho q1 with ⟨_, d', ep⟩ | ⟨z, _⟩
        · rw [putBack_at h.inj q1 q2 ep eE] at q
          cases q
          exact .inr (.inl ⟨k, t, d', v, hj, rfl, q1, q2, eE, hx, ep, rfl, eσ, ev⟩)
        · exact absurd rfl z
    · rw [List.getElem?_append_right (by rw [putBack_len]; omega), putBack_len] at q
      exact .inr (.inr ⟨j - E.length, by omega, q⟩)
  -- the callee's slots
  have inS' : ∀ {k : Nat} {s : Slot}, pe[k]? = some (some s) → (pe ++ re)[k]? = some (some s) := fun {k s} q => by
    obtain ⟨hk, _⟩ := List.getElem?_eq_some_iff.mp q
    rw [List.getElem?_append_left hk]; exact q
  have inR : ∀ {c : Nat} {s : Slot}, re[c]? = some (some s) → (pe ++ re)[pe.length + c]? = some (some s) := fun {c s} q => by
    rw [List.getElem?_append_right (by omega), show pe.length + c - pe.length = c by omega]; exact q
  -- a slot that stays does not meet what the callee may have changed
  have apart : ∀ {j : Nat} {s : Slot}, E[j]? = some (some s) → src j = none → ∀ a ∈ φ j, ∀ k, a ∉ fpsOf φ ms ix k := fun {j s} q e a ha k hm => by
    obtain ⟨i, h1, h2, h3⟩ := (mem_fpsOf hmi).mp hm
    obtain ⟨m, d, v, t, em, ed, ev, eE, etd, eσ, hmm⟩ := h.at' h2
    rw [h1] at em
    cases em
    have hx : t.m.ex = true := by
      rcases hmm with ⟨_, z⟩ | z
      · exact z
      · cases z
    have ne : i ≠ j := by
      rintro rfl
      exact src_none e k h1 h2
    exact S.excl i j t s ne eE q hx a h3 ha
  have stay : ∀ {j : Nat} {s : Slot}, E[j]? = some (some s) → src j = none → ∀ a ∈ φ j, ∀ o, H a = some o → H' a = some o := fun {j s} q e a ha o ho' => S'.frame a o ho' (by simp [subB]) (apart q e a ha)
  have tups : ∀ (a : Addr) (xs : List V), H a = some (.tup xs) → H' a = some (.tup xs) := fun a xs q => by
    have nM : ∀ k, a ∉ fpsOf φ ms ix k := fun k hm => by
      obtain ⟨i, h1, h2, h3⟩ := (mem_fpsOf hmi).mp hm
      obtain ⟨m, d, v, t, em, ed, ev, eE, etd, eσ, hmm⟩ := h.at' h2
      rw [h1] at em
      cases em
      have hx : t.m.ex = true := by
        rcases hmm with ⟨_, z⟩ | z
        · exact z
        · cases z
      obtain ⟨w, _, ok⟩ := S.ok i t eE
      have mu := (ok.mk_ex hx).2.2 a h3
      rw [q] at mu
      exact mu.1
    exact S'.frame a _ q (by simp [subB]) nM
  have h0 : ∀ {a : Addr}, H a = none → B.H0 a = none := fun {a} q => by
    cases r : B.H0 a with
    | none => rfl
    | some o => exact absurd q (S.there a (by rw [r]; simp))
  have oldO : ∀ {a : Addr}, OldO (subB B.K H (fpsOf φ ms ix) vs) a → H a = none := fun {a} q => by
    rcases q with q | q
    · simp [subB] at q
    · exact q
  -- a changed slot's objects were its own, or are new
  have oldM : ∀ {a : Addr} {k j : Nat}, ix[k]? = some j → OldM (subB B.K H (fpsOf φ ms ix) vs) k a → a ∈ φ j ∨ H a = none := fun {a k j} e q => by
    rcases q with q | q | q
    · obtain ⟨i, _, e2, r⟩ := (mem_fpsOf hmi).mp q
      rw [e] at e2
      cases e2
      exact .inl r
    · simp [subB] at q
    · exact .inr q
  -- the objects of the callee's slot k
  have chgS : ∀ {k : Nat} {d : D}, pe[k]? = some (some ⟨.chg, d⟩) → ∃ v, vs[k]? = some v ∧ Rep B.K false B.C H' d v (ψ k) ∧ (ψ k).Nodup ∧ ∀ a ∈ ψ k, Mut (H' a) ∧ OldM (subB B.K H (fpsOf φ ms ix) vs) k a := fun {k d} q => by
    obtain ⟨w, e, ok⟩ := S'.ok k _ (inS' q)
    obtain ⟨hk, _⟩ := List.getElem?_eq_some_iff.mp q
    rw [List.getElem?_append_left (by rw [List.length_map]; omega), List.getElem?_map] at e
    cases r : vs[k]? with
    | none => rw [r] at e; simp at e
    | some v =>
      rw [r] at e
      simp at e
      subst e
      have ok' : Rep B.K false B.C H' d v (ψ k) ∧ (ψ k).Nodup ∧ (∀ a ∈ ψ k, Mut (H' a) ∧ OldM (subB B.K H (fpsOf φ ms ix) vs) k a) ∧ v = (subB B.K H (fpsOf φ ms ix) vs).pins k := ok
      exact ⟨v, rfl, ok'.1, ok'.2.1, ok'.2.2.1⟩
  refine ⟨φ', by rw [List.length_append, List.length_append, putBack_len]; omega, fun j s q => ?_, fun j j2 s s2 n q q2 hx => ?_, fun a o q1 q2 q3 => ?_, fun a q => ?_⟩
  · rcases cases_ j s q with ⟨hj, e, q⟩ | ⟨k, t, d, v, hj, e, em, ei, eE, hx, ep, es, eσ, ev⟩ | ⟨c, rfl, g⟩
    · obtain ⟨w, eσ, ok⟩ := S.ok j s q
      refine ⟨w, by rw [List.getElem?_append_left (by omega)]; exact eσ, ?_⟩
      rw [φ_keep hj e]
      have st := stay q e
      have mu : ∀ a ∈ φ j, Mut (H a) → Mut (H' a) := fun a ha z => by
        cases r : H a with
        | none => rw [r] at z; exact z.elim
        | some o => rw [st a ha o r]; rw [r] at z; exact z
      unfold SlotOk at ok ⊢
      split at ok
      · exact ⟨rep_frame ok.1 st tups, ok.2.1, fun a ha => ⟨mu a ha (ok.2.2 a ha).1, (ok.2.2 a ha).2⟩⟩
      · exact ⟨rep_frame ok.1 st tups, ok.2.1, fun a ha => ⟨mu a ha (ok.2.2.1 a ha).1, (ok.2.2.1 a ha).2⟩, ok.2.2.2⟩
      · exact rep_frame ok st tups
      · exact ⟨rep_frame ok.1 st tups, ok.2⟩
    · refine ⟨v, by rw [List.getElem?_append_left (by omega)]; exact eσ, ?_⟩
      rw [φ_chg hj e]
      obtain ⟨w, ev', r, nd, mu⟩ := chgS ep
      rw [ev] at ev'
      cases ev'
      obtain ⟨w, eσ', ok⟩ := S.ok j t eE
      rw [eσ] at eσ'
      cases eσ'
      subst es
      unfold SlotOk at ok ⊢
      split at ok
      · rename_i em
        simp only [em]
        exact ⟨r, nd, fun a ha => ⟨(mu a ha).1, (oldM ei (mu a ha).2).elim (fun z => (ok.2.2 a z).2) fun z => .inr (h0 z)⟩⟩
      · rename_i em
        simp only [em]
        exact ⟨r, nd, fun a ha => ⟨(mu a ha).1, (oldM ei (mu a ha).2).elim (fun z => (ok.2.2.1 a z).2) fun z => .inr (.inr (h0 z))⟩, ok.2.2.2⟩
      · rename_i em; rw [em] at hx; cases hx
      · rename_i em; rw [em] at hx; cases hx
    · obtain ⟨w, eσ, ok⟩ := S'.ok _ s (inR g)
      rw [List.getElem?_append_right (by rw [List.length_map]; omega), List.length_map, show pe.length + c - vs.length = c by omega] at eσ
      refine ⟨w, by rw [List.getElem?_append_right (by omega), show E.length + c - τσ.length = c by omega]; exact eσ, ?_⟩
      rw [φ_new]
      have hm := hre c s g
      unfold SlotOk at ok ⊢
      rw [hm] at ok ⊢
      exact ⟨ok.1, ok.2.1, fun a ha => ⟨(ok.2.2 a ha).1, .inr (h0 (oldO (ok.2.2 a ha).2))⟩⟩
  · rcases cases_ j s q with ⟨hj, e, g⟩ | ⟨k, t, d, v, hj, e, em, ei, eE, hx1, ep, es, eσ, ev⟩ | ⟨c, hc, g⟩
    · rw [φ_keep hj e]
      rcases cases_ j2 s2 q2 with ⟨hj2, e2, g2⟩ | ⟨k2, t2, d2, v2, hj2, e2, em2, ei2, eE2, hx2, ep2, es2, eσ2, ev2⟩ | ⟨c2, hc2, g2⟩
      · rw [φ_keep hj2 e2]
        exact S.excl j j2 s s2 n g g2 hx
      · rw [φ_chg hj2 e2]
        intro a ha hb
        obtain ⟨w, _, r, nd, mu⟩ := chgS ep2
        rcases oldM ei2 (mu a hb).2 with z | z
        · exact S.excl j j2 s t2 n g eE2 hx a ha z
        · exact S.in g a ha z
      · subst hc2
        rw [φ_new]
        intro a ha hb
        obtain ⟨w, _, ok⟩ := S'.ok _ s2 (inR g2)
        have hm := hre c2 s2 g2
        unfold SlotOk at ok
        rw [hm] at ok
        exact S.in g a ha (oldO (ok.2.2 a hb).2)
    · rw [φ_chg hj e]
      obtain ⟨w, _, r, nd, mu⟩ := chgS ep
      rcases cases_ j2 s2 q2 with ⟨hj2, e2, g2⟩ | ⟨k2, t2, d2, v2, hj2, e2, em2, ei2, eE2, hx2, ep2, es2, eσ2, ev2⟩ | ⟨c2, hc2, g2⟩
      · rw [φ_keep hj2 e2]
        intro a ha hb
        rcases oldM ei (mu a ha).2 with z | z
        · exact S.excl j j2 t s2 n eE g2 hx1 a z hb
        · exact S.in g2 a hb z
      · rw [φ_chg hj2 e2]
        have nk : k ≠ k2 := by
          rintro rfl
          rw [ei] at ei2
          exact n (Option.some.inj ei2)
        exact S'.excl k k2 _ _ nk (inS' ep) (inS' ep2) rfl
      · subst hc2
        rw [φ_new]
        obtain ⟨hk, _⟩ := List.getElem?_eq_some_iff.mp ep
        exact S'.excl k (pe.length + c2) _ s2 (by omega) (inS' ep) (inR g2) rfl
    · subst hc
      rw [φ_new]
      have hm := hre c s g
      obtain ⟨w, _, ok⟩ := S'.ok _ s (inR g)
      unfold SlotOk at ok
      rw [hm] at ok
      rcases cases_ j2 s2 q2 with ⟨hj2, e2, g2⟩ | ⟨k2, t2, d2, v2, hj2, e2, em2, ei2, eE2, hx2, ep2, es2, eσ2, ev2⟩ | ⟨c2, hc2, g2⟩
      · rw [φ_keep hj2 e2]
        intro a ha hb
        exact S.in g2 a hb (oldO (ok.2.2 a ha).2)
      · rw [φ_chg hj2 e2]
        obtain ⟨hk, _⟩ := List.getElem?_eq_some_iff.mp ep2
        exact S'.excl (pe.length + c) k2 s _ (by omega) (inR g) (inS' ep2) (by rw [hm]; rfl)
      · subst hc2
        rw [φ_new]
        exact S'.excl (pe.length + c) (pe.length + c2) s s2 (by omega) (inR g) (inR g2) hx
  · have q4 : H a = some o := S.frame a o q1 q2 q3
    refine S'.frame a o q4 (by simp [subB]) fun k hk => ?_
    obtain ⟨i, h1, h2, h3⟩ := (mem_fpsOf hmi).mp hk
    obtain ⟨m, d, v, t, em, ed, ev, eE, etd, eσ, hmm⟩ := h.at' h2
    have hx : t.m.ex = true := by
      rw [h1] at em
      cases em
      rcases hmm with ⟨_, z⟩ | z
      · exact z
      · cases z
    obtain ⟨w, _, ok⟩ := S.ok i t eE
    rcases ((ok.mk_ex hx).2.2 a h3).2 with z | z | z
    · exact q3 i z
    · exact q2 z
    · rw [z] at q1; cases q1
  · exact S'.there a (S.there a q)
end
end DL


set_option Elab.async false
set_option linter.all false
set_option maxRecDepth 100000
/-! The data layer, part 7: expressions that change, statements. -/
namespace DL
open PySem PySem.Spec PyProof.Rows L2

inductive R (α : Type) where
  | ok (a : α) (env : Env) | exc (c : Str) (env : Env)
inductive O where
  | nx (env : Env) | bk (env : Env) | ct (env : Env) | rt (d : D) (env : Env) | exc (c : Str) (env : Env)
abbrev MF := Env → Option (R D)
abbrev SF := Env → Option O
/-- an expression that may change what stands, or raise; its value is laid behind as one's own -/
def PM (B : Bs) (W : WX) (f : MF) : TE := fun σ H Q => ∃ τ te env φ r, σ.length = env.length ∧ St B (σ ++ τ) H (env ++ te) φ ∧ f env = some r ∧ match r with
  | .ok d env' => ∀ v H' φ', St B (σ ++ τ ++ [some v]) H' (env' ++ te ++ [some ⟨.own, d⟩]) φ' → env'.length = env.length → Q v H'
  | .exc c env' => ∀ H' φ', St B (σ ++ τ) H' (env' ++ te) φ' → env'.length = env.length → W (.ref (B.C c)) none σ H'
structure DM (X : Cx) (W : WX) (e : Expr) (f : MF) : Prop where
  pe : ∀ B : Bs, B.K = X.K → PE X e (PM B W f)
/-- a pure expression that may raise; its value is new -/
def PX (B : Bs) (W : WX) (f : Env → Option (Except Str D)) : TE := fun σ H Q => ∃ env φ r, St B σ H env φ ∧ f env = some r ∧ match r with
  | .ok d => ∀ v H' fp, Ex H H' → Rep B.K false B.C H' d v fp → New H H' fp → Q v H'
  | .error c => ∀ H', Ex H H' → W (.ref (B.C c)) none σ H'
structure DX (X : Cx) (W : WX) (e : Expr) (f : Env → Option (Except Str D)) : Prop where
  pe : ∀ B : Bs, B.K = X.K → PE X e (PX B W f)
/-- a test that may change what stands -/
def PMB (B : Bs) (W : WX) (f : Env → Option (R Bool)) : TT := fun σ H Q => ∃ τ te env φ r, σ.length = env.length ∧ St B (σ ++ τ) H (env ++ te) φ ∧ f env = some r ∧ match r with
  | .ok b env' => ∀ H' φ', St B (σ ++ τ) H' (env' ++ te) φ' → env'.length = env.length → Q b H'
  | .exc c env' => ∀ H' φ', St B (σ ++ τ) H' (env' ++ te) φ' → env'.length = env.length → W (.ref (B.C c)) none σ H'
structure DMT (X : Cx) (W : WX) (e : Expr) (f : Env → Option (R Bool)) : Prop where
  pt : ∀ B : Bs, B.K = X.K → PT X e (PMB B W f)

def mX (f : Env → Option (Except Str D)) : MF := fun env => match f env with
  | some (.ok d) => some (.ok d env)
  | some (.error c) => some (.exc c env)
  | none => none
def xN (f : DF) : Env → Option (Except Str D) := fun env => match f env with
  | some d => some (.ok d)
  | none => none
def mN (f : DF) : MF := fun env => match f env with
  | some d => some (.ok d env)
  | none => none
def mT (f : Env → Option Bool) : Env → Option (R Bool) := fun env => match f env with
  | some d => some (.ok d env)
  | none => none

section
variable {X : Cx} {W : WX} {e a b c : Expr} {pos : Pos}
theorem DN.dx {f : DF} (h : DN X e f) : DX X W e (xN f) := ⟨fun B hB => (h.pe B hB).imp fun σ H Q ⟨env, φ, r, S, q, k⟩ => by
  unfold xN at q
  split at q
  · cases q; rename_i q; exact ⟨env, φ, _, S, q, k⟩
  · cases q⟩
theorem DX.dm {f : Env → Option (Except Str D)} (h : DX X W e f) : DM X W e (mX f) := ⟨fun B hB => (h.pe B hB).imp fun σ H Q ⟨τ, te, env, φ, r, hl, S, q, k⟩ => by
  unfold mX at q
  split at q
  · rename_i d e
    cases q
    refine ⟨env, φ, _, S.trunc hl, e, fun v H' fp ex r n => k v H' _ (S.pushNew ex r n.1 n.2) rfl⟩
  · rename_i d e
    cases q
    exact ⟨env, φ, _, S.trunc hl, e, fun H' ex => k H' _ (S.ex ex) rfl⟩
  · cases q⟩
theorem DN.dm {f : DF} (h : DN X e f) : DM X W e (mN f) := ⟨fun B hB => (h.pe B hB).imp fun σ H Q ⟨τ, te, env, φ, r, hl, S, q, k⟩ => by
  unfold mN at q
  split at q
  · rename_i d e
    cases q
    exact ⟨env, φ, _, S.trunc hl, e, fun v H' fp ex r n => k v H' _ (S.pushNew ex r n.1 n.2) rfl⟩
  · cases q⟩
theorem DT.dmt {f : Env → Option Bool} (h : DT X e f) : DMT X W e (mT f) := ⟨fun B hB => (h.pt B hB).imp fun σ H Q ⟨τ, te, env, φ, r, hl, S, q, k⟩ => by
  unfold mT at q
  split at q
  · rename_i d e
    cases q
    exact ⟨env, φ, _, S.trunc hl, e, fun H' ex => k H' _ (S.ex ex) rfl⟩
  · cases q⟩
/-- a value that is True or False, as a test -/
def mB (f : MF) : Env → Option (R Bool) := fun env => match f env with
  | some (.ok (.bl b) env') => some (.ok b env')
  | some (.exc c env') => some (.exc c env')
  | _ => none
theorem dmt_val {f : MF} (h : DM X W e f) (he : ∀ whole, isTrue e X.env whole = (do let v ← whole; standAt e.pos; holding [v] (truthy v)) := by intro _; rfl) : DMT X W e (mB f) :=
  ⟨fun B hB => (pt_val (h.pe B hB) he).imp fun σ H Q ⟨τ, te, env, φ, r, hl, S, q, k⟩ => by
    unfold mB at q
    split at q
    · rename_i b env' e
      cases q
      refine ⟨τ, te, env, φ, _, hl, S, e, fun v H' φ' S' hl' => ?_⟩
      obtain ⟨w, ew, ok⟩ := S'.ok (env' ++ te).length ⟨.own, .bl b⟩ (by simp)
      have hl2 : (σ ++ τ).length = (env' ++ te).length := by have := S'.len; simp at this; simp; omega
      rw [← hl2] at ew
      simp at ew
      subst ew
      exact ⟨b, (rep_bl.mp ok.rep).1, k H' _ S'.pop hl'⟩
    · rename_i c env' e
      cases q
      exact ⟨τ, te, env, φ, _, hl, S, e, k⟩
    · cases q⟩
/-- x, given away -/
def mMove (i : Nat) : MF := fun env => match env[i]? with
  | some (some ⟨.own, d⟩) => if imm d = true then some (.ok d env) else some (.ok d (env.set i none))
  | some (some ⟨_, d⟩) => if imm d = true then some (.ok d env) else none
  | _ => none
theorem St.take {B : Bs} {σ τ : L2.St} {H : Hp} {env te : Env} {φ : Nat → Fp} {i : Nat} {d : D} {v : V} (S : St B (σ ++ τ) H (env ++ te) φ) (hl : σ.length = env.length) (hi : env[i]? = some (some ⟨.own, d⟩)) (hv : σ[i]? = some (some v)) :
    St B (σ ++ τ ++ [some v]) H (env.set i none ++ te ++ [some ⟨.own, d⟩]) (fset φ (env ++ te).length (φ i)) := by
  obtain ⟨hil, _⟩ := List.getElem?_eq_some_iff.mp hi
  have hi' : (env ++ te)[i]? = some (some ⟨.own, d⟩) := by rw [List.getElem?_append_left hil]; exact hi
  obtain ⟨w, ew, ok⟩ := S.ok i _ hi'
  rw [List.getElem?_append_left (by omega), hv] at ew
  cases ew
  have ok' : Rep B.K false B.C H d v (φ i) ∧ (φ i).Nodup ∧ ∀ a ∈ φ i, Mut (H a) ∧ OldO B a := ok
  have S1 := S.clear (i := i)
  rw [List.set_append_left _ _ hil] at S1
  have hl1 : (env.set i none ++ te).length = (env ++ te).length := by simp
  rw [← hl1]
  refine S1.push ok'.1 ok'.2.1 ok'.2.2 fun j s q a ha => ?_
  have ne : i ≠ j := by
    rintro rfl
    rw [List.getElem?_append_left (by simpa using hil), List.getElem?_set_self hil] at q
    cases q
  have q' : (env ++ te)[j]? = some (some s) := by
    rw [← List.set_append_left _ _ hil, List.getElem?_set_ne ne] at q
    exact q
  exact S.excl i j _ s ne hi' q' rfl a ha
theorem dm_move {x : Str} (i : Nat) (hN : X.N[i]? = some x) (hv : Vis X.env.scope x) (hd : (x == ("__debug__" : Str)) = false := by decide) (hcd : (x == ("__classdict__" : Str)) = false := by decide) : DM X W (.Name x pos) (mMove i) :=
  ⟨fun B hB => (pe_var hN hv hd hcd).imp fun σ H Q ⟨τ, te, env, φ, r, hl, S, q, k⟩ => by
    have imm_case : ∀ (m : Md) (d : D), env[i]? = some (some ⟨m, d⟩) → imm d = true → (∀ v H' φ', St B (σ ++ τ ++ [some v]) H' (env ++ te ++ [some ⟨.own, d⟩]) φ' → env.length = env.length → Q v H') → tVar i σ H Q := fun m d e hi k => by
      obtain ⟨hil, _⟩ := List.getElem?_eq_some_iff.mp e
      obtain ⟨v, ev, rr⟩ := (S.trunc hl).get e
      have z := rep_imm rr hi
      have rr' := rep_immK rr hi
      rw [z] at rr'
      exact ⟨v, ev, k v H _ (S.pushImm rr') rfl⟩
    unfold mMove at q
    split at q
    · rename_i d e
      split at q
      · cases q; exact imm_case _ _ e (by assumption) k
      · cases q
        obtain ⟨v, ev, _⟩ := (S.trunc hl).get e
        exact ⟨v, ev, k v H _ (S.take hl e ev) (by simp)⟩
    · rename_i m d _ e
      split at q
      · cases q; exact imm_case _ _ e (by assumption) k
      · cases q
    · cases q⟩
end

/-! ### statements -/
def Post (B : Bs) (W : WX) (D : Ends) : O → Prop
  | .nx e => ∀ σ' H' φ', St B σ' H' e φ' → D.nx σ' H'
  | .bk e => ∀ σ' H' φ', St B σ' H' e φ' → D.bk σ' H'
  | .ct e => ∀ σ' H' φ', St B σ' H' e φ' → D.ct σ' H'
  | .rt d e => ∀ v σ' H' φ', St B (σ' ++ [some v]) H' (e ++ [some ⟨.own, d⟩]) φ' → D.rt v H'
  | .exc c e => ∀ σ' H' φ', St B σ' H' e φ' → W (.ref (B.C c)) none σ' H'
def PSD (B : Bs) (W : WX) (g : SF) : TS := fun D σ H => ∃ env φ o, St B σ H env φ ∧ g env = some o ∧ Post B W D o
structure DS (X : Cx) (W : WX) (st : Stmt) (g : SF) : Prop where
  ps : ∀ B : Bs, B.K = X.K → PS X st (PSD B W g)
structure DSs (X : Cx) (W : WX) (st : List Stmt) (g : SF) : Prop where
  ps : ∀ B : Bs, B.K = X.K → PSs X st (PSD B W g)
def sNx : SF := fun env => some (.nx env)
def sBk : SF := fun env => some (.bk env)
def sCt : SF := fun env => some (.ct env)
def sSeq (g h : SF) : SF := fun env => match g env with
  | some (.nx env') => h env'
  | o => o
section
variable {X : Cx} {W : WX} {e : Expr} {st : Stmt} {rest : List Stmt} {g h : SF} {pos : Pos}
theorem dss_nil : DSs X W [] sNx := ⟨fun B hB => pss_nil.imp fun D σ H ⟨env, φ, o, S, q, k⟩ => by cases q; exact k σ H φ S⟩
theorem dss_cons (h1 : DS X W st g) (h2 : DSs X W rest h) : DSs X W (st :: rest) (sSeq g h) := ⟨fun B hB => (pss_cons (h1.ps B hB) (h2.ps B hB)).imp fun D σ H ⟨env, φ, o, S, q, k⟩ => by
  unfold sSeq at q
  split at q
  · rename_i env' e
    exact ⟨env, φ, _, S, e, fun σ' H' φ' S' => ⟨env', φ', o, S', q, k⟩⟩
  · refine ⟨env, φ, o, S, q, ?_⟩
    cases o with
    | nx e => rename_i z; exact absurd q (z e)
    | bk e => exact k
    | ct e => exact k
    | rt d e => exact k
    | exc c e => exact k⟩
theorem dss_one (h1 : DS X W st g) : DSs X W [st] g := ⟨fun B hB => pss_one (h1.ps B hB)⟩
theorem ds_pass : DS X W (.Pass pos) sNx := ⟨fun B hB => ps_pass.imp fun D σ H ⟨env, φ, o, S, q, k⟩ => by cases q; exact k σ H φ S⟩
theorem ds_break : DS X W (.Break pos) sBk := ⟨fun B hB => ps_break.imp fun D σ H ⟨env, φ, o, S, q, k⟩ => by cases q; exact k σ H φ S⟩
theorem ds_continue : DS X W (.Continue pos) sCt := ⟨fun B hB => ps_continue.imp fun D σ H ⟨env, φ, o, S, q, k⟩ => by cases q; exact k σ H φ S⟩
/-- name = value -/
def canSet (env : Env) (i : Nat) : Bool := decide (i < env.length) && match env[i]? with
  | some (some ⟨.pin, _⟩) => false
  | _ => true
def sSet (i : Nat) (f : MF) : SF := fun env => match f env with
  | some (.ok d env') => if canSet env' i = true then some (.nx (env'.set i (some ⟨.own, d⟩))) else none
  | some (.exc c env') => some (.exc c env')
  | none => none
theorem canSet_lt {env : Env} {i : Nat} (h : canSet env i = true) : i < env.length := by
  unfold canSet at h
  exact of_decide_eq_true (Bool.and_eq_true_iff.mp h).1
theorem ds_set {x : Str} {i : Nat} {pos' : Pos} {f : MF} (hN : X.N.Nodup) (hi : X.N[i]? = some x) (hx : Loc X.env.scope x) (he : DM X W e f) (hs : swapsWith e (some (.Name x pos')) pos.line X.env = pure false := by rfl) (hf : X.fn x = true ∨ X.env.scope.names.lookup x = some .local := by first | exact .inl rfl | exact .inr rfl | assumption) :
    DS X W (.Assign [.Name x pos'] e pos) (sSet i f) := ⟨fun B hB => (ps_set hN hi hx (he.pe B hB) hs hf).imp fun D σ H ⟨env, φ, o, S, q, k⟩ => by
  unfold sSet at q
  split at q
  · rename_i d env' e
    split at q
    · rename_i hc
      cases q
      refine ⟨[], [], env, φ, _, S.len, by simpa using S, e, fun v H' φ' S' hl => ?_⟩
      rw [List.append_nil, List.append_nil] at S'
      exact k _ H' _ (S'.move (.inl rfl) (canSet_lt hc))
    · cases q
  · rename_i c env' e
    cases q
    refine ⟨[], [], env, φ, _, S.len, by simpa using S, e, fun H' φ' S' hl => ?_⟩
    rw [List.append_nil, List.append_nil] at S'
    exact k _ H' _ S'
  · cases q⟩
/-- a value thrown away -/
def sDrop (f : MF) : SF := fun env => match f env with
  | some (.ok d env') => some (.nx env')
  | some (.exc c env') => some (.exc c env')
  | none => none
theorem ds_expr {f : MF} (he : DM X W e f) (hs : swapsWith e none pos.line X.env = pure false := by rfl) : DS X W (.Expr e pos) (sDrop f) := ⟨fun B hB => (ps_expr (he.pe B hB) hs).imp fun D σ H ⟨env, φ, o, S, q, k⟩ => by
  unfold sDrop at q
  split at q
  · rename_i d env' e
    cases q
    refine ⟨[], [], env, φ, _, S.len, by simpa using S, e, fun v H' φ' S' hl => ?_⟩
    rw [List.append_nil, List.append_nil] at S'
    exact k _ H' _ S'.pop
  · rename_i c env' e
    cases q
    refine ⟨[], [], env, φ, _, S.len, by simpa using S, e, fun H' φ' S' hl => ?_⟩
    rw [List.append_nil, List.append_nil] at S'
    exact k _ H' _ S'
  · cases q⟩
def sRet (f : MF) : SF := fun env => match f env with
  | some (.ok d env') => some (.rt d env')
  | some (.exc c env') => some (.exc c env')
  | none => none
theorem ds_ret {f : MF} (he : DM X W e f) : DS X W (.Return (some e) pos) (sRet f) := ⟨fun B hB => (ps_ret (he.pe B hB)).imp fun D σ H ⟨env, φ, o, S, q, k⟩ => by
  unfold sRet at q
  split at q
  · rename_i d env' e
    cases q
    refine ⟨[], [], env, φ, _, S.len, by simpa using S, e, fun v H' φ' S' hl => ?_⟩
    rw [List.append_nil, List.append_nil] at S'
    exact k v σ H' _ S'
  · rename_i c env' e
    cases q
    refine ⟨[], [], env, φ, _, S.len, by simpa using S, e, fun H' φ' S' hl => ?_⟩
    rw [List.append_nil, List.append_nil] at S'
    exact k _ H' _ S'
  · cases q⟩
def sIf (c : Env → Option (R Bool)) (g h : SF) : SF := fun env => match c env with
  | some (.ok true env') => g env'
  | some (.ok false env') => h env'
  | some (.exc x env') => some (.exc x env')
  | none => none
theorem ds_if {c : Expr} {a b : List Stmt} {t : Env → Option (R Bool)} (hc : DMT X W c t) (ha : DSs X W a g) (hb : DSs X W b h) : DS X W (.If c a b pos) (sIf t g h) := ⟨fun B hB => (ps_if (hc.pt B hB) (ha.ps B hB) (hb.ps B hB)).imp fun D σ H ⟨env, φ, o, S, q, k⟩ => by
  unfold sIf at q
  split at q
  · rename_i env' e
    refine ⟨[], [], env, φ, _, S.len, by simpa using S, e, fun H' φ' S' hl => ?_⟩
    rw [List.append_nil, List.append_nil] at S'
    exact iteT ⟨env', φ', o, S', q, k⟩
  · rename_i env' e
    refine ⟨[], [], env, φ, _, S.len, by simpa using S, e, fun H' φ' S' hl => ?_⟩
    rw [List.append_nil, List.append_nil] at S'
    exact iteF ⟨env', φ', o, S', q, k⟩
  · rename_i x env' e
    cases q
    refine ⟨[], [], env, φ, _, S.len, by simpa using S, e, fun H' φ' S' hl => ?_⟩
    rw [List.append_nil, List.append_nil] at S'
    exact k _ H' _ S'
  · cases q⟩
/-- while, so many turns at most -/
def sWhile (c : Env → Option (R Bool)) (g : SF) : Nat → SF
  | 0, _ => none
  | n + 1, env => match c env with
    | some (.ok true env') => (match g env' with
      | some (.nx e2) => sWhile c g n e2
      | some (.ct e2) => sWhile c g n e2
      | some (.bk e2) => some (.nx e2)
      | o => o)
    | some (.ok false env') => some (.nx env')
    | some (.exc x env') => some (.exc x env')
    | none => none
theorem ds_while {c : Expr} {body : List Stmt} {t : Env → Option (R Bool)} (n : Nat) (hp : PassesOwn (model X.prog X.w) X.A X.env X.xe) (hc : DMT X W c t) (hb : DSs X W body g) : DS X W (.While c body [] pos) (sWhile t g n) :=
  ⟨fun B hB => (ps_while hp (hc.pt B hB) (hb.ps B hB)).imp fun D σ H ⟨env, φ, o, S, q, k⟩ => by
    refine ⟨fun m σ H => ∃ env φ, St B σ H env φ ∧ sWhile t g m env = some o, ⟨n, env, φ, S, q⟩, fun m σ H ⟨env, φ, S, q⟩ => ?_⟩
    cases m with
    | zero => cases q
    | succ m =>
      unfold sWhile at q
      split at q
      · rename_i env' e
        refine ⟨[], [], env, φ, _, S.len, by simpa using S, e, fun H' φ' S' hl => ?_⟩
        rw [List.append_nil, List.append_nil] at S'
        refine iteT ⟨fun σ2 H2 => ∃ env φ, St B σ2 H2 env φ ∧ sWhile t g m env = some o, fun σ2 H2 w => ⟨m, Nat.lt_succ_self m, w⟩, ?_⟩
        split at q
        · rename_i e2 eq
          exact ⟨env', φ', _, S', eq, fun σ2 H2 φ2 S2 => ⟨e2, φ2, S2, q⟩⟩
        · rename_i e2 eq
          exact ⟨env', φ', _, S', eq, fun σ2 H2 φ2 S2 => ⟨e2, φ2, S2, q⟩⟩
        · rename_i e2 eq
          cases q
          exact ⟨env', φ', _, S', eq, fun σ2 H2 φ2 S2 => k σ2 H2 φ2 S2⟩
        · rename_i z1 z2 z3
          refine ⟨env', φ', o, S', q, ?_⟩
          cases o with
          | nx e => exact absurd q (z1 e)
          | bk e => exact absurd q (z3 e)
          | ct e => exact absurd q (z2 e)
          | rt d e => exact k
          | exc c e => exact k
      · rename_i env' e
        cases q
        refine ⟨[], [], env, φ, _, S.len, by simpa using S, e, fun H' φ' S' hl => ?_⟩
        rw [List.append_nil, List.append_nil] at S'
        exact iteF (k _ H' _ S')
      · rename_i x env' e
        cases q
        refine ⟨[], [], env, φ, _, S.len, by simpa using S, e, fun H' φ' S' hl => ?_⟩
        rw [List.append_nil, List.append_nil] at S'
        exact k _ H' _ S'
      · cases q⟩
end
end DL


set_option Elab.async false
set_option linter.all false
set_option maxRecDepth 100000
/-! The data layer, part 8: defs and their calls. -/
namespace DL
open PySem PySem.Spec PyProof.Rows L2

def outOf (ms : List Md) (e : Env) : Env := List.zipWith (fun m s => if m = Md.chg then s else none) ms e
def fnOut (ms : List Md) : Option O → Option (R D)
  | some (.nx e) => if outEnv ms (outOf ms e) = true then some (.ok .non (outOf ms e)) else none
  | some (.rt d e) => if outEnv ms (outOf ms e) = true then some (.ok d (outOf ms e)) else none
  | some (.exc c e) => if outEnv ms (outOf ms e) = true then some (.exc c (outOf ms e)) else none
  | _ => none
/-- what a def computes: n names, the parameters first -/
def fnD (ms : List Md) (n : Nat) (g : SF) (ds : List D) : Option (R D) := if ds.length = ms.length then fnOut ms (g (argEnv ms ds ++ List.replicate (n - ds.length) none)) else none
def spD (K : PySem.W.Frag) (ms : List Md) (F : List D → Option (R D)) : Sp := fun vs H Q E => ∃ ds φ Mm r, vs.length = ms.length ∧ ds.length = ms.length ∧ St (subB K H Mm vs) (vs.map some) H (argEnv ms ds) φ ∧ F ds = some r ∧ match r with
  | .ok d pe => outEnv ms pe = true → ∀ v H' φ', St (subB K H Mm vs) (vs.map some ++ [some v]) H' (pe ++ [some ⟨.own, d⟩]) φ' → Q v H'
  | .exc c pe => outEnv ms pe = true → ∀ H' φ', St (subB K H Mm vs) (vs.map some) H' pe φ' → E (.ref (He.ga K c)) none H'

section
variable {B : Bs} {σ : L2.St} {H : Hp} {env : Env} {φ : Nat → Fp}
/-- what was laid last -/
theorem St.last {d : D} {v : V} (S : St B (σ ++ [some v]) H (env ++ [some ⟨.own, d⟩]) φ) : Rep B.K false B.C H d v (φ env.length) ∧ (φ env.length).Nodup ∧ ∀ a ∈ φ env.length, Mut (H a) ∧ OldO B a := by
  obtain ⟨w', ew, okk⟩ := S.ok env.length ⟨.own, d⟩ (by simp)
  have hl : σ.length = env.length := by have := S.len; simp at this; exact this
  rw [← hl] at ew
  simp at ew
  subst ew
  exact okk
theorem St.pad (S : St B σ H env φ) (n : Nat) : St B (σ ++ List.replicate n none) H (env ++ List.replicate n none) φ := by
  have at_ : ∀ (i : Nat) (s : Slot), (env ++ List.replicate n none)[i]? = some (some s) → i < env.length ∧ env[i]? = some (some s) := fun i s h => by
    by_cases hi : i < env.length
    · rw [List.getElem?_append_left hi] at h; exact ⟨hi, h⟩
    · rw [List.getElem?_append_right (by omega), List.getElem?_replicate] at h
      split at h
      · cases h
      · cases h
  refine ⟨by simp [S.len], fun i s h => ?_, fun i j s t n' h1 h2 => S.excl i j s t n' (at_ _ _ h1).2 (at_ _ _ h2).2, S.frame, S.there⟩
  obtain ⟨hi, h⟩ := at_ i s h
  obtain ⟨v, e, ok⟩ := S.ok i s h
  exact ⟨v, by rw [List.getElem?_append_left (by rw [S.len]; exact hi)]; exact e, ok⟩
/-- at a def's end: what was handed in, and the rest thrown away -/
theorem St.exit {K : PySem.W.Frag} {H0 : Hp} {Mm : Nat → Fp} {vs : List V} {ms : List Md} {rv : L2.St} {re : Env} (S : St (subB K H0 Mm vs) (σ ++ rv) H (env ++ re) φ) (hl : σ.length = env.length) (hv : vs.length = ms.length) (ho : outEnv ms (outOf ms env) = true)
    (hre : ∀ (k : Nat) (s : Slot), re[k]? = some (some s) → s.m = .own) : ∃ φ', St (subB K H0 Mm vs) (vs.map some ++ rv) H (outOf ms env ++ re) φ' := by
  have hlen := outEnv_len ho
  have hrl : rv.length = re.length := by have := S.len; simp at this; omega
  let φ' : Nat → Fp := fun j => if j < ms.length then φ j else φ (env.length + (j - ms.length))
  have at_ : ∀ (j : Nat) (s : Slot), (outOf ms env ++ re)[j]? = some (some s) → (j < ms.length ∧ s.m = .chg ∧ env[j]? = some (some s) ∧ φ' j = φ j) ∨ (∃ c, j = ms.length + c ∧ re[c]? = some (some s) ∧ φ' j = φ (env.length + c)) := fun j s h => by
    by_cases hj : j < ms.length
    · left
      rw [List.getElem?_append_left (by omega)] at h
      have em : ms[j]? = some ms[j] := List.getElem?_eq_getElem hj
      rcases outEnv_at ho em with ⟨c, d, e⟩ | ⟨c, e⟩
      · rw [e] at h
        cases h
        unfold outOf at e
        rw [List.getElem?_zipWith, em] at e
        cases q : env[j]? with
        | none => rw [q] at e; simp at e
        | some x =>
          rw [q] at e
          simp [c] at e
          rw [e]
          exact ⟨hj, rfl, rfl, if_pos hj⟩
      · rw [e] at h; cases h
    · right
      rw [List.getElem?_append_right (by omega), hlen] at h
      exact ⟨j - ms.length, by omega, h, if_neg hj⟩
  have old : ∀ (j : Nat) (s : Slot), env[j]? = some (some s) → (env ++ re)[j]? = some (some s) := fun j s q => by
    obtain ⟨h, _⟩ := List.getElem?_eq_some_iff.mp q
    rw [List.getElem?_append_left h]; exact q
  have new : ∀ (c : Nat) (s : Slot), re[c]? = some (some s) → (env ++ re)[env.length + c]? = some (some s) := fun c s q => by
    rw [List.getElem?_append_right (by omega), show env.length + c - env.length = c by omega]; exact q
  refine ⟨φ', by rw [List.length_append, List.length_append, List.length_map]; omega, fun j s h => ?_, fun j k s t n h1 h2 hx => ?_, S.frame, S.there⟩
  · rcases at_ j s h with ⟨hj, hm, q, e⟩ | ⟨c, rfl, q, e⟩
    · obtain ⟨w, ew, ok⟩ := S.ok j s (old j s q)
      rw [e]
      have ok2 := ok
      unfold SlotOk at ok2
      rw [hm] at ok2
      have ew2 : w = vs.getD j .non := ok2.2.2.2
      refine ⟨w, ?_, ok⟩
      rw [List.getElem?_append_left (by rw [List.length_map]; omega), List.getElem?_map, List.getElem?_eq_getElem (by omega), ew2, List.getD_eq_getElem?_getD, List.getElem?_eq_getElem (by omega)]
      rfl
    · obtain ⟨w, ew, ok⟩ := S.ok _ s (new c s q)
      rw [List.getElem?_append_right (by omega), show env.length + c - σ.length = c by omega] at ew
      refine ⟨w, by rw [List.getElem?_append_right (by rw [List.length_map]; omega), List.length_map, show ms.length + c - vs.length = c by omega]; exact ew, ?_⟩
      rw [e]
      have hm := hre c s q
      unfold SlotOk at ok ⊢
      rw [hm] at ok ⊢
      exact ok
  · rcases at_ j s h1 with ⟨hj, hm, q, e⟩ | ⟨c, hc, q, e⟩ <;> rcases at_ k t h2 with ⟨hk, hm2, q2, e2⟩ | ⟨c2, hc2, q2, e2⟩
    · rw [e, e2]; exact S.excl j k s t n (old _ _ q) (old _ _ q2) hx
    · obtain ⟨hjj, _⟩ := List.getElem?_eq_some_iff.mp q
      rw [e, e2]; exact S.excl j _ s t (by omega) (old _ _ q) (new _ _ q2) hx
    · obtain ⟨hjj, _⟩ := List.getElem?_eq_some_iff.mp q2
      rw [e, e2]; exact S.excl _ k s t (by omega) (new _ _ q) (old _ _ q2) hx
    · rw [e, e2]; exact S.excl _ _ s t (by omega) (new _ _ q) (new _ _ q2) hx
end

/-- how a body stands: its names, its scope, what is around -/
structure BX (X : Cx) (W : WX) (P : Program) (w : World) (K : PySem.W.Frag) (mg : Str → Option Value) (base : Heap) (N : List Str) (sc : Scope) (k : Nat) : Prop where
  hP : X.prog = P
  hw : X.w = w
  hK : X.K = K
  hmg : X.mg = mg
  hbase : X.base = base
  hN : X.N = N
  hsc : X.env.scope = sc
  nd : X.N.Nodup
  calm : X.calm = true
  tk : Takes X W
  room : Room k X.A
  knd : X.env.scope.kind = .function
/-- .. a def's own body, not a comprehension's block -/
structure BF (X : Cx) (W : WX) (P : Program) (w : World) (K : PySem.W.Frag) (mg : Str → Option Value) (base : Heap) (N : List Str) (sc : Scope) (k : Nat) : Prop extends BX X W P w K mg base N sc k where
  fn : ∀ x, X.fn x = true
  po : PassesOwn (model X.prog X.w) X.A X.env X.xe
  stk : X.stack = X.env :: X.outer
  frm : X.env.frame = some X.env.locals

/-- a def of the text, as its callers know it -/
structure Fn (P : Program) (w : World) (K : PySem.W.Frag) (mg : Str → Option Value) (base : Heap) (k : Nat) (x : Str) (ms : List Md) (F : List D → Option (R D)) : Prop where
  ex : ∃ (f : Addr) (fd : FuncData) (ps : List Str), FnOk P w K mg base (L2.CX P w) k f fd ps (spD K ms F) ∧ mg x = some (.ref f) ∧ PySem.W.keepIn K (.ref f) = true ∧ Binds K fd ps []
  hF : ∀ ds r, F ds = some r → ds.length = ms.length

section
variable {P : Program} {w : World} {K : PySem.W.Frag} {mg : Str → Option Value} {base : Heap}
/-- THE RULE of a def: its body's meaning is the def's -/
theorem fn_ok {x qual : Str} {params : Arguments} {bd : List Stmt} {sc : Scope} {f : Addr} {fd : FuncData} {N ps : List Str} {k : Nat} {ms : List Md} {g : SF} (F : FunD K x qual params bd sc [] [] f fd) (S : FnScope N ps sc) (hms : ms.length = ps.length) (hN : ps.length ≤ N.length)
    (body : ∀ (X : Cx) (W : WX), BF X W P w K mg base N sc k → DSs X W bd g) : FnOk P w K mg base (L2.CX P w) (k + 1) f fd ps (spD K ms (fnD ms N.length g)) := by
  refine F.ok S (fun vs H Q E h => ?_) (fun cdv A outer s H vs Q E hr h => ?_)
  · obtain ⟨ds, φ, Mm, r, hv, _⟩ := h
    rw [hv, hms]
  · obtain ⟨ds, φ, Mm, r, hv, hd, St0, hF, hp⟩ := h
    have bx : BF (cxOf (L2.CX P w) P w K mg base N qual sc f cdv A outer s H E) (fun c d _ H' => E c d H') P w K mg base N sc k :=
      ⟨⟨rfl, rfl, rfl, rfl, rfl, rfl, rfl, S.nd, rfl, takes_of rfl rfl rfl rfl, hr, S.kind⟩, fun _ => rfl, passes_of rfl, rfl, rfl⟩
    refine ⟨_, (body _ _ bx).ps (subB K H Mm vs) rfl, ?_⟩
    unfold fnD at hF
    rw [if_pos hd] at hF
    have hal : (argEnv ms ds).length = ms.length := by rw [argEnv_len hd.symm, hd]
    have S1 := St0.pad (N.length - ds.length)
    have e1 : L2.start N vs = vs.map some ++ List.replicate (N.length - ds.length) none := by
      unfold L2.start
      rw [hv, hd]
    rw [← e1] at S1
    cases ho : g (argEnv ms ds ++ List.replicate (N.length - ds.length) none) with
    | none => rw [ho] at hF; cases hF
    | some o =>
      refine ⟨_, _, o, S1, ho, ?_⟩
      rw [ho] at hF
      have fin : ∀ {σ' : L2.St} {H' : Hp} {e : Env} {φ' : Nat → Fp} {rv : L2.St} {re : Env}, St (subB K H Mm vs) (σ' ++ rv) H' (e ++ re) φ' → σ'.length = e.length → outEnv ms (outOf ms e) = true → (∀ (k : Nat) (s : Slot), re[k]? = some (some s) → s.m = .own) →
          ∃ φ'', St (subB K H Mm vs) (vs.map some ++ rv) H' (outOf ms e ++ re) φ'' := fun {σ' H' e φ' rv re} S' hl ho hre => S'.exit hl hv ho hre
      have one : ∀ (d : D) (k : Nat) (s : Slot), ([some ⟨.own, d⟩] : Env)[k]? = some (some s) → s.m = .own := fun d k s q => by
        cases k with
        | zero => simp at q; rw [← q]
        | succ k => simp at q
      cases o with
      | nx e =>
        unfold fnOut at hF
        simp only at hF
        split at hF
        · rename_i hoe
          cases hF
          intro σ' H' φ' S'
          have S2 := S'.pushImm (d := .non) (v := .non) (rep_non.mpr ⟨rfl, rfl⟩)
          obtain ⟨φ'', S3⟩ := fin S2 S'.len hoe (one .non)
          exact hp hoe _ _ _ S3
        · cases hF
      | rt d e =>
        unfold fnOut at hF
        simp only at hF
        split at hF
        · rename_i hoe
          cases hF
          intro v σ' H' φ' S'
          have hl : σ'.length = e.length := by have := S'.len; simp at this; exact this
          obtain ⟨φ'', S3⟩ := fin S' hl hoe (one d)
          exact hp hoe _ _ _ S3
        · cases hF
      | exc c e =>
        unfold fnOut at hF
        simp only at hF
        split at hF
        · rename_i hoe
          cases hF
          intro σ' H' φ' S'
          obtain ⟨φ'', S3⟩ := fin (rv := []) (re := []) (by simpa using S') S'.len hoe (fun k s q => by simp at q)
          rw [List.append_nil, List.append_nil] at S3
          exact hp hoe _ _ S3
        · cases hF
      | bk e => cases hF
      | ct e => cases hF
theorem fn_mk {x : Str} {params : Arguments} {bd : List Stmt} {sc : Scope} {f : Addr} {fd : FuncData} {N ps : List Str} {k : Nat} {ms : List Md} {g : SF} (F : FunD K x x params bd sc [] [] f fd) (hm : mg x = some (.ref f)) (S : FnScope N ps sc) (hms : ms.length = ps.length) (hN : ps.length ≤ N.length)
    (hb : ∀ (kV doc pm : Value) (an : Option Addr) (cdv ct : Value) (us : List Value), us.length = ps.length → bindArgs (PySem.W.fnOf x x params bd sc .none kV doc pm an cdv ct) ⟨us, []⟩ = pure (ps.zip us))
    (body : ∀ (X : Cx) (W : WX), BF X W P w K mg base N sc k → DSs X W bd g) : Fn P w K mg base (k + 1) x ms (fnD ms N.length g) :=
  ⟨⟨f, fd, ps, fn_ok F S hms hN body, hm, F.kp, F.bindsN hb⟩, fun ds r h => by
    unfold fnD at h
    split at h
    · assumption
    · cases h⟩
end

/-! ### arguments -/
/-- pure ones -/
def PPs (B : Bs) (f : Env → Option (List D)) : TA := fun σ H Q => ∃ env φ ds, St B σ H env φ ∧ f env = some ds ∧ ∀ vs H' fps, Ex H H' → Reps B.K true B.C H' ds vs fps → Known H env φ fps → Q vs H'
structure DA (X : Cx) (es : List Expr) (f : Env → Option (List D)) : Prop where
  pa : ∀ B : Bs, B.K = X.K → PA X es (PPs B f)
def fNil : Env → Option (List D) := fun _ => some []
def fCons (f : DF) (g : Env → Option (List D)) : Env → Option (List D) := fun env => match f env, g env with
  | some d, some ds => some (d :: ds)
  | _, _ => none
theorem fCons_of {f : DF} {g : Env → Option (List D)} {env : Env} {r : List D} (h : fCons f g env = some r) : ∃ d ds, f env = some d ∧ g env = some ds ∧ r = d :: ds := by
  unfold fCons at h
  split at h
  · cases h; exact ⟨_, _, by assumption, by assumption, rfl⟩
  · cases h
section
variable {X : Cx} {W : WX} {e : Expr} {es : List Expr} {pos p : Pos}
theorem da_nil : DA X [] fNil := ⟨fun B hB => pa_nil.imp fun σ H Q ⟨env, φ, ds, S, q, k⟩ => by
  cases q
  exact k [] H [] (Evl.Ex.refl H) reps_nil fun _ h => nomatch h⟩
theorem da_cons {f : DF} {g : Env → Option (List D)} (h1 : DP X e f) (h2 : DA X es g) (hs : starEach (e :: es) X.env = (false, eval e X.env) :: starEach es X.env := by rfl) : DA X (e :: es) (fCons f g) :=
  ⟨fun B hB => (pa_cons (h1.pe B hB) (h2.pa B hB) hs).imp fun σ H Q ⟨env, φ, ds, S, q, k⟩ => by
    obtain ⟨d, ds, q1, q2, rfl⟩ := fCons_of q
    refine ⟨env, φ, d, S, q1, fun v H1 fp e1 r1 k1 => ⟨env, φ, ds, S.ex e1, q2, fun vs H2 fps e2 r2 k2 => ?_⟩⟩
    refine k (v :: vs) H2 (fp ++ fps) (e1.trans e2) (reps_cons (rep_ex r1 e2) r2) fun a ha => ?_
    rcases List.mem_append.mp ha with q | q
    · exact k1 a q
    · exact (k2.ex e1) a q⟩

variable {P : Program} {w : World} {K : PySem.W.Frag} {mg : Str → Option Value} {base : Heap} {N : List Str} {sc : Scope} {k kc : Nat} {x : Str} {ms : List Md} {F : List D → Option (R D)}
def allShr (n : Nat) : List Md := List.replicate n .shr
theorem shr_of {n i : Nat} {m : Md} (h : (allShr n)[i]? = some m) : m = .shr := by
  unfold allShr at h
  rw [List.getElem?_replicate] at h
  split at h
  · cases h; rfl
  · cases h
/-- a pure def's value -/
def fCall (F : List D → Option (R D)) (g : Env → Option (List D)) : Env → Option (Except Str D) := fun env => match g env with
  | some ds => (match F ds with
    | some (.ok d _) => some (.ok d)
    | some (.exc c _) => some (.error c)
    | none => none)
  | none => none
/-- what is handed in to be read -/
theorem st_args {B : Bs} {H : Hp} {ds : List D} {vs : List V} {fps : Fp} (r : Reps B.K true B.C H ds vs fps) : ∃ φ, St (subB B.K H (fun _ => []) vs) (vs.map some) H (argEnv (allShr ds.length) ds) φ := by
  have get : ∀ {ds : List D} {vs : List V} {fps : Fp}, Reps B.K true B.C H ds vs fps → ∀ i : Nat, ∃ fp : Fp, ∀ d, ds[i]? = some d → ∃ v, vs[i]? = some v ∧ Rep B.K true B.C H d v fp := by
    intro ds
    induction ds with
    | nil => intro vs fps _ i; exact ⟨[], fun d q => by simp at q⟩
    | cons d ds ih =>
      intro vs fps h i
      unfold Reps at h
      obtain ⟨v, vs', f1, f2, rfl, rfl, h1, h2⟩ := h
      cases i with
      | zero => exact ⟨f1, fun d' q => by simp at q; subst q; exact ⟨v, rfl, h1⟩⟩
      | succ i =>
        obtain ⟨fp, z⟩ := ih h2 i
        exact ⟨fp, fun d' q => by simpa using z d' (by simpa using q)⟩
  have hl := reps_len r
  have hml : (allShr ds.length).length = ds.length := by simp [allShr]
  refine ⟨fun i => Classical.choose (get r i), by rw [argEnv_len hml, List.length_map, hl], fun i s q => ?_, fun i j s t n q1 q2 hx => ?_, fun a o q _ _ => q, fun a q => q⟩
  · obtain ⟨m, d, q1, q2, rfl⟩ := argEnv_get q
    have em : m = .shr := by
      unfold allShr at q1
      rw [List.getElem?_replicate] at q1
      split at q1
      · cases q1; rfl
      · cases q1
    subst em
    obtain ⟨v, ev, rr⟩ := Classical.choose_spec (get r i) d q2
    exact ⟨v, by rw [List.getElem?_map, ev]; rfl, rr⟩
  · obtain ⟨m, d, q3, q4, rfl⟩ := argEnv_get q1
    have em : m = .shr := by
      exact shr_of q3
    subst em
    cases hx
/-- a call of a def that changes nothing -/
theorem dx_call (c : Fn P w K mg base kc x (allShr es.length.succ) F) (h : BX X W P w K mg base N sc k) (hk : kc ≤ k) (hg : sc.names.lookup x = some .globalImplicit) {g : Env → Option (List D)} (ha : DA X (e :: es) g)
    (hdb : (x == ("__debug__" : Str)) = false := by decide) (he : starEach (e :: es) X.env = (false, eval e X.env) :: starEach es X.env := by rfl) (hpl : (backTo pos (starEach es X.env)).any (·.1) = false := by rfl) :
    DX X W (.Call (.Name x p) (e :: es) [] pos) (fCall F g) := by
  obtain ⟨f, fd, ps, ok, hm, hkp, hb⟩ := c.ex
  refine ⟨fun B hB => ?_⟩
  have hBK : B.K = K := hB.trans h.hK
  have hgl : Gl X x := by show X.env.scope.names.lookup x = _; rw [h.hsc]; exact hg
  have ok' : FnOk X.prog X.w X.K X.mg X.base (L2.CX X.prog X.w) kc f fd ps (spD K (allShr es.length.succ) F) := by rw [h.hP, h.hw, h.hK, h.hmg, h.hbase]; exact ok
  have hm' : X.mg x = some (.ref f) := by rw [h.hmg]; exact hm
  have hkp' : PySem.W.keepIn X.K (.ref f) = true := by rw [h.hK]; exact hkp
  have hb' : Binds X.K fd ps [] := by rw [h.hK]; exact hb
  refine (pe_callSD (E := fun σ => WE W σ) ok' (h.room.mono hk) hgl hm' hkp' hb' .nil (passAt h.tk) (ha.pa B hB) hdb he hpl).imp fun σ H Q ⟨env, φ, r, S, q, k'⟩ => ?_
  unfold fCall at q
  split at q
  · rename_i ds hds
    refine ⟨env, φ, ds, S, hds, fun vs H1 fps e1 r1 k1 => ?_⟩
    show spD K (allShr es.length.succ) F (vs ++ []) H1 Q (WE W σ)
    rw [List.append_nil]
    obtain ⟨φ1, S1⟩ := st_args r1
    rw [hBK] at S1
    have hl := reps_len r1
    have ext : ∀ {σ' : L2.St} {H' : Hp} {env' : Env} {φ' : Nat → Fp}, St (subB K H1 (fun _ => []) vs) σ' H' env' φ' → Ex H1 H' := fun S' a o q => S'.frame a o q (by simp [subB]) (by simp [subB])
    split at q
    · rename_i d pe hF
      cases q
      have hd := c.hF _ _ hF
      have hn : ds.length = es.length.succ := by rw [hd]; simp [allShr]
      rw [hn] at S1
      refine ⟨ds, φ1, fun _ => [], _, by rw [hl, hd], hd, S1, hF, fun _ v H' φ' S' => ?_⟩
      have okk' := S'.last
      have e2 := ext S'
      refine k' v H' _ (e1.trans e2) ?_ ⟨okk'.2.1, fun a ha => ⟨(okk'.2.2 a ha).1, ?_⟩⟩
      · rw [hBK]; unfold Bs.C; rw [hBK]; exact okk'.1
      · rcases (okk'.2.2 a ha).2 with z | z
        · simp [subB] at z
        · exact fresh_back e1 z
    · rename_i cc pe hF
      cases q
      have hd := c.hF _ _ hF
      have hn : ds.length = es.length.succ := by rw [hd]; simp [allShr]
      rw [hn] at S1
      refine ⟨ds, φ1, fun _ => [], _, by rw [hl, hd], hd, S1, hF, fun _ H' φ' S' => ?_⟩
      have := k' H' (e1.trans (ext S'))
      unfold Bs.C at this
      rw [hBK] at this
      exact this
    · cases q
  · cases q
end
end DL


set_option Elab.async false
set_option linter.all false
set_option maxRecDepth 100000
/-! The data layer, part 9: loops. ch tells which names a body may change; the others stay. -/
namespace DL
open PySem PySem.Spec PyProof.Rows L2

def frzS : Option Slot → Option Slot
  | some s => some ⟨.pin, s.d⟩
  | none => none
def frz (ch : Nat → Bool) (env : Env) : Env := env.mapIdx fun j s => if ch j = true then s else frzS s
def thawS (c : Bool) : Option Slot → Option Slot → Option Slot
  | s, some ⟨.own, d⟩ => if c = true then some ⟨.own, d⟩ else none
  | some ⟨.chg, _⟩, some ⟨.chg, d⟩ => if c = true then some ⟨.chg, d⟩ else none
  | s, some ⟨.shr, d⟩ => if c = true ∧ imm d = true then some ⟨.shr, d⟩ else none
  | s, some ⟨.pin, _⟩ => if c = true then none else s
  | _, _ => none
def thaw (ch : Nat → Bool) (env env' : Env) : Env := env.mapIdx fun j s => match env'[j]? with
  | some t => thawS (ch j) s t
  | none => none

section
variable {B : Bs} {σ σ' : L2.St} {H H' : Hp} {env env' : Env} {φ φ' : Nat → Fp} {ch : Nat → Bool}
/-- the base of a loop's body -/
def moOf (ch : Nat → Bool) (env : Env) (φ : Nat → Fp) : Fp := (List.range env.length).flatMap fun j => if ch j = true then (match env[j]? with
  | some (some ⟨.own, _⟩) => φ j
  | _ => []) else []
def mmOf (ch : Nat → Bool) (env : Env) (φ : Nat → Fp) : Nat → Fp := fun j => if ch j = true then (match env[j]? with
  | some (some ⟨.chg, _⟩) => φ j
  | _ => []) else []
theorem mem_mo {a : Addr} : a ∈ moOf ch env φ ↔ ∃ j d, ch j = true ∧ env[j]? = some (some ⟨.own, d⟩) ∧ a ∈ φ j := by
  unfold moOf
  rw [List.mem_flatMap]
  constructor
  · rintro ⟨j, hj, h⟩
    split at h
    · rename_i hc
      split at h
      · rename_i d e; exact ⟨j, d, hc, e, h⟩
      · cases h
    · cases h
  · rintro ⟨j, d, hc, e, h⟩
    refine ⟨j, List.mem_range.mpr (List.getElem?_eq_some_iff.mp e).1, ?_⟩
    rw [if_pos hc, e]
    exact h
theorem mem_mm {a : Addr} {j : Nat} : a ∈ mmOf ch env φ j ↔ ∃ d, ch j = true ∧ env[j]? = some (some ⟨.chg, d⟩) ∧ a ∈ φ j := by
  unfold mmOf
  constructor
  · intro h
    split at h
    · rename_i hc
      split at h
      · rename_i d e; exact ⟨d, hc, e, h⟩
      · cases h
    · cases h
  · rintro ⟨d, hc, e, h⟩
    rw [if_pos hc, e]
    exact h
def loopB (B : Bs) (σ : L2.St) (H : Hp) (env : Env) (φ : Nat → Fp) (ch : Nat → Bool) : Bs := ⟨B.K, H, moOf ch env φ, mmOf ch env φ, fun j => match σ[j]? with
  | some (some v) => v
  | _ => .non⟩
theorem frz_get {j : Nat} {s : Slot} (h : (frz ch env)[j]? = some (some s)) : (ch j = true ∧ env[j]? = some (some s)) ∨ (ch j = false ∧ ∃ t : Slot, env[j]? = some (some t) ∧ s = ⟨.pin, t.d⟩) := by
  unfold frz at h
  rw [List.getElem?_mapIdx] at h
  cases e : env[j]? with
  | none => rw [e] at h; cases h
  | some x =>
    rw [e] at h
    simp only [Option.map_some, Option.some.injEq] at h
    cases c : ch j with
    | true => rw [c, if_pos rfl] at h; exact .inl ⟨rfl, by rw [h]⟩
    | false =>
      rw [c, if_neg Bool.false_ne_true] at h
      cases x with
      | none => cases h
      | some t => cases h; exact .inr ⟨rfl, t, rfl, rfl⟩
theorem frz_len : (frz ch env).length = env.length := by unfold frz; rw [List.length_mapIdx]
theorem St.freeze (S : St B σ H env φ) : St (loopB B σ H env φ ch) σ H (frz ch env) φ where
  len := by rw [frz_len]; exact S.len
  ok := fun j s h => by
    rcases frz_get h with ⟨c, e⟩ | ⟨c, t, e, rfl⟩
    · obtain ⟨v, ev, ok⟩ := S.ok j s e
      refine ⟨v, ev, ?_⟩
      obtain ⟨m, d⟩ := s
      unfold SlotOk at ok ⊢
      cases m with
      | own => exact ⟨ok.1, ok.2.1, fun a ha => ⟨(ok.2.2 a ha).1, .inl (mem_mo.mpr ⟨j, d, c, e, ha⟩)⟩⟩
      | chg => exact ⟨ok.1, ok.2.1, fun a ha => ⟨(ok.2.2.1 a ha).1, .inl (mem_mm.mpr ⟨d, c, e, ha⟩)⟩, by show v = (match σ[j]? with | some (some v) => v | _ => .non); rw [ev]⟩
      | shr => exact ok
      | pin => exact ⟨ok.1, by show v = (match σ[j]? with | some (some v) => v | _ => .non); rw [ev]⟩
    · obtain ⟨v, ev, ok⟩ := S.ok j t e
      exact ⟨v, ev, ok.rep, by show v = (match σ[j]? with | some (some v) => v | _ => .non); rw [ev]⟩
  excl := fun i j s t n h1 h2 hx => by
    rcases frz_get h1 with ⟨c, e⟩ | ⟨c, t', e, rfl⟩
    · rcases frz_get h2 with ⟨c2, e2⟩ | ⟨c2, t2, e2, _⟩
      · exact S.excl i j s t n e e2 hx
      · exact S.excl i j s t2 n e e2 hx
    · cases hx
  frame := fun a o h _ _ => h
  there := fun a h => h
theorem thaw_len : (thaw ch env env').length = env.length := by unfold thaw; rw [List.length_mapIdx]
theorem thaw_get {j : Nat} {s : Slot} (h : (thaw ch env env')[j]? = some (some s)) :
    (ch j = true ∧ env'[j]? = some (some s) ∧ s.m = .own) ∨ (ch j = true ∧ env'[j]? = some (some s) ∧ s.m = .chg ∧ ∃ d, env[j]? = some (some ⟨.chg, d⟩)) ∨ (ch j = true ∧ env'[j]? = some (some s) ∧ s.m = .shr ∧ imm s.d = true) ∨
      (ch j = false ∧ env[j]? = some (some s) ∧ ∃ d, env'[j]? = some (some ⟨.pin, d⟩)) := by
  unfold thaw at h
  rw [List.getElem?_mapIdx] at h
  cases e : env[j]? with
  | none => rw [e] at h; cases h
  | some x =>
    rw [e] at h
    simp only [Option.map_some, Option.some.injEq] at h
    cases e' : env'[j]? with
    | none => rw [e'] at h; cases h
    | some y =>
      rw [e'] at h
      simp only at h
      unfold thawS at h
      split at h
      · split at h
        · cases h; exact .inl ⟨by assumption, rfl, rfl⟩
        · cases h
      · split at h
        · cases h; exact .inr (.inl ⟨by assumption, rfl, rfl, _, rfl⟩)
        · cases h
      · split at h
        · rename_i q; cases h; exact .inr (.inr (.inl ⟨q.1, rfl, rfl, q.2⟩))
        · cases h
      · split at h
        · cases h
        · rename_i q
          subst h
          exact .inr (.inr (.inr ⟨by simpa using q, rfl, _, rfl⟩))
      · cases h
theorem St.thaw {rv : L2.St} {re : Env} (S : St B σ H env φ) (S1 : St (loopB B σ H env φ ch) (σ' ++ rv) H' (env' ++ re) φ') (hl : σ'.length = env'.length) (he : env'.length = env.length)
    (hre : ∀ (k : Nat) (s : Slot), re[k]? = some (some s) → s.m = .own) : ∃ φ'', St B (σ' ++ rv) H' (DL.thaw ch env env' ++ re) φ'' := by
  have hrl : rv.length = re.length := by have := S1.len; simp at this; omega
  let φ'' : Nat → Fp := fun j => if j < env.length then (if ch j = true then φ' j else φ j) else φ' j
  have φ1 : ∀ {j : Nat}, ch j = true → φ'' j = φ' j := fun {j} c => by
    show (if j < env.length then (if ch j = true then φ' j else φ j) else φ' j) = _
    rw [if_pos c]
    split <;> rfl
  have φ2 : ∀ {j : Nat}, j < env.length → ch j = false → φ'' j = φ j := fun {j} hj c => by
    show (if _ then _ else _) = _
    rw [if_pos hj, if_neg (by rw [c]; exact Bool.false_ne_true)]
  have φ3 : ∀ {j : Nat}, φ'' (env.length + j) = φ' (env.length + j) := fun {j} => by
    show (if _ then _ else _) = _
    rw [if_neg (by omega)]
  have h0 : ∀ {a : Addr}, H a = none → B.H0 a = none := fun {a} q => by
    cases r : B.H0 a with
    | none => rfl
    | some o => exact absurd q (S.there a (by rw [r]; simp))
  have inB : ∀ {j : Nat} {s : Slot}, env'[j]? = some (some s) → (env' ++ re)[j]? = some (some s) := fun {j s} q => by
    obtain ⟨h, _⟩ := List.getElem?_eq_some_iff.mp q
    rw [List.getElem?_append_left h]; exact q
  have inR : ∀ {c : Nat} {s : Slot}, re[c]? = some (some s) → (env' ++ re)[env.length + c]? = some (some s) := fun {c s} q => by
    rw [List.getElem?_append_right (by omega), show env.length + c - env'.length = c by omega]; exact q
  have old : ∀ {a : Addr}, OldO (loopB B σ H env φ ch) a → (∃ (k : Nat) (d : D), ch k = true ∧ env[k]? = some (some ⟨.own, d⟩) ∧ a ∈ φ k) ∨ H a = none := fun {a} q => by
    rcases q with q | q
    · exact .inl (mem_mo.mp q)
    · exact .inr q
  have oldB : ∀ {a : Addr}, OldO (loopB B σ H env φ ch) a → OldO B a := fun {a} q => by
    rcases old q with ⟨k, d, _, e, ha⟩ | q
    · obtain ⟨v, _, ok⟩ := S.ok k _ e
      have ok' : Rep B.K false B.C H d v (φ k) ∧ (φ k).Nodup ∧ ∀ a ∈ φ k, Mut (H a) ∧ OldO B a := ok
      exact (ok'.2.2 a ha).2
    · exact .inr (h0 q)
  -- the objects of the names that stay
  have apart : ∀ {j : Nat} {s : Slot}, env[j]? = some (some s) → ch j = false → ∀ a ∈ φ j, a ∉ moOf ch env φ ∧ ∀ i, a ∉ mmOf ch env φ i := fun {j s} q c a ha => by
    refine ⟨fun hm => ?_, fun i hm => ?_⟩
    · obtain ⟨k, d, ck, e, hk⟩ := mem_mo.mp hm
      exact S.excl k j _ s (by rintro rfl; rw [c] at ck; cases ck) e q rfl a hk ha
    · obtain ⟨d, ck, e, hk⟩ := mem_mm.mp hm
      exact S.excl i j _ s (by rintro rfl; rw [c] at ck; cases ck) e q rfl a hk ha
  have stay : ∀ {j : Nat} {s : Slot}, env[j]? = some (some s) → ch j = false → ∀ a ∈ φ j, ∀ o, H a = some o → H' a = some o := fun {j s} q c a ha o ho => S1.frame a o ho (apart q c a ha).1 (apart q c a ha).2
  have tups : ∀ (a : Addr) (xs : List V), H a = some (.tup xs) → H' a = some (.tup xs) := fun a xs q => by
    have nMut : ¬ Mut (H a) := fun z => by rw [q] at z; exact z
    have n1 : a ∉ moOf ch env φ := fun hm => by
      obtain ⟨k, d, ck, e, hk⟩ := mem_mo.mp hm
      obtain ⟨v, _, ok⟩ := S.ok k _ e
      exact nMut ((ok.mk_ex rfl).2.2 a hk).1
    have n2 : ∀ i, a ∉ mmOf ch env φ i := fun i hm => by
      obtain ⟨d, ck, e, hk⟩ := mem_mm.mp hm
      obtain ⟨v, _, ok⟩ := S.ok i _ e
      exact nMut ((ok.mk_ex rfl).2.2 a hk).1
    exact S1.frame a _ q n1 n2
  -- an object of a name that may be changed is none of those that stay
  have away : ∀ {j k : Nat} {s t : Slot}, ch j = true → env'[j]? = some (some s) → (s.m = .own ∨ s.m = .chg) → env[k]? = some (some t) → ch k = false → ∀ a ∈ φ' j, a ∉ φ k := fun {j k s t} cj q hm q2 ck a ha hb => by
    obtain ⟨v, _, ok⟩ := S1.ok j s (inB q)
    have hx : s.m.ex = true := by rcases hm with z | z <;> (rw [z]; rfl)
    rcases ((ok.mk_ex hx).2.2 a ha).2 with z | z | z
    · exact (apart q2 ck a hb).2 j z
    · exact (apart q2 ck a hb).1 z
    · exact S.in q2 a hb z
  have awayR : ∀ {c k : Nat} {s t : Slot}, re[c]? = some (some s) → env[k]? = some (some t) → ch k = false → ∀ a ∈ φ' (env.length + c), a ∉ φ k := fun {c k s t} q q2 ck a ha hb => by
    obtain ⟨v, _, ok⟩ := S1.ok _ s (inR q)
    have hm := hre c s q
    have ok' := ok
    unfold SlotOk at ok'
    rw [hm] at ok'
    rcases (ok'.2.2 a ha).2 with z | z
    · exact (apart q2 ck a hb).1 z
    · exact S.in q2 a hb z
  have cases_ : ∀ (j : Nat) (s : Slot), (DL.thaw ch env env' ++ re)[j]? = some (some s) → (j < env.length ∧ (DL.thaw ch env env')[j]? = some (some s)) ∨ ∃ c, j = env.length + c ∧ re[c]? = some (some s) := fun j s q => by
    by_cases hj : j < env.length
    · rw [List.getElem?_append_left (by rw [thaw_len]; exact hj)] at q
      exact .inl ⟨hj, q⟩
    · rw [List.getElem?_append_right (by rw [thaw_len]; omega), thaw_len] at q
      exact .inr ⟨j - env.length, by omega, q⟩
  have class_ : ∀ (j : Nat) (s : Slot), j < env.length → (DL.thaw ch env env')[j]? = some (some s) → (ch j = true ∧ env'[j]? = some (some s) ∧ (s.m = .own ∨ s.m = .chg ∨ (s.m = .shr ∧ imm s.d = true))) ∨ (ch j = false ∧ env[j]? = some (some s)) := fun j s hj q => by
    rcases thaw_get q with ⟨c, e, hm⟩ | ⟨c, e, hm, d0, e0⟩ | ⟨c, e, hm, hi⟩ | ⟨c, e, d', e'⟩
    · exact .inl ⟨c, e, .inl hm⟩
    · exact .inl ⟨c, e, .inr (.inl hm)⟩
    · exact .inl ⟨c, e, .inr (.inr ⟨hm, hi⟩)⟩
    · exact .inr ⟨c, e⟩
  have hσl : (σ' ++ rv).length = (env' ++ re).length := S1.len
  refine ⟨φ'', by rw [List.length_append, List.length_append, thaw_len]; omega, fun j s q => ?_, fun i j s t n q1 q2 hx => ?_, fun a o q1 q2 q3 => ?_, fun a q => S1.there a (S.there a q)⟩
  · rcases cases_ j s q with ⟨hj, q⟩ | ⟨c, rfl, g⟩
    · rcases thaw_get q with ⟨c, e, hm⟩ | ⟨c, e, hm, d0, e0⟩ | ⟨c, e, hm, hi⟩ | ⟨c, e, d', e'⟩
      · obtain ⟨v, ev, ok⟩ := S1.ok j s (inB e)
        refine ⟨v, ev, ?_⟩
        rw [φ1 c]
        unfold SlotOk at ok ⊢
        rw [hm] at ok ⊢
        exact ⟨ok.1, ok.2.1, fun a ha => ⟨(ok.2.2 a ha).1, oldB (ok.2.2 a ha).2⟩⟩
      · obtain ⟨v, ev, ok⟩ := S1.ok j s (inB e)
        obtain ⟨v0, ev0, ok0⟩ := S.ok j _ e0
        have ok0' : Rep B.K false B.C H d0 v0 (φ j) ∧ (φ j).Nodup ∧ (∀ a ∈ φ j, Mut (H a) ∧ OldM B j a) ∧ v0 = B.pins j := ok0
        refine ⟨v, ev, ?_⟩
        rw [φ1 c]
        unfold SlotOk at ok ⊢
        rw [hm] at ok ⊢
        refine ⟨ok.1, ok.2.1, fun a ha => ⟨(ok.2.2.1 a ha).1, ?_⟩, ?_⟩
        · rcases (ok.2.2.1 a ha).2 with z | z
          · obtain ⟨d2, _, e2, h2⟩ := mem_mm.mp z
            exact (ok0'.2.2.1 a h2).2
          · exact .inr (oldB z)
        · have : v = (match σ[j]? with | some (some v) => v | _ => .non) := ok.2.2.2
          rw [ev0] at this
          rw [this]
          exact ok0'.2.2.2
      · obtain ⟨v, ev, ok⟩ := S1.ok j s (inB e)
        refine ⟨v, ev, ?_⟩
        rw [φ1 c]
        unfold SlotOk at ok ⊢
        rw [hm] at ok ⊢
        exact ok
      · obtain ⟨v, ev, ok⟩ := S1.ok j _ (inB e')
        have ev2 : v = (match σ[j]? with | some (some v) => v | _ => .non) := ok.2
        obtain ⟨v0, ev0, ok0⟩ := S.ok j s e
        rw [ev0] at ev2
        subst ev2
        refine ⟨v, ev, ?_⟩
        rw [φ2 hj c]
        have st := stay e c
        have mu : ∀ a ∈ φ j, Mut (H a) → Mut (H' a) := fun a ha z => by
          cases r : H a with
          | none => rw [r] at z; exact z.elim
          | some o => rw [st a ha o r]; rw [r] at z; exact z
        unfold SlotOk at ok0 ⊢
        split at ok0
        · exact ⟨rep_frame ok0.1 st tups, ok0.2.1, fun a ha => ⟨mu a ha (ok0.2.2 a ha).1, (ok0.2.2 a ha).2⟩⟩
        · exact ⟨rep_frame ok0.1 st tups, ok0.2.1, fun a ha => ⟨mu a ha (ok0.2.2.1 a ha).1, (ok0.2.2.1 a ha).2⟩, ok0.2.2.2⟩
        · exact rep_frame ok0 st tups
        · exact ⟨rep_frame ok0.1 st tups, ok0.2⟩
    · obtain ⟨v, ev, ok⟩ := S1.ok _ s (inR g)
      refine ⟨v, ev, ?_⟩
      rw [φ3]
      have hm := hre c s g
      unfold SlotOk at ok ⊢
      rw [hm] at ok ⊢
      exact ⟨ok.1, ok.2.1, fun a ha => ⟨(ok.2.2 a ha).1, oldB (ok.2.2 a ha).2⟩⟩
  · rcases cases_ i s q1 with ⟨hi, q1⟩ | ⟨c, rfl, g1⟩ <;> rcases cases_ j t q2 with ⟨hj, q2⟩ | ⟨c2, rfl, g2⟩
    · rcases class_ i s hi q1 with ⟨ci, ei, mi⟩ | ⟨ci, ei⟩ <;> rcases class_ j t hj q2 with ⟨cj, ej, mj⟩ | ⟨cj, ej⟩
      · rw [φ1 ci, φ1 cj]
        exact S1.excl i j s t n (inB ei) (inB ej) hx
      · rw [φ1 ci, φ2 hj cj]
        refine away ci ei ?_ ej cj
        rcases mi with z | z | ⟨z, _⟩
        · exact .inl z
        · exact .inr z
        · rw [z] at hx; cases hx
      · rw [φ2 hi ci, φ1 cj]
        rcases mj with z | z | ⟨z, im⟩
        · exact fun a ha hb => away cj ej (.inl z) ei ci a hb ha
        · exact fun a ha hb => away cj ej (.inr z) ei ci a hb ha
        · obtain ⟨v, _, ok⟩ := S1.ok j t (inB ej)
          rw [rep_imm ok.rep im]
          exact fun a _ hb => nomatch hb
      · rw [φ2 hi ci, φ2 hj cj]
        exact S.excl i j s t n ei ej hx
    · rcases class_ i s hi q1 with ⟨ci, ei, mi⟩ | ⟨ci, ei⟩
      · rw [φ1 ci, φ3]
        exact S1.excl i _ s t n (inB ei) (inR g2) hx
      · rw [φ2 hi ci, φ3]
        exact fun a ha hb => awayR g2 ei ci a hb ha
    · rcases class_ j t hj q2 with ⟨cj, ej, mj⟩ | ⟨cj, ej⟩
      · rw [φ1 cj, φ3]
        exact S1.excl _ j s t n (inR g1) (inB ej) hx
      · rw [φ2 hj cj, φ3]
        exact awayR g1 ej cj
    · rw [φ3, φ3]
      exact S1.excl _ _ s t n (inR g1) (inR g2) hx
  · have q4 : H a = some o := S.frame a o q1 q2 q3
    refine S1.frame a o q4 (fun hm => ?_) fun i hm => ?_
    · obtain ⟨k, d, ck, e, hk⟩ := mem_mo.mp hm
      obtain ⟨v, _, ok⟩ := S.ok k _ e
      have ok' : Rep B.K false B.C H d v (φ k) ∧ (φ k).Nodup ∧ ∀ a ∈ φ k, Mut (H a) ∧ OldO B a := ok
      rcases (ok'.2.2 a hk).2 with z | z
      · exact q2 z
      · rw [z] at q1; cases q1
    · obtain ⟨d, ck, e, hk⟩ := mem_mm.mp hm
      obtain ⟨v, _, ok⟩ := S.ok i _ e
      rcases ((ok.mk_ex rfl).2.2 a hk).2 with z | z | z
      · exact q3 i z
      · exact q2 z
      · rw [z] at q1; cases q1
end
end DL


set_option Elab.async false
set_option linter.all false
set_option maxRecDepth 100000
/-! The data layer, part 10: targets, what is walked, for. -/
namespace DL
open PySem PySem.Spec PyProof.Rows L2

abbrev TgD := D → Env → Option Env
abbrev TgsD := List D → Env → Option Env
/-- what is shared is none of what may be written -/
def Disj (env : Env) (φ : Nat → Fp) (fp : Fp) : Prop := ∀ (j : Nat) (s : Slot), env[j]? = some (some s) → s.m.ex = true → ∀ a ∈ φ j, a ∉ fp
def gD (B : Bs) (tv : List Nat) (tg : TgD) : TG := fun v σ H Q => ∃ τ te env φ d fp fp0 env', σ.length = env.length ∧ St B (σ ++ τ) H (env ++ te) φ ∧ Rep B.K true B.C H d v fp ∧ (∀ a ∈ fp, a ∈ fp0) ∧ Disj (env ++ te) φ fp0 ∧ tg d env = some env' ∧ ∀ σ' φ', St B (σ' ++ τ) H (env' ++ te) φ' → Disj (env' ++ te) φ' fp0 → env'.length = env.length → σ'.length = σ.length → (∀ vs : List Nat, (∀ i ∈ tv, i ∈ vs) → wipe σ' vs = wipe σ vs) → Q σ' H
def gsD (B : Bs) (tv : List Nat) (tg : TgsD) : TGs := fun vs σ H Q => ∃ τ te env φ ds fp fp0 env', σ.length = env.length ∧ St B (σ ++ τ) H (env ++ te) φ ∧ Reps B.K true B.C H ds vs fp ∧ (∀ a ∈ fp, a ∈ fp0) ∧ Disj (env ++ te) φ fp0 ∧ tg ds env = some env' ∧ ∀ σ' φ', St B (σ' ++ τ) H (env' ++ te) φ' → Disj (env' ++ te) φ' fp0 → env'.length = env.length → σ'.length = σ.length → (∀ vs : List Nat, (∀ i ∈ tv, i ∈ vs) → wipe σ' vs = wipe σ vs) → Q σ' H
structure DG (X : Cx) (e : Expr) (tv : List Nat) (tg : TgD) : Prop where
  pg : ∀ B : Bs, B.K = X.K → L2.PG X e (gD B tv tg)
structure DGs (X : Cx) (es : List Expr) (tv : List Nat) (tg : TgsD) : Prop where
  pg : ∀ B : Bs, B.K = X.K → PGs X es (gsD B tv tg)
theorem wipe_get {σ : L2.St} {i : Nat} : ∀ {vs : List Nat}, i < σ.length → (wipe σ vs)[i]? = some (if i ∈ vs then none else σ[i]?.join)
  | [], h => by
    show σ[i]? = _
    rw [List.getElem?_eq_getElem h]
    simp
  | v :: vs, h => by
    unfold wipe
    by_cases e : v = i
    · subst e
      rw [List.getElem?_set_self (by rw [wipe_length]; exact h)]
      simp
    · rw [List.getElem?_set_ne e, wipe_get h]
      have : (i ∈ v :: vs) ↔ i ∈ vs := by simp [Ne.symm e]
      simp [this]
theorem wipe_set {σ : L2.St} {i : Nat} {x : Option V} {vs : List Nat} (h : i ∈ vs) : wipe (σ.set i x) vs = wipe σ vs := by
  apply List.ext_getElem?
  intro j
  by_cases hj : j < σ.length
  · rw [wipe_get (by simpa using hj), wipe_get hj]
    by_cases e : j ∈ vs
    · simp [e]
    · have : i ≠ j := by rintro rfl; exact e h
      simp [e, List.getElem?_set_ne this]
  · rw [List.getElem?_eq_none (by rw [wipe_length]; simpa using hj), List.getElem?_eq_none (by rw [wipe_length]; omega)]
theorem _root_.L2.PG.imp {X : Cx} {e : Expr} {t t' : TG} (h : PG X e t) (k : ∀ v σ H Q, t' v σ H Q → t v σ H Q) : PG X e t' := ⟨fun pins s σ H v u Q I r q => h.run pins s σ H v u Q I r (k v σ H Q q)⟩
theorem _root_.L2.PGs.imp {X : Cx} {e : List Expr} {t t' : TGs} (h : PGs X e t) (k : ∀ v σ H Q, t' v σ H Q → t v σ H Q) : PGs X e t' := ⟨fun pins s σ H v u Q I r q => h.run pins s σ H v u Q I r (k v σ H Q q)⟩
def immM (d : D) : Md := if imm d = true then .own else .shr
def tgN (i : Nat) : TgD := fun d env => if canSet env i = true then some (env.set i (some ⟨immM d, d⟩)) else none
def tgNil : TgsD := fun ds env => match ds with
  | [] => some env
  | _ => none
def tgCons (t : TgD) (u : TgsD) : TgsD := fun ds env => match ds with
  | d :: r => (match t d env with
    | some env' => u r env'
    | none => none)
  | [] => none
def tgT (n : Nat) (u : TgsD) : TgD := fun d env => match d with
  | .tup l => if l.length = n then u l env else none
  | _ => none
section
variable {B : Bs} {σ : L2.St} {H : Hp} {env : Env} {φ : Nat → Fp}
theorem St.setShr {i : Nat} {d : D} {v : V} {fp : Fp} (S : St B σ H env φ) (r : Rep B.K true B.C H d v fp) (dj : Disj env φ fp) (hi : i < env.length) : St B (σ.set i (some v)) H (env.set i (some ⟨immM d, d⟩)) (fset φ i fp) := by
  have at_ : ∀ (j : Nat) (t : Slot), (env.set i (some ⟨immM d, d⟩))[j]? = some (some t) → (j ≠ i ∧ env[j]? = some (some t)) ∨ (j = i ∧ t = ⟨immM d, d⟩) := fun j t h => by
    by_cases e : j = i
    · subst e
      rw [List.getElem?_set_self hi] at h
      cases h
      exact .inr ⟨rfl, rfl⟩
    · rw [List.getElem?_set_ne (Ne.symm e)] at h
      exact .inl ⟨e, h⟩
  have im : imm d = true → fp = [] := rep_imm r
  refine ⟨by simp [S.len], fun j t h => ?_, fun j k t u n h1 h2 hx => ?_, S.frame, S.there⟩
  · rcases at_ j t h with ⟨n, h⟩ | ⟨e1, e2⟩
    · obtain ⟨w, q, ok⟩ := S.ok j t h
      refine ⟨w, by rw [List.getElem?_set_ne (Ne.symm n)]; exact q, ?_⟩
      rw [fset_ne n]
      exact ok
    · subst e1; subst e2
      refine ⟨v, by rw [List.getElem?_set_self (by rw [S.len]; exact hi)], ?_⟩
      rw [fset_same]
      unfold SlotOk immM
      by_cases c : imm d = true
      · simp only [c, if_true]
        rw [im c] at r ⊢
        exact ⟨rep_immK r c, .nil, fun a h => nomatch h⟩
      · simp only [c]
        exact r
  · rcases at_ j t h1 with ⟨n1, g1⟩ | ⟨e1, e1'⟩ <;> rcases at_ k u h2 with ⟨n2, g2⟩ | ⟨e2, e2'⟩
    · rw [fset_ne n1, fset_ne n2]
      exact S.excl j k t u n g1 g2 hx
    · subst e2
      rw [fset_ne n1, fset_same]
      exact dj j t g1 hx
    · subst e1; subst e1'
      rw [fset_ne n2, fset_same]
      have c : imm d = true := by
        by_cases c : imm d = true
        · exact c
        · unfold immM at hx
          rw [if_neg c] at hx
          cases hx
      rw [im c]
      exact fun a h => nomatch h
    · exact absurd (e1.trans e2.symm) n
theorem Disj.set {i : Nat} {d : D} {v : V} {fp fp0 : Fp} (r : Rep B.K true B.C H d v fp) (dj : Disj env φ fp0) (hi : i < env.length) : Disj (env.set i (some ⟨immM d, d⟩)) (fset φ i fp) fp0 := fun j s h hx => by
  by_cases e : j = i
  · subst e
    rw [List.getElem?_set_self hi] at h
    cases h
    rw [fset_same]
    have c : imm d = true := by
      by_cases c : imm d = true
      · exact c
      · unfold immM at hx
        rw [if_neg c] at hx
        cases hx
    rw [rep_imm r c]
    exact fun a h => nomatch h
  · rw [List.getElem?_set_ne (Ne.symm e)] at h
    rw [fset_ne e]
    exact dj j s h hx
theorem Disj.mono {fp fp0 : Fp} (dj : Disj env φ fp0) (h : ∀ a ∈ fp, a ∈ fp0) : Disj env φ fp := fun j s q hx a ha hb => dj j s q hx a ha (h a hb)
end
section
variable {X : Cx} {pos : Pos}
theorem dg_name {i : Nat} {x : Str} (hN : X.N.Nodup) (hi : X.N[i]? = some x) (hx : Loc X.env.scope x) (hf : X.fn x = true ∨ X.env.scope.names.lookup x = some .local := by first | exact .inl rfl | exact .inr rfl | assumption) : DG X (.Name x pos) [i] (tgN i) :=
  ⟨fun B hB => (pg_name hN hi hx hf).imp fun v σ H Q ⟨τ, te, env, φ, d, fp, fp0, env', hl, S, r, sub, dj, q, k⟩ => by
    unfold tgN at q
    split at q
    · rename_i c
      cases q
      have hi := canSet_lt c
      have hi2 : i < (env ++ te).length := by rw [List.length_append]; omega
      have S2 := S.setShr r (dj.mono sub) hi2
      have D2 := Disj.set (φ := φ) r dj hi2
      rw [List.set_append_left _ _ hi] at S2 D2
      rw [List.set_append_left _ _ (by omega)] at S2
      exact k _ _ S2 D2 (by simp) (by simp) fun vs h => wipe_set (h i (by simp))
    · cases q⟩
theorem dgs_nil : DGs X [] [] tgNil := ⟨fun B hB => pgs_nil.imp fun vs σ H Q ⟨τ, te, env, φ, ds, fp, fp0, env', hl, S, r, sub, dj, q, k⟩ => by
  unfold tgNil at q
  split at q
  · cases q
    unfold Reps at r
    exact ⟨r.1, k _ _ S dj rfl rfl fun _ _ => rfl⟩
  · cases q⟩
theorem dgs_cons {e : Expr} {es : List Expr} {t : TgD} {u : TgsD} {tv tw : List Nat} (h1 : DG X e tv t) (h2 : DGs X es tw u) (hs : (assignEach (e :: es) X.env).map (·.2) = assign e X.env :: (assignEach es X.env).map (·.2) := by rfl) : DGs X (e :: es) (tv ++ tw) (tgCons t u) :=
  ⟨fun B hB => (pgs_cons (h1.pg B hB) (h2.pg B hB) hs).imp fun vs σ H Q ⟨τ, te, env, φ, ds, fp, fp0, env', hl, S, r, sub, dj, q, k⟩ => by
    unfold tgCons at q
    split at q
    · rename_i d rest
      split at q
      · rename_i env1 q1
        unfold Reps at r
        obtain ⟨v, vs', f1, f2, rfl, rfl, r1, r2⟩ := r
        exact ⟨v, vs', rfl, τ, te, env, φ, d, f1, fp0, env1, hl, S, r1, fun a ha => sub a (List.mem_append_left _ ha), dj, q1, fun σ1 φ1 S1 dj1 l1 m1 w1 =>
          ⟨τ, te, env1, φ1, rest, f2, fp0, env', by omega, S1, r2, fun a ha => sub a (List.mem_append_right _ ha), dj1, q, fun σ2 φ2 S2 dj2 l2 m2 w2 => k σ2 φ2 S2 dj2 (l2.trans l1) (m2.trans m1) fun vs h => (w2 vs fun i hi => h i (List.mem_append_right _ hi)).trans (w1 vs fun i hi => h i (List.mem_append_left _ hi))⟩⟩
      · cases q
    · cases q⟩
theorem dg_tup {es : List Expr} {k n : Nat} {u : TgsD} {tv : List Nat} (hc : X.calm = true) (h : DGs X es tv u) (hn : (assignEach es X.env).length = n := by rfl) (hst : (assignEach es X.env).findIdx? (·.1) = none := by rfl) : DG X (.Tuple es k pos) tv (tgT n u) :=
  ⟨fun B hB => (pg_tup hc (h.pg B hB) hn hst).imp fun v σ H Q ⟨τ, te, env, φ, d, fp, fp0, env', hl, S, r, sub, dj, q, k⟩ => by
    unfold tgT at q
    split at q
    · rename_i l
      split at q
      · rename_i hll
        obtain ⟨a, vs, rfl, ht, hr⟩ := rep_tup.mp r
        exact ⟨a, vs, rfl, .inl (.inl ht), (reps_len hr).trans hll, τ, te, env, φ, l, fp, fp0, env', hl, S, hr, sub, dj, q, k⟩
      · cases q
    · cases q⟩

/-! ### what is walked -/
/-- the walk J gives the data ds, as long as what stands at fp stays -/
def ItOk (K : PySem.W.Frag) (C : Str → Addr) (H1 : Hp) (J : It) (ds : List D) (fp : Fp) : Prop :=
  (∀ a ∈ fp, H1 a ≠ none) ∧ ∀ H2 : Hp, (∀ a ∈ fp, ∀ o, H1 a = some o → H2 a = some o) → (∀ a xs, H1 a = some (.tup xs) → H2 a = some (.tup xs)) →
    (∀ (i : Nat) (d : D), ds[i]? = some d → J.go i H2 ∧ ∀ x H3, J.yld i H2 x H3 → Ex H2 H3 ∧ ∃ fx, Rep K true C H3 d x fx ∧ ∀ a ∈ fx, a ∈ fp) ∧ J.stop ds.length H2
def PIt (B : Bs) (f : Env → Option (List D)) : TI := fun σ H R => ∃ env φ ds, St B σ H env φ ∧ f env = some ds ∧ ∀ J H1 fp, Ex H H1 → Known H env φ fp → ItOk B.K B.C H1 J ds fp → R J H1
structure DI (X : Cx) (tg iter : Expr) (f : Env → Option (List D)) : Prop where
  pi : ∀ B : Bs, B.K = X.K → PI X tg iter (PIt B f)
theorem _root_.L2.PI.imp {tg iter : Expr} {t t' : TI} (h : PI X tg iter t) (k : ∀ σ H R, t' σ H R → t σ H R) : PI X tg iter t' := ⟨fun pins s σ H R I q => h.run pins s σ H R I (k σ H R q)⟩
end
section
variable {K : PySem.W.Frag} {C : Str → Addr} {H : Hp}
theorem reps_at : ∀ {l : List D} {vs : List V} {fs : Fp} {i : Nat} {d : D}, Reps K true C H l vs fs → l[i]? = some d → ∃ v fx, vs[i]? = some v ∧ Rep K true C H d v fx ∧ ∀ a ∈ fx, a ∈ fs := fun {l vs fs i d} h e => by
  obtain ⟨v, fa, f, fb, ev, rfl, r, _⟩ := reps_split h e
  exact ⟨v, f, ev, r, fun a ha => by simp [ha]⟩
theorem sql_keep {a : Addr} {vs : List V} {fs fp : Fp} {H2 : Hp} (h : (Rd H a (.lst vs) ∧ fp = a :: fs) ∨ (true = true ∧ KL K a vs ∧ fp = fs)) (k : ∀ a ∈ fp, ∀ o, H a = some o → H2 a = some o) : SqL K H2 a vs := by
  rcases h with ⟨hl, rfl⟩ | ⟨_, hl, rfl⟩
  · rcases hl with q | ⟨o, q⟩
    · exact .inl (.inl (k a List.mem_cons_self _ q))
    · exact .inl (.inr ⟨o, k a List.mem_cons_self _ q⟩)
  · exact .inr hl
/-- a list -/
theorem itok_list {a : Addr} {l : List D} {vs : List V} {fs fp : Fp} (hr : Reps K true C H l vs fs) (h : (Rd H a (.lst vs) ∧ fp = a :: fs) ∨ (true = true ∧ KL K a vs ∧ fp = fs)) : ItOk K C H (Itl K a) l fp := by
  have sub : ∀ x ∈ fs, x ∈ fp := by
    rcases h with ⟨_, rfl⟩ | ⟨_, _, rfl⟩
    · exact fun x hx => List.mem_cons_of_mem _ hx
    · exact fun x hx => hx
  have inn : ∀ x ∈ fp, H x ≠ none := by
    intro x hx
    have r : Rep K true C H (.lst l) (.ref a) fp := rep_lst.mpr ⟨a, vs, fs, rfl, hr, h⟩
    exact rep_in r x hx
  refine ⟨inn, fun H2 k t => ⟨fun i d e => ?_, ?_⟩⟩
  · obtain ⟨v, fx, ev, r, sx⟩ := reps_at hr e
    have hq := sql_keep h k
    refine ⟨⟨vs, v, hq, ev⟩, fun x H3 y => ?_⟩
    obtain ⟨rfl, hy⟩ := y
    have := hy vs hq
    rw [ev] at this
    cases this
    exact ⟨Evl.Ex.refl _, fx, rep_frame r (fun b hb => k b (sub b (sx b hb))) t, fun b hb => sub b (sx b hb)⟩
  · exact ⟨vs, sql_keep h k, by rw [reps_len hr]; exact Nat.le_refl _⟩
theorem itok_tup {a : Addr} {l : List D} {vs : List V} {fp : Fp} (hr : Reps K true C H l vs fp) (h : H a = some (.tup vs)) : ItOk K C H (Itt K a) l fp := by
  refine ⟨fun x hx => reps_in hr x hx, fun H2 k t => ?_⟩
  have hq : SqT K H2 a vs := .inl (.inl (t _ _ h))
  refine ⟨fun i d e => ?_, vs, hq, by rw [reps_len hr]; exact Nat.le_refl _⟩
  obtain ⟨v, fx, ev, r, sx⟩ := reps_at hr e
  refine ⟨⟨vs, v, hq, ev⟩, fun x H3 y => ?_⟩
  obtain ⟨rfl, hy⟩ := y
  have := hy vs hq
  rw [ev] at this
  cases this
  exact ⟨Evl.Ex.refl _, fx, rep_frame r (fun b hb => k b (sx b hb)) t, sx⟩
/-- lo, lo + 1, .. -/
def rangeD (lo : Int) (n : Nat) : List D := (List.range n).map fun (i : Nat) => .int (lo + (i : Int))
theorem itok_range {lo : Int} {n : Nat} : ItOk K C H (Itr lo n) (rangeD lo n) [] := by
  refine ⟨(fun a h => nomatch h), fun H2 k t => ⟨fun i d e => ?_, ?_⟩⟩
  · unfold rangeD at e
    rw [List.getElem?_map] at e
    cases q : (List.range n)[i]? with
    | none => rw [q] at e; cases e
    | some j =>
      rw [q] at e
      cases e
      obtain ⟨h1, h2⟩ := List.getElem?_eq_some_iff.mp q
      rw [List.getElem_range] at h2
      subst h2
      rw [List.length_range] at h1
      refine ⟨h1, fun x H3 y => ?_⟩
      obtain ⟨rfl, rfl⟩ := y
      exact ⟨Evl.Ex.refl _, [], fin_int, fun a h => nomatch h⟩
  · show n ≤ _
    unfold rangeD
    simp
end
section
variable {X : Cx} {tg e : Expr} {pos p : Pos}
def asL (f : DF) : Env → Option (List D) := fun env => match f env with
  | some (.lst l) => some l
  | _ => none
def asT (f : DF) : Env → Option (List D) := fun env => match f env with
  | some (.tup l) => some l
  | _ => none
theorem di_list {f : DF} (h : DP X e f) : DI X tg e (asL f) := ⟨fun B hB => (pi_list (h.pe B hB)).imp fun σ H R ⟨env, φ, ds, S, q, k⟩ => by
  unfold asL at q
  split at q
  · rename_i l q1
    cases q
    refine ⟨env, φ, _, S, q1, fun v H1 fp e1 r1 k1 => ?_⟩
    obtain ⟨a, vs, fs, rfl, hr, hc⟩ := rep_lst.mp r1
    have hq : SqL X.K H1 a vs := by
      rw [← hB]
      rcases hc with ⟨z, _⟩ | ⟨_, z, _⟩
      · exact .inl z
      · exact .inr z
    refine ⟨a, rfl, ⟨vs, hq⟩, ?_⟩
    rw [← hB]
    exact k _ H1 fp e1 k1 (itok_list hr hc)
  · cases q⟩
theorem di_tup {f : DF} (h : DP X e f) : DI X tg e (asT f) := ⟨fun B hB => (pi_tup (h.pe B hB)).imp fun σ H R ⟨env, φ, ds, S, q, k⟩ => by
  unfold asT at q
  split at q
  · rename_i l q1
    cases q
    refine ⟨env, φ, _, S, q1, fun v H1 fp e1 r1 k1 => ?_⟩
    obtain ⟨a, vs, rfl, ht, hr⟩ := rep_tup.mp r1
    refine ⟨a, rfl, ⟨vs, .inl (.inl ht)⟩, ?_⟩
    rw [← hB]
    exact k _ H1 fp e1 k1 (itok_tup hr ht)
  · cases q⟩
def asR1 (f : Env → Option (List D)) : Env → Option (List D) := fun env => match f env with
  | some [.int n] => if n ≤ (LIM : Int) ∧ -(LIM : Int) ≤ n then some (rangeD 0 n.toNat) else none
  | _ => none
def asR2 (f : Env → Option (List D)) : Env → Option (List D) := fun env => match f env with
  | some [.int m, .int n] => if n ≤ (LIM : Int) ∧ -(LIM : Int) ≤ n ∧ m ≤ (LIM : Int) ∧ -(LIM : Int) ≤ m then some (rangeD m (n - m).toNat) else none
  | _ => none
theorem limI : (LIM : Int) = 1000000 := rfl
theorem di_range1 {f : Env → Option (List D)} (hg : Gl X "range") (hm : X.mg "range" = none) (h : DA X [e] f) (hs : starEach [e] X.env = [(false, eval e X.env)] := by rfl) : DI X tg (.Call (.Name "range" p) [e] [] pos) (asR1 f) :=
  ⟨fun B hB => (pi_range1 hg hm (h.pa B hB) hs).imp fun σ H R ⟨env, φ, ds, S, q, k⟩ => by
    unfold asR1 at q
    split at q
    · rename_i n q1
      split at q
      · rename_i hn
        cases q
        refine ⟨env, φ, _, S, q1, fun vs H1 fps e1 r1 k1 => ?_⟩
        unfold Reps at r1
        obtain ⟨v, vs', f1, f2, rfl, rfl, h1, h2⟩ := r1
        unfold Reps at h2
        obtain ⟨rfl, rfl⟩ := h2
        obtain ⟨rfl, rfl⟩ := rep_int.mp h1
        rw [limI] at hn
        exact ⟨n, rfl, by omega, by omega, k _ H1 [] e1 (fun a h => nomatch h) itok_range⟩
      · cases q
    · cases q⟩
theorem di_range2 {a b : Expr} {f : Env → Option (List D)} (hg : Gl X "range") (hm : X.mg "range" = none) (h : DA X [a, b] f) (hs : starEach [a, b] X.env = [(false, eval a X.env), (false, eval b X.env)] := by rfl) (hs2 : starEach [b] X.env = [(false, eval b X.env)] := by rfl) : DI X tg (.Call (.Name "range" p) [a, b] [] pos) (asR2 f) :=
  ⟨fun B hB => (pi_range2 hg hm (h.pa B hB) hs hs2).imp fun σ H R ⟨env, φ, ds, S, q, k⟩ => by
    unfold asR2 at q
    split at q
    · rename_i m n q1
      split at q
      · rename_i hn
        cases q
        refine ⟨env, φ, _, S, q1, fun vs H1 fps e1 r1 k1 => ?_⟩
        unfold Reps at r1
        obtain ⟨v, vs', f1, f2, rfl, rfl, h1, h2⟩ := r1
        unfold Reps at h2
        obtain ⟨v2, vs2, f3, f4, rfl, rfl, h3, h4⟩ := h2
        unfold Reps at h4
        obtain ⟨rfl, rfl⟩ := h4
        obtain ⟨rfl, rfl⟩ := rep_int.mp h1
        obtain ⟨rfl, rfl⟩ := rep_int.mp h3
        rw [limI] at hn
        exact ⟨m, n, rfl, ⟨by omega, by omega, by omega, by omega⟩, k _ H1 [] e1 (fun a h => nomatch h) itok_range⟩
      · cases q
    · cases q⟩
end
end DL


set_option Elab.async false
set_option linter.all false
set_option maxRecDepth 100000
/-! The data layer, part 11: for. -/
namespace DL
open PySem PySem.Spec PyProof.Rows L2

/-- the state without what the body may change (but for what is never written) -/
def clrS (c : Bool) : Option Slot → Option Slot
  | some s => if c = true then (if imm s.d = true then some s else none) else some s
  | none => none
def clr (ch : Nat → Bool) (env : Env) : Env := env.mapIdx fun j s => clrS (ch j) s
def sLoop (tg : TgD) (g : SF) : List D → Env → Option O
  | [], env => some (.nx env)
  | d :: ds, env => match tg d env with
    | some env1 => (match g env1 with
      | some (.nx e) => if e.length = env.length then sLoop tg g ds e else none
      | some (.ct e) => if e.length = env.length then sLoop tg g ds e else none
      | some (.bk e) => some (.nx e)
      | o => o)
    | none => none
def thawO (ch : Nat → Bool) (env : Env) : Option O → Option O
  | some (.nx e) => if e.length = env.length then some (.nx (thaw ch env e)) else none
  | some (.rt d e) => if e.length = env.length then some (.rt d (thaw ch env e)) else none
  | some (.exc c e) => if e.length = env.length then some (.exc c (thaw ch env e)) else none
  | _ => none
def sFor (ch : Nat → Bool) (f : Env → Option (List D)) (tg : TgD) (g : SF) : SF := fun env => match f (clr ch env) with
  | some ds => thawO ch env (sLoop tg g ds (frz ch env))
  | none => none
section
variable {B : Bs} {σ : L2.St} {H H1 : Hp} {env : Env} {φ : Nat → Fp} {ch : Nat → Bool} {fp : Fp}
theorem clr_get {j : Nat} {s : Slot} (h : (clr ch env)[j]? = some (some s)) : env[j]? = some (some s) ∧ (ch j = false ∨ imm s.d = true) := by
  unfold clr at h
  rw [List.getElem?_mapIdx] at h
  cases e : env[j]? with
  | none => rw [e] at h; cases h
  | some x =>
    rw [e] at h
    simp only [Option.map_some, Option.some.injEq] at h
    unfold clrS at h
    split at h
    · split at h
      · split at h
        · cases h; exact ⟨rfl, .inr (by assumption)⟩
        · cases h
      · rename_i c
        cases h
        exact ⟨rfl, .inl (by simpa using c)⟩
    · cases h
theorem St.clr (S : St B σ H env φ) : St B σ H (clr ch env) φ where
  len := by unfold DL.clr; rw [List.length_mapIdx]; exact S.len
  ok := fun j s h => S.ok j s (clr_get h).1
  excl := fun i j s t n h1 h2 => S.excl i j s t n (clr_get h1).1 (clr_get h2).1
  frame := S.frame
  there := S.there
/-- what is walked is none of what the body may change -/
theorem apart_of (S : St B σ H env φ) (e : Ex H H1) (k : Known H (DL.clr ch env) φ fp) : ∀ a ∈ fp, a ∉ moOf ch env φ ∧ ∀ i, a ∉ mmOf ch env φ i := fun a ha => by
  rcases k a ha with n | ⟨j, s, q, hj⟩
  · refine ⟨fun hm => ?_, fun i hm => ?_⟩
    · obtain ⟨k, d, ck, e, hk⟩ := mem_mo.mp hm
      exact S.in e a hk n
    · obtain ⟨d, ck, e, hk⟩ := mem_mm.mp hm
      exact S.in e a hk n
  · obtain ⟨q1, q2⟩ := clr_get q
    rcases q2 with c | im
    · refine ⟨fun hm => ?_, fun i hm => ?_⟩
      · obtain ⟨k, d, ck, e, hk⟩ := mem_mo.mp hm
        exact S.excl k j _ s (by rintro rfl; rw [c] at ck; cases ck) e q1 rfl a hk hj
      · obtain ⟨d, ck, e, hk⟩ := mem_mm.mp hm
        exact S.excl i j _ s (by rintro rfl; rw [c] at ck; cases ck) e q1 rfl a hk hj
    · obtain ⟨v, _, r⟩ := S.get q1
      rw [rep_imm r im] at hj
      cases hj
end
section
variable {X : Cx} {W : WX} {tg iter : Expr} {body : List Stmt} {pos : Pos} {t : TgD} {g : SF} {f : Env → Option (List D)}
theorem DG.any {tv : List Nat} (h : DG X tg tv t) : L2.PG X tg (fun v σ H Q => ∃ B : Bs, B.K = X.K ∧ gD B tv t v σ H Q) := ⟨fun pins s σ H v u Q I r ⟨B, hB, q⟩ => (h.pg B hB).run pins s σ H v u Q I r q⟩
theorem DSs.any (h : DSs X W body g) : PSs X body (fun D σ H => ∃ B : Bs, B.K = X.K ∧ PSD B W g D σ H) := ⟨fun pins s σ H D I ⟨B, hB, q⟩ => (h.ps B hB).run pins s σ H D I q⟩
theorem ds_for {tv : List Nat} (ch : Nat → Bool) (hp : PassesOwn (model X.prog X.w) X.A X.env X.xe) (hc : X.calm = true) (hi : DI X tg iter f) (hg : DG X tg tv t) (hb : DSs X W body g) (hs : ∀ x, foldedSetIterable iter X.env x = pure x := by intro _; rfl) :
    DS X W (.For tg iter body [] pos) (sFor ch f t g) := ⟨fun B hB => (ps_for hp hc (hi.pi B hB) hg.any hb.any hs).imp fun D σ H ⟨env, φ, o, S, q, k⟩ => by
  unfold sFor at q
  split at q
  · rename_i ds hds
    refine ⟨DL.clr ch env, φ, ds, S.clr, hds, fun J H1 fp e1 k1 it => ?_⟩
    have S1 := S.ex e1
    have ap := apart_of S e1 k1
    -- the base of the body
    let B1 := loopB B σ H1 env φ ch
    have keep : ∀ {σ' : L2.St} {H' : Hp} {env' : Env} {φ' : Nat → Fp}, St B1 σ' H' env' φ' → ∀ a ∈ fp, ∀ o, H1 a = some o → H' a = some o := fun S' a ha o ho => S'.frame a o ho (ap a ha).1 (ap a ha).2
    have nMo : ∀ a, Mut (H1 a) ∨ (a ∉ moOf ch env φ ∧ ∀ i, a ∉ mmOf ch env φ i) := fun a => by
      by_cases h : (a ∉ moOf ch env φ ∧ ∀ i, a ∉ mmOf ch env φ i)
      · exact .inr h
      · left
        by_cases h1 : a ∈ moOf ch env φ
        · obtain ⟨k, d, ck, e, hk⟩ := mem_mo.mp h1
          obtain ⟨v, _, ok⟩ := S1.ok k _ e
          exact ((ok.mk_ex rfl).2.2 a hk).1
        · obtain ⟨i, hi'⟩ : ∃ i, a ∈ mmOf ch env φ i := Classical.byContradiction fun z => h ⟨h1, fun i hm => z ⟨i, hm⟩⟩
          obtain ⟨d, ck, e, hk⟩ := mem_mm.mp hi'
          obtain ⟨v, _, ok⟩ := S1.ok i _ e
          exact ((ok.mk_ex rfl).2.2 a hk).1
    have tups : ∀ {σ' : L2.St} {H' : Hp} {env' : Env} {φ' : Nat → Fp}, St B1 σ' H' env' φ' → ∀ a xs, H1 a = some (.tup xs) → H' a = some (.tup xs) := fun S' a xs q => by
      have n : a ∉ moOf ch env φ ∧ ∀ i, a ∉ mmOf ch env φ i := by
        rcases nMo a with z | z
        · rw [q] at z; exact z.elim
        · exact z
      exact S'.frame a _ q n.1 n.2
    -- what is left of the walk
    refine ⟨fun i m σ' H' => m = ds.length - i ∧ i ≤ ds.length ∧ ∃ env' φ', St B1 σ' H' env' φ' ∧ env'.length = env.length ∧ thawO ch env (sLoop t g (ds.drop i) env') = some o, ⟨ds.length, by simp, Nat.zero_le _, frz ch env, φ, S1.freeze, frz_len, by simpa using q⟩, ?_⟩
    rintro i m σ' H' ⟨rfl, hi', env', φ', S', hl', q'⟩
    have itk := it.2 H' (keep S') (tups S')
    by_cases hlt : i < ds.length
    · right
      have hd : ds[i]? = some ds[i] := List.getElem?_eq_getElem hlt
      obtain ⟨go, yl⟩ := itk.1 i _ hd
      have hdr : ds.drop i = ds[i] :: ds.drop (i + 1) := List.drop_eq_getElem_cons hlt
      rw [hdr] at q'
      unfold sLoop at q'
      refine ⟨go, fun σ2 H2 => ∃ env2 φ2, St B1 σ2 H2 env2 φ2 ∧ env2.length = env.length ∧ thawO ch env (sLoop t g (ds.drop (i + 1)) env2) = some o, fun σ2 H2 ⟨env2, φ2, w⟩ => ⟨ds.length - (i + 1), by omega, rfl, hlt, env2, φ2, w⟩, fun x H3 y => ?_⟩
      obtain ⟨e3, fx, rx, sx⟩ := yl x H3 y
      have S3 := S'.ex e3
      split at q'
      · rename_i env1 ht
        have dj : Disj env' φ' fp := fun j s hs hx a ha hb => by
          obtain ⟨v, _, ok⟩ := S'.ok j s hs
          rcases ((ok.mk_ex hx).2.2 a ha).2 with z | z | z
          · exact (ap a hb).2 j z
          · exact (ap a hb).1 z
          · exact it.1 a hb z
        refine ⟨B1, hB, [], [], env', φ', ds[i], fx, fp, env1, S'.len, by simpa using S3, rx, sx, by simpa using dj, ht, fun σ4 φ4 S4 _ l4 _ _ => ?_⟩
        rw [List.append_nil, List.append_nil] at S4
        split at q'
        · rename_i e eg
          split at q'
          · rename_i hle
            exact ⟨B1, hB, env1, φ4, _, S4, eg, fun σ5 H5 φ5 S5 => ⟨e, φ5, S5, hle.trans hl', q'⟩⟩
          · cases q'
        · rename_i e eg
          split at q'
          · rename_i hle
            exact ⟨B1, hB, env1, φ4, _, S4, eg, fun σ5 H5 φ5 S5 => ⟨e, φ5, S5, hle.trans hl', q'⟩⟩
          · cases q'
        · rename_i e eg
          unfold thawO at q'
          simp only at q'
          split at q'
          · rename_i hle
            cases q'
            refine ⟨B1, hB, env1, φ4, _, S4, eg, fun σ5 H5 φ5 S5 => ?_⟩
            obtain ⟨φ6, S6⟩ := St.thaw (rv := []) (re := []) S1 (by simpa using S5) S5.len hle (fun k s q => by simp at q)
            exact k σ5 H5 φ6 (by simpa using S6)
          · cases q'
        · rename_i z1 z2 z3
          cases eg : g env1 with
          | none => rw [eg] at q'; cases q'
          | some o2 =>
            rw [eg] at q'
            cases o2 with
            | nx e => exact absurd eg (z1 e)
            | ct e => exact absurd eg (z2 e)
            | bk e => exact absurd eg (z3 e)
            | rt d e =>
              unfold thawO at q'
              simp only at q'
              split at q'
              · rename_i hle
                cases q'
                refine ⟨B1, hB, env1, φ4, _, S4, eg, fun v σ5 H5 φ5 S5 => ?_⟩
                have hl5 : σ5.length = e.length := by have := S5.len; simp at this; exact this
                obtain ⟨φ6, S6⟩ := St.thaw (rv := [some v]) (re := [some ⟨.own, d⟩]) S1 S5 hl5 hle (fun k s q => by
                  cases k with
                  | zero => simp at q; rw [← q]
                  | succ k => simp at q)
                exact k v σ5 H5 φ6 S6
              · cases q'
            | exc c e =>
              unfold thawO at q'
              simp only at q'
              split at q'
              · rename_i hle
                cases q'
                refine ⟨B1, hB, env1, φ4, _, S4, eg, fun σ5 H5 φ5 S5 => ?_⟩
                obtain ⟨φ6, S6⟩ := St.thaw (rv := []) (re := []) S1 (by simpa using S5) S5.len hle (fun k s q => by simp at q)
                exact k σ5 H5 φ6 (by simpa using S6)
              · cases q'
      · cases q'
    · left
      have e : i = ds.length := by omega
      subst e
      refine ⟨itk.2, ?_⟩
      rw [List.drop_length] at q'
      have e2 : thawO ch env (sLoop t g [] env') = some (.nx (DL.thaw ch env env')) := if_pos hl'
      rw [e2] at q'
      cases q'
      obtain ⟨φ6, S6⟩ := St.thaw (rv := []) (re := []) S1 (by simpa using S') S'.len hl' (fun k s q => by simp at q)
      exact k σ' H' φ6 (by simpa using S6)
  · cases q⟩
end
end DL


set_option Elab.async false
set_option linter.all false
set_option maxRecDepth 100000
/-! The data layer, part 12: items, slices, displays, built-ins. -/
namespace DL
open PySem PySem.Spec PyProof.Rows L2

/-! ### items -/
def gIx : D → D → Option D
  | .lst l, .int i => atI l i
  | .tup l, .int i => atI l i
  | .str s, .int i => if s.length ≤ LIM then (match atI s.cps.toList i with
    | some c => some (.str ⟨#[c]⟩)
    | none => none) else none
  | _, _ => none
section
variable {K : PySem.W.Frag} {C : Str → Addr} {H : Hp}
theorem atI_rep {l : List D} {vs : List V} {fs : Fp} {i : Int} {d : D} (h : Reps K true C H l vs fs) (e : atI l i = some d) : ∃ v fx, atI vs i = some v ∧ Rep K true C H d v fx ∧ ∀ a ∈ fx, a ∈ fs := by
  unfold atI at e ⊢
  rw [reps_len h]
  cases q : ixN l.length i with
  | none => rw [q] at e; cases e
  | some j =>
    rw [q] at e
    obtain ⟨v, fx, ev, r, sub⟩ := reps_at h e
    exact ⟨v, fx, ev, r, sub⟩
theorem o_ix : Op2P K (rIx K) gIx := by
  intro CC H x y d u v fu fv Q hx hy hg k
  unfold gIx at hg
  split at hg
  · rename_i l i
    obtain ⟨a, vs, fs, rfl, hl, hr, sub⟩ := rep_sql hx
    obtain ⟨rfl, _⟩ := rep_int.mp hy
    obtain ⟨w, fx, ew, r, s2⟩ := atI_rep hr hg
    exact .inl ⟨a, vs, i, w, rfl, rfl, hl, ew, k w H fx (Evl.Ex.refl H) r fun z hz => .inr (.inl (sub z (s2 z hz)))⟩
  · rename_i l i
    obtain ⟨a, vs, rfl, ht, hr⟩ := rep_tup.mp hx
    obtain ⟨rfl, _⟩ := rep_int.mp hy
    obtain ⟨w, fx, ew, r, s2⟩ := atI_rep hr hg
    exact .inr (.inl ⟨a, vs, i, w, rfl, rfl, .inl (.inl ht), ew, k w H fx (Evl.Ex.refl H) r fun z hz => .inr (.inl (s2 z hz))⟩)
  · rename_i s i
    split at hg
    · rename_i hl
      split at hg
      · rename_i c ec
        cases hg
        obtain ⟨rfl, _⟩ := rep_str.mp hx
        obtain ⟨rfl, _⟩ := rep_int.mp hy
        exact .inr (.inr ⟨s, i, c, rfl, rfl, lim_le hl, ec, k _ H [] (Evl.Ex.refl H) fin_str fun a h => nomatch h⟩)
      · cases hg
    · cases hg
  · cases hg
end
section
variable {X : Cx} {W : WX} {a b e : Expr} {es : List Expr} {fa fb : DF} {pos p : Pos}
theorem dp_ix (ha : DP X a fa) (hb : DP X b fb) (hs : PlainIx b := by exact fun _ _ => rfl) : DP X (.Subscript a b pos) (f2 gIx fa fb) := op2_p o_ix ha hb fun _ _ pa pb => pe_ix ix_seq pa pb hs

/-! ### displays -/
def fTup (g : Env → Option (List D)) : DF := fun env => match g env with
  | some ds => if ds.length ≤ LIM then some (.tup ds) else none
  | none => none
def fLst (g : Env → Option (List D)) : DF := fun env => match g env with
  | some ds => if ds.length ≤ LIM then some (.lst ds) else none
  | none => none
theorem dp_tup {k : Nat} {g : Env → Option (List D)} (h : DA X es g) : DP X (.Tuple es k pos) (fTup g) := ⟨fun B hB => (pe_tup (h.pa B hB)).imp fun σ H Q ⟨env, φ, d, S, q, k⟩ => by
  unfold fTup at q
  split at q
  · rename_i ds q1
    split at q
    · rename_i hl
      cases q
      refine ⟨env, φ, ds, S, q1, fun vs H1 fps e1 r1 k1 => ⟨by rw [reps_len r1]; exact lim_le hl, fun p hp => ?_⟩⟩
      exact k _ _ fps (e1.trans (Evl.Ex.new hp)) (rep_newT r1 hp) k1
    · cases q
  · cases q⟩
theorem dp_lst {g : Env → Option (List D)} (h : DA X es g) : DP X (.List es pos) (fLst g) := ⟨fun B hB => (pe_lst (h.pa B hB)).imp fun σ H Q ⟨env, φ, d, S, q, k⟩ => by
  unfold fLst at q
  split at q
  · rename_i ds q1
    split at q
    · rename_i hl
      cases q
      refine ⟨env, φ, ds, S, q1, fun vs H1 fps e1 r1 k1 => ⟨by rw [reps_len r1]; exact lim_le hl, fun p hp => ?_⟩⟩
      refine k _ _ (p :: fps) (e1.trans (Evl.Ex.new hp)) (rep_lst.mpr ⟨p, vs, fps, rfl, reps_ex r1 (Evl.Ex.new hp), .inl ⟨.inl upd_same, rfl⟩⟩) fun a ha => ?_
      rcases List.mem_cons.mp ha with rfl | ha
      · exact .inl (fresh_back e1 hp)
      · exact k1 a ha
    · cases q
  · cases q⟩
/-- of what is never written: new -/
def fLstI (g : Env → Option (List D)) : DF := fun env => match g env with
  | some ds => if ds.length ≤ LIM ∧ imms ds = true then some (.lst ds) else none
  | none => none
theorem dn_lst {g : Env → Option (List D)} (h : DA X es g) : DN X (.List es pos) (fLstI g) := ⟨fun B hB => (pe_lst (h.pa B hB)).imp fun σ H Q ⟨env, φ, d, S, q, k⟩ => by
  unfold fLstI at q
  split at q
  · rename_i ds q1
    split at q
    · rename_i hl
      cases q
      refine ⟨env, φ, ds, S, q1, fun vs H1 fps e1 r1 k1 => ⟨by rw [reps_len r1]; exact lim_le hl.1, fun p hp => ?_⟩⟩
      have r2 := reps_immK r1 hl.2
      rw [reps_imm r1 hl.2] at r2
      exact k _ _ [p] (e1.trans (Evl.Ex.new hp)) (rep_newL r2 hp) ((new_one hp).ex e1)
    · cases q
  · cases q⟩

/-! ### slices -/
structure DPO (X : Cx) (e : Option Expr) (f : Env → Option (Option Int)) : Prop where
  po : ∀ B : Bs, B.K = X.K → PO X e (fun σ H Q => ∃ env φ o, St B σ H env φ ∧ f env = some o ∧ ∀ H', Ex H H' → Q o H')
theorem _root_.L2.PO.imp {e : Option Expr} {t t' : TO} (h : PO X e t) (k : ∀ σ H Q, t' σ H Q → t σ H Q) : PO X e t' := ⟨fun pins s σ H Q I q => h.run pins s σ H Q I (k σ H Q q)⟩
def oNone : Env → Option (Option Int) := fun _ => some none
def oSome (f : DF) : Env → Option (Option Int) := fun env => match f env with
  | some (.int i) => some (some i)
  | _ => none
theorem dpo_none : DPO X none oNone := ⟨fun B hB => po_none.imp fun σ H Q ⟨env, φ, o, S, q, k⟩ => by cases q; exact k H (Evl.Ex.refl H)⟩
theorem dpo_some (h : DP X e fa) : DPO X (some e) (oSome fa) := ⟨fun B hB => (po_some (h.pe B hB)).imp fun σ H Q ⟨env, φ, o, S, q, k⟩ => by
  unfold oSome at q
  split at q
  · rename_i i q1
    cases q
    exact ⟨env, φ, _, S, q1, fun v H1 fp e1 r1 _ => ⟨i, (rep_int.mp r1).1, k H1 e1⟩⟩
  · cases q⟩
/-- the items of a cut -/
def cutD (l : List D) (lo hi : Option Int) : List D := (l.drop (HT.sIx l.length 0 lo)).take (HT.sIx l.length l.length hi - HT.sIx l.length 0 lo)
def cutStr (s : Str) (lo hi : Option Int) : Str := ⟨((s.cps.toList.drop (HT.sIx s.cps.size 0 lo)).take (HT.sIx s.cps.size s.cps.size hi - HT.sIx s.cps.size 0 lo)).toArray⟩
theorem reps_drop {K : PySem.W.Frag} {kl : Bool} {C : Str → Addr} {H : Hp} : ∀ (n : Nat) {l : List D} {vs : List V} {fs : Fp}, Reps K kl C H l vs fs → imms l = true → Reps K kl C H (l.drop n) (vs.drop n) [] ∧ imms (l.drop n) = true
  | 0, l, vs, fs, h, c => by rw [reps_imm h c] at h; exact ⟨h, c⟩
  | n + 1, [], vs, fs, h, c => by unfold Reps at h; obtain ⟨rfl, rfl⟩ := h; exact ⟨reps_nil, rfl⟩
  | n + 1, d :: l, vs, fs, h, c => by
    unfold Reps at h
    unfold imms at c
    obtain ⟨v, vs', f1, f2, rfl, rfl, h1, h2⟩ := h
    exact reps_drop n h2 (Bool.and_eq_true_iff.mp c).2
theorem reps_take {K : PySem.W.Frag} {kl : Bool} {C : Str → Addr} {H : Hp} : ∀ (n : Nat) {l : List D} {vs : List V} {fs : Fp}, Reps K kl C H l vs fs → imms l = true → Reps K kl C H (l.take n) (vs.take n) [] ∧ imms (l.take n) = true
  | 0, l, vs, fs, h, c => ⟨by rw [List.take_zero, List.take_zero]; exact reps_nil, rfl⟩
  | n + 1, [], vs, fs, h, c => by unfold Reps at h; obtain ⟨rfl, rfl⟩ := h; exact ⟨reps_nil, rfl⟩
  | n + 1, d :: l, vs, fs, h, c => by
    unfold Reps at h
    unfold imms at c
    obtain ⟨v, vs', f1, f2, rfl, rfl, h1, h2⟩ := h
    have c' := Bool.and_eq_true_iff.mp c
    obtain ⟨r, i⟩ := reps_take n h2 c'.2
    rw [rep_imm h1 c'.1] at h1
    exact ⟨⟨v, _, [], [], rfl, rfl, h1, r⟩, by show imms (d :: _) = true; unfold imms; rw [c'.1, i]; rfl⟩
def gSl (x : D) (lo hi : Option Int) : Option D := match x with
  | .lst l => if imms l = true then some (.lst (cutD l lo hi)) else none
  | _ => none
def fSl (f : DF) (l h : Env → Option (Option Int)) : DF := fun env => match f env, l env, h env with
  | some x, some lo, some hi => gSl x lo hi
  | _, _, _ => none
theorem dn_slice {lo hi : Option Expr} {l h : Env → Option (Option Int)} {p2 : Pos} (ha : DP X a fa) (hl : DPO X lo l) (hh : DPO X hi h) : DN X (.Subscript a (.Slice lo hi none p2) pos) (fSl fa l h) :=
  ⟨fun B hB => (pe_slice sl_list (ha.pe B hB) (hl.po B hB) (hh.po B hB)).imp fun σ H Q ⟨env, φ, d, S, q, k⟩ => by
    unfold fSl at q
    split at q
    · rename_i x lo hi q1 q2 q3
      unfold gSl at q
      split at q
      · rename_i l0
        split at q
        · rename_i c
          cases q
          refine ⟨env, φ, _, S, q1, fun v H1 fp e1 r1 k1 => ⟨env, φ, lo, S.ex e1, q2, fun H2 e2 => ⟨env, φ, hi, S.ex (e1.trans e2), q3, fun H3 e3 => ?_⟩⟩⟩
          obtain ⟨ad, vs, fs, rfl, hq, hr, _⟩ := rep_sql (rep_ex r1 (e2.trans e3))
          refine ⟨ad, vs, rfl, hB ▸ hq, fun p hp => ?_⟩
          have ex := (e1.trans e2).trans e3
          obtain ⟨r2, c2⟩ := reps_drop (HT.sIx l0.length 0 lo) hr c
          obtain ⟨r3, c3⟩ := reps_take (HT.sIx l0.length l0.length hi - HT.sIx l0.length 0 lo) r2 c2
          have e : L2.cutV vs lo hi = (vs.drop (HT.sIx l0.length 0 lo)).take (HT.sIx l0.length l0.length hi - HT.sIx l0.length 0 lo) := by unfold L2.cutV; rw [reps_len hr]
          rw [e]
          exact k _ _ [p] (ex.trans (Evl.Ex.new hp)) (rep_newL (reps_immK r3 c3) hp) ((new_one hp).ex ex)
        · cases q
      · cases q
    · cases q⟩
/-- xs[::-1] -/
def gRev : D → Option D
  | .lst l => if imms l = true then some (.lst l.reverse) else none
  | _ => none
theorem imms_append : ∀ {l m : List D}, imms (l ++ m) = (imms l && imms m)
  | [], m => by simp [imms]
  | d :: l, m => by
    show (imm d && imms (l ++ m)) = ((imm d && imms l) && imms m)
    rw [imms_append, Bool.and_assoc]
theorem imms_reverse : ∀ {l : List D}, imms l.reverse = imms l
  | [] => rfl
  | d :: l => by
    rw [List.reverse_cons, imms_append, imms_reverse]
    show (imms l && (imm d && true)) = (imm d && imms l)
    rw [Bool.and_true, Bool.and_comm]
theorem reps_reverse {K : PySem.W.Frag} {kl : Bool} {C : Str → Addr} {H : Hp} : ∀ {l : List D} {vs : List V} {fs : Fp}, Reps K kl C H l vs fs → imms l = true → Reps K kl C H l.reverse vs.reverse []
  | [], vs, fs, h, c => by unfold Reps at h; obtain ⟨rfl, rfl⟩ := h; exact reps_nil
  | d :: l, vs, fs, h, c => by
    unfold Reps at h
    unfold imms at c
    obtain ⟨v, vs', f1, f2, rfl, rfl, h1, h2⟩ := h
    have c' := Bool.and_eq_true_iff.mp c
    rw [rep_imm h1 c'.1] at h1
    rw [List.reverse_cons, List.reverse_cons]
    exact reps_app (f := []) (g := []) (reps_reverse h2 c'.2) (reps_one h1)
theorem dn_rev {k : Nat} {p1 p2 p3 : Pos} (ha : DP X a fa) : DN X (.Subscript a (.Slice none none (some (.UnaryOp .USub (.Constant (.int 1) k p1) p2)) p3) pos) (f1 gRev fa) :=
  ⟨fun B hB => (pe_revL (ha.pe B hB)).imp fun σ H Q ⟨env, φ, d, S, q, k⟩ => by
    obtain ⟨x, q1, q2⟩ := f1_of q
    unfold gRev at q2
    split at q2
    · rename_i l0
      split at q2
      · rename_i c
        cases q2
        refine ⟨env, φ, _, S, q1, fun v H1 fp e1 r1 k1 => ?_⟩
        obtain ⟨ad, vs, fs, rfl, hq, hr, _⟩ := rep_sql r1
        refine ⟨ad, vs, rfl, hB ▸ hq, fun p hp => ?_⟩
        have r2 := reps_reverse hr c
        exact k _ _ [p] (e1.trans (Evl.Ex.new hp)) (rep_newL (reps_immK r2 (by rw [imms_reverse]; exact c)) hp) ((new_one hp).ex e1)
      · cases q2
    · cases q2⟩

/-! ### built-ins by their values -/
def CallN (K : PySem.W.Frag) (r : List V → Hp → VK → Prop) (g : List D → Option D) : Prop := ∀ (C : Str → Addr) (H : Hp) (ds : List D) (d : D) (vs : List V) (fps : Fp) (Q : VK), Reps K true C H ds vs fps → g ds = some d →
  (∀ w H' fp, Ex H H' → Rep K false C H' d w fp → New H H' fp → Q w H') → r vs H Q
def fL (g : List D → Option D) (f : Env → Option (List D)) : DF := fun env => match f env with
  | some ds => g ds
  | none => none
theorem call_n {r : List V → Hp → VK → Prop} {g : List D → Option D} {f : Env → Option (List D)} (hr : CallN X.K r g) (ha : DA X es f) (h : ∀ t, PA X es t → PE X e (tCB r t)) : DN X e (fL g f) :=
  ⟨fun B hB => (h _ (ha.pa B hB)).imp fun σ H Q ⟨env, φ, d, S, q, k⟩ => by
    unfold fL at q
    split at q
    · rename_i ds q1
      refine ⟨env, φ, ds, S, q1, fun vs H1 fps e1 r1 k1 => ?_⟩
      exact hr B.C H1 ds d vs fps Q (hB ▸ r1) q fun w H2 fp e2 r2 n2 => k w H2 fp (e1.trans e2) (hB ▸ r2) (n2.ex e1)
    · cases q⟩
theorem dn_callB {id : String} {x : Str} {r : List V → Hp → VK → Prop} {g : List D → Option D} {f : Env → Option (List D)} (hr : CallN X.K r g) (hc : CallR X (.builtin id) r) (hg : Gl X x) (hm : X.mg x = none) (hv : bootBuiltins x = some (.builtin id)) (ha : DA X (e :: es) f)
    (hn : x ≠ "__name__" := by decide) (hdb : (x == ("__debug__" : Str)) = false := by decide) (hs : starEach (e :: es) X.env = (false, eval e X.env) :: starEach es X.env := by rfl) (hpl : (backTo pos (starEach es X.env)).any (·.1) = false := by rfl) :
    DN X (.Call (.Name x p) (e :: es) [] pos) (fL g f) := call_n hr ha fun _ pa => pe_callB hc hg hm hv pa hn hdb hs hpl
theorem dn_callTy {T : String} {x : Str} {r : List V → Hp → VK → Prop} {g : List D → Option D} {f : Env → Option (List D)} (hr : CallN X.K r g) (hc : CallR X (.type T) r) (hg : Gl X x) (hm : X.mg x = none) (hv : bootBuiltins x = some (.type T)) (ha : DA X (e :: es) f)
    (hn : x ≠ "__name__" := by decide) (hdb : (x == ("__debug__" : Str)) = false := by decide) (hs : starEach (e :: es) X.env = (false, eval e X.env) :: starEach es X.env := by rfl) (hpl : (backTo pos (starEach es X.env)).any (·.1) = false := by rfl) :
    DN X (.Call (.Name x p) (e :: es) [] pos) (fL g f) := call_n hr ha fun _ pa => pe_callTy hc hg hm hv pa hn hdb hs hpl
end
section
variable {K : PySem.W.Frag}
theorem reps1 {C : Str → Addr} {H : Hp} {kl : Bool} {d : D} {vs : List V} {fps : Fp} (h : Reps K kl C H [d] vs fps) : ∃ v, vs = [v] ∧ Rep K kl C H d v fps := by
  unfold Reps at h
  obtain ⟨v, vs', f1, f2, rfl, rfl, h1, h2⟩ := h
  unfold Reps at h2
  obtain ⟨rfl, rfl⟩ := h2
  exact ⟨v, rfl, by simpa using h1⟩
theorem reps2 {C : Str → Addr} {H : Hp} {kl : Bool} {d e : D} {vs : List V} {fps : Fp} (h : Reps K kl C H [d, e] vs fps) : ∃ v w f1 f2, vs = [v, w] ∧ fps = f1 ++ f2 ∧ Rep K kl C H d v f1 ∧ Rep K kl C H e w f2 := by
  unfold Reps at h
  obtain ⟨v, vs', f1, f2, rfl, rfl, h1, h2⟩ := h
  obtain ⟨w, rfl, h3⟩ := reps1 h2
  exact ⟨v, w, f1, f2, rfl, rfl, h1, h3⟩
def gLen : List D → Option D
  | [.lst l] => some (.int (l.length : Int))
  | [.tup l] => some (.int (l.length : Int))
  | [.str s] => if s.length ≤ LIM then some (.int (s.length : Int)) else none
  | _ => none
theorem c_len : CallN K (fun xs H Q => ∃ x n, xs = [x] ∧ LenV K x H n ∧ Q (.int (n : Nat)) H) gLen := by
  intro C H ds d vs fps Q hr hg k
  unfold gLen at hg
  split at hg
  · cases hg
    obtain ⟨v, rfl, r⟩ := reps1 hr
    obtain ⟨a, us, fs, rfl, hl, hs, _⟩ := rep_sql r
    exact ⟨_, us.length, rfl, .inl ⟨us, hl, rfl⟩, by rw [reps_len hs]; exact k _ H [] (Evl.Ex.refl H) fin_int New.nil⟩
  · cases hg
    obtain ⟨v, rfl, r⟩ := reps1 hr
    obtain ⟨a, us, rfl, ht, hs⟩ := rep_tup.mp r
    exact ⟨_, us.length, rfl, .inr ⟨us, .inl (.inl ht), rfl⟩, by rw [reps_len hs]; exact k _ H [] (Evl.Ex.refl H) fin_int New.nil⟩
  · split at hg
    · rename_i hl
      cases hg
      obtain ⟨v, rfl, r⟩ := reps1 hr
      obtain ⟨rfl, _⟩ := rep_str.mp r
      exact ⟨_, _, rfl, ⟨lim_le hl, rfl⟩, k _ H [] (Evl.Ex.refl H) fin_int New.nil⟩
    · cases hg
  · cases hg
def gList : List D → Option D
  | [.lst l] => if imms l = true then some (.lst l) else none
  | [.tup l] => if imms l = true then some (.lst l) else none
  | _ => none
theorem c_list : CallN K (fun xs H Q => ∃ p ys, xs = [.ref p] ∧ (SqL K H p ys ∨ SqT K H p ys) ∧ ∀ l, H l = none → Q (.ref l) (upd H l (.lst ys))) gList := by
  intro C H ds d vs fps Q hr hg k
  unfold gList at hg
  split at hg
  · split at hg
    · rename_i c
      cases hg
      obtain ⟨v, rfl, r⟩ := reps1 hr
      obtain ⟨a, us, fs, rfl, hl, hs, _⟩ := rep_sql r
      refine ⟨a, us, rfl, .inl hl, fun p hp => ?_⟩
      have h2 := reps_immK hs c
      rw [reps_imm hs c] at h2
      exact k _ _ [p] (Evl.Ex.new hp) (rep_newL h2 hp) (new_one hp)
    · cases hg
  · split at hg
    · rename_i c
      cases hg
      obtain ⟨v, rfl, r⟩ := reps1 hr
      obtain ⟨a, us, rfl, ht, hs⟩ := rep_tup.mp r
      refine ⟨a, us, rfl, .inr (.inl (.inl ht)), fun p hp => ?_⟩
      have h2 := reps_immK hs c
      rw [reps_imm hs c] at h2
      exact k _ _ [p] (Evl.Ex.new hp) (rep_newL h2 hp) (new_one hp)
    · cases hg
  · cases hg
def gTuple : List D → Option D
  | [.lst l] => if imms l = true then some (.tup l) else none
  | [.tup l] => if imms l = true then some (.tup l) else none
  | _ => none
theorem c_tuple : CallN K (fun xs H Q => ∃ p ys, xs = [.ref p] ∧ ((SqL K H p ys ∧ ∀ l, H l = none → Q (.ref l) (upd H l (.tup ys))) ∨ (SqT K H p ys ∧ Q (.ref p) H))) gTuple := by
  intro C H ds d vs fps Q hr hg k
  unfold gTuple at hg
  split at hg
  · split at hg
    · rename_i c
      cases hg
      obtain ⟨v, rfl, r⟩ := reps1 hr
      obtain ⟨a, us, fs, rfl, hl, hs, _⟩ := rep_sql r
      refine ⟨a, us, rfl, .inl ⟨hl, fun p hp => ?_⟩⟩
      have h2 := reps_immK hs c
      rw [reps_imm hs c] at h2
      exact k _ _ [] (Evl.Ex.new hp) (rep_newT h2 hp) New.nil
    · cases hg
  · split at hg
    · rename_i c
      cases hg
      obtain ⟨v, rfl, r⟩ := reps1 hr
      obtain ⟨a, us, rfl, ht, hs⟩ := rep_tup.mp r
      refine ⟨a, us, rfl, .inr ⟨.inl (.inl ht), ?_⟩⟩
      have h2 := reps_immK hs c
      rw [reps_imm hs c] at h2
      exact k _ H [] (Evl.Ex.refl H) (rep_tup.mpr ⟨a, us, rfl, ht, h2⟩) New.nil
    · cases hg
  · cases hg
def gAbs : List D → Option D
  | [.int i] => some (.int (if i < 0 then -i else i))
  | _ => none
theorem c_abs : CallN K (fun xs H Q => ∃ i, xs = [.int i] ∧ Q (.int (if i < 0 then -i else i)) H) gAbs := by
  intro C H ds d vs fps Q hr hg k
  unfold gAbs at hg
  split at hg
  · cases hg
    obtain ⟨v, rfl, r⟩ := reps1 hr
    obtain ⟨rfl, _⟩ := rep_int.mp r
    exact ⟨_, rfl, k _ H [] (Evl.Ex.refl H) fin_int New.nil⟩
  · cases hg
def gMax2 : List D → Option D
  | [.int i, .int j] => some (.int (if j > i then j else i))
  | _ => none
theorem c_max2 : CallN K (fun xs H Q => ∃ i j, xs = [.int i, .int j] ∧ Q (.int (if j > i then j else i)) H) gMax2 := by
  intro C H ds d vs fps Q hr hg k
  unfold gMax2 at hg
  split at hg
  · cases hg
    obtain ⟨v, w, f1, f2, rfl, _, r, r2⟩ := reps2 hr
    obtain ⟨rfl, _⟩ := rep_int.mp r
    obtain ⟨rfl, _⟩ := rep_int.mp r2
    exact ⟨_, _, rfl, k _ H [] (Evl.Ex.refl H) fin_int New.nil⟩
  · cases hg
def gMin2 : List D → Option D
  | [.int i, .int j] => some (.int (if j < i then j else i))
  | _ => none
theorem c_min2 : CallN K (fun xs H Q => ∃ i j, xs = [.int i, .int j] ∧ Q (.int (if j < i then j else i)) H) gMin2 := by
  intro C H ds d vs fps Q hr hg k
  unfold gMin2 at hg
  split at hg
  · cases hg
    obtain ⟨v, w, f1, f2, rfl, _, r, r2⟩ := reps2 hr
    obtain ⟨rfl, _⟩ := rep_int.mp r
    obtain ⟨rfl, _⟩ := rep_int.mp r2
    exact ⟨_, _, rfl, k _ H [] (Evl.Ex.refl H) fin_int New.nil⟩
  · cases hg
def gInt : List D → Option D
  | [.int i] => some (.int i)
  | [.bl b] => some (.int (if b then 1 else 0))
  | _ => none
theorem c_int : CallN K (fun xs H Q => (∃ i, xs = [.int i] ∧ Q (.int i) H) ∨ ∃ k, xs = [.bl k] ∧ Q (.int (if k then 1 else 0)) H) gInt := by
  intro C H ds d vs fps Q hr hg k
  unfold gInt at hg
  split at hg
  · cases hg
    obtain ⟨v, rfl, r⟩ := reps1 hr
    obtain ⟨rfl, _⟩ := rep_int.mp r
    exact .inl ⟨_, rfl, k _ H [] (Evl.Ex.refl H) fin_int New.nil⟩
  · cases hg
    obtain ⟨v, rfl, r⟩ := reps1 hr
    obtain ⟨rfl, _⟩ := rep_bl.mp r
    exact .inr ⟨_, rfl, k _ H [] (Evl.Ex.refl H) fin_int New.nil⟩
  · cases hg
end
section
variable {X : Cx} {a : Expr} {fa : DF} {pos p p2 : Pos}
/-- list(range(n)), list(range(m, n)) -/
def fLR1 (f : DF) : DF := fun env => match f env with
  | some (.int n) => if n ≤ (LIM : Int) ∧ -(LIM : Int) ≤ n then some (.lst (rangeD 0 n.toNat)) else none
  | _ => none
theorem reps_rg {K : PySem.W.Frag} {C : Str → Addr} {H : Hp} (a b : Int) : Reps K false C H (rangeD a (b - a).toNat) (rgV a b) [] := by
  unfold rgV rangeD
  have : ∀ l : List Nat, Reps K false C H (l.map fun (i : Nat) => D.int (a + (i : Int))) (l.map fun i => V.int (a + (i : Nat))) [] := by
    intro l
    induction l with
    | nil => exact reps_nil
    | cons x l ih => exact reps_cons (f1 := []) (f2 := []) fin_int ih
  exact this _
theorem dn_listR1 (hc : X.calm = true) (hgl : Gl X "list") (hml : X.mg "list" = none) (hg : Gl X "range") (hm : X.mg "range" = none) (ha : DP X a fa) (na : starEach [a] X.env = (false, eval a X.env) :: starEach [] X.env := by rfl)
    (nb : starEach [.Call (.Name "range" p2) [a] [] pos2] X.env = (false, eval (.Call (.Name "range" p2) [a] [] pos2) X.env) :: starEach [] X.env := by rfl) : DN X (.Call (.Name "list" p) [.Call (.Name "range" p2) [a] [] pos2] [] pos) (fLR1 fa) :=
  ⟨fun B hB => (pe_listRg hc hgl hml (prg_1 hg hm (ha.pe B hB) na) nb).imp fun σ H Q ⟨env, φ, d, S, q, k⟩ => by
    unfold fLR1 at q
    split at q
    · rename_i n q1
      split at q
      · rename_i hn
        cases q
        rw [limI] at hn
        refine ⟨env, φ, _, S, q1, fun v H1 fp e1 r1 k1 => ⟨n, (rep_int.mp r1).1, ⟨by omega, by omega, by omega, by omega, by omega⟩, fun p hp => ?_⟩⟩
        have r := reps_rg (K := B.K) (C := B.C) (H := H1) 0 n
        rw [show (n - 0).toNat = n.toNat by omega] at r
        exact k _ _ [p] (e1.trans (Evl.Ex.new hp)) (rep_newL r hp) ((new_one hp).ex e1)
      · cases q
    · cases q⟩
end
end DL


set_option Elab.async false
set_option linter.all false
set_option maxRecDepth 100000
/-! The data layer, part 13: calls that change what is handed in. -/
namespace DL
open PySem PySem.Spec PyProof.Rows L2

/-- an argument: a name, told as it stands at the call; a value of one's own -/
inductive Ag where
  | nm (i : Nat) | va (d : D)
def tmV : List Ag → List V → L2.St
  | .va _ :: gs, v :: vs => some v :: tmV gs vs
  | .nm _ :: gs, _ :: vs => tmV gs vs
  | _, _ => []
def tmD : List Ag → List D
  | .va d :: gs => d :: tmD gs
  | .nm _ :: gs => tmD gs
  | [] => []
def Agr (σ : L2.St) : List Ag → List V → Prop
  | [], [] => True
  | .nm i :: gs, v :: vs => σ[i]? = some (some v) ∧ Agr σ gs vs
  | .va _ :: gs, _ :: vs => Agr σ gs vs
  | _, _ => False
theorem Agr.len {σ : L2.St} : ∀ {gs : List Ag} {vs : List V}, Agr σ gs vs → vs.length = gs.length
  | [], [], _ => rfl
  | .nm i :: gs, v :: vs, h => by simp [Agr.len h.2]
  | .va _ :: gs, v :: vs, h => by simp [Agr.len (show Agr σ gs vs from h)]
theorem tm_len {σ : L2.St} : ∀ {gs : List Ag} {vs : List V}, Agr σ gs vs → (tmV gs vs).length = (tmD gs).length
  | [], [], _ => rfl
  | .nm i :: gs, v :: vs, h => tm_len (gs := gs) (vs := vs) h.2
  | .va _ :: gs, v :: vs, h => by simp [tmV, tmD, tm_len (show Agr σ gs vs from h)]
def PAM (B : Bs) (W : WX) (f : Env → Option (R (List Ag))) : TA := fun σ H Q => ∃ τ te env φ r, σ.length = env.length ∧ St B (σ ++ τ) H (env ++ te) φ ∧ f env = some r ∧ match r with
  | .ok gs env' => ∀ vs H' φ', St B (σ ++ τ ++ tmV gs vs) H' (env' ++ te ++ owns (tmD gs)) φ' → env'.length = env.length → Agr σ gs vs → Q vs H'
  | .exc c env' => ∀ H' φ', St B (σ ++ τ) H' (env' ++ te) φ' → env'.length = env.length → W (.ref (B.C c)) none σ H'
structure DAM (X : Cx) (W : WX) (es : List Expr) (f : Env → Option (R (List Ag))) : Prop where
  pa : ∀ B : Bs, B.K = X.K → PA X es (PAM B W f)
def aNil : Env → Option (R (List Ag)) := fun env => some (.ok [] env)
def aNm (i : Nat) (r : Env → Option (R (List Ag))) : Env → Option (R (List Ag)) := fun env => match fVar i env with
  | some _ => (match r env with
    | some (.ok gs env') => some (.ok (.nm i :: gs) env')
    | o => o)
  | none => none
def aVa (f : MF) (r : Env → Option (R (List Ag))) : Env → Option (R (List Ag)) := fun env => match f env with
  | some (.ok d env1) => (match r env1 with
    | some (.ok gs env') => some (.ok (.va d :: gs) env')
    | o => o)
  | some (.exc c env1) => some (.exc c env1)
  | none => none
section
variable {B : Bs} {σ σ2 : L2.St} {H : Hp} {env e2 : Env} {φ : Nat → Fp}
/-- what an exception leaves: nothing laid behind -/
theorem St.unlay {τ υ : L2.St} {te ue : Env} (S : St B (σ ++ (τ ++ υ)) H (env ++ (te ++ ue)) φ) (hl : σ.length = env.length) (ht : τ.length = te.length) : St B (σ ++ τ) H (env ++ te) φ := by
  rw [← List.append_assoc, ← List.append_assoc] at S
  exact S.trunc (by simp [hl, ht])
end
section
variable {X : Cx} {W : WX} {e : Expr} {es : List Expr} {pos p : Pos}
theorem dam_nil : DAM X W [] aNil := ⟨fun B hB => pa_nil.imp fun σ H Q ⟨τ, te, env, φ, r, hl, S, q, k⟩ => by
  cases q
  exact k [] H φ (by simpa [tmV, tmD, owns] using S) rfl trivial⟩
theorem dam_nm {x : Str} {i : Nat} {r : Env → Option (R (List Ag))} (hN : X.N[i]? = some x) (hv : Vis X.env.scope x) (h2 : DAM X W es r) (hs : starEach (.Name x p :: es) X.env = (false, eval (.Name x p) X.env) :: starEach es X.env := by rfl)
    (hd : (x == ("__debug__" : Str)) = false := by decide) (hcd : (x == ("__classdict__" : Str)) = false := by decide) : DAM X W (.Name x p :: es) (aNm i r) :=
  ⟨fun B hB => (pa_cons (pe_var hN hv hd hcd) (h2.pa B hB) hs).imp fun σ H Q ⟨τ, te, env, φ, rr, hl, S, q, k⟩ => by
    unfold aNm at q
    split at q
    · rename_i d q1
      obtain ⟨s, es', rfl⟩ := fVar_of q1
      obtain ⟨v, ev, _⟩ := (S.trunc hl).get es'
      refine ⟨v, ev, τ, te, env, φ, ?_⟩
      split at q
      · rename_i gs env' q2
        cases q
        refine ⟨_, hl, S, q2, fun vs H' φ' S' hl' ag => k (v :: vs) H' φ' S' hl' ⟨ev, ag⟩⟩
      · rename_i z
        refine ⟨rr, hl, S, q, ?_⟩
        cases rr with
        | ok gs env' => exact absurd q (z gs env')
        | exc c env' => exact k
    · cases q⟩
theorem dam_va {f : MF} {r : Env → Option (R (List Ag))} (h1 : DM X W e f) (h2 : DAM X W es r) (hs : starEach (e :: es) X.env = (false, eval e X.env) :: starEach es X.env := by rfl) : DAM X W (e :: es) (aVa f r) :=
  ⟨fun B hB => (pa_cons (h1.pe B hB) (h2.pa B hB) hs).imp fun σ H Q ⟨τ, te, env, φ, rr, hl, S, q, k⟩ => by
    have ht : τ.length = te.length := by have := S.len; simp at this; omega
    unfold aVa at q
    split at q
    · rename_i d env1 q1
      refine ⟨τ, te, env, φ, _, hl, S, q1, fun v H1 φ1 S1 l1 => ?_⟩
      split at q
      · rename_i gs env' q2
        cases q
        refine ⟨τ ++ [some v], te ++ [some ⟨.own, d⟩], env1, φ1, _, by omega, by simpa using S1, q2, fun vs H2 φ2 S2 l2 ag => ?_⟩
        refine k (v :: vs) H2 φ2 ?_ (by omega) ag
        simpa [tmV, tmD, owns] using S2
      · rename_i z
        refine ⟨τ ++ [some v], te ++ [some ⟨.own, d⟩], env1, φ1, rr, by omega, by simpa using S1, q, ?_⟩
        cases rr with
        | ok gs env' => exact absurd q (z gs env')
        | exc c env' => exact fun H' φ' S' l' => k H' φ' (S'.unlay (by omega) ht) (by omega)
    · rename_i c env1 q1
      cases q
      exact ⟨τ, te, env, φ, _, hl, S, q1, k⟩
    · cases q⟩
end

/-! ### the arguments' places -/
def ixs : List Ag → Nat → List Nat
  | .nm i :: gs, b => i :: ixs gs b
  | .va _ :: gs, b => b :: ixs gs (b + 1)
  | [], _ => []
def resolve (env : Env) : List Ag → Option (List D)
  | [] => some []
  | .nm i :: gs => (match fVar i env, resolve env gs with
    | some d, some ds => some (d :: ds)
    | _, _ => none)
  | .va d :: gs => (match resolve env gs with
    | some ds => some (d :: ds)
    | none => none)
def nms : List Ag → List Nat
  | .nm i :: gs => i :: nms gs
  | .va _ :: gs => nms gs
  | [] => []
def agOk (env : Env) (all : List Nat) : List Md → List Ag → Bool
  | .chg :: ms, .nm i :: gs => (all.count i == 1) && (match env[i]? with
    | some (some s) => s.m.ex
    | _ => false) && agOk env all ms gs
  | .shr :: ms, _ :: gs => agOk env all ms gs
  | [], [] => true
  | _, _ => false
/-- what comes back to the names -/
def putNm : List Md → List Ag → Env → Env → Env
  | .chg :: ms, .nm i :: gs, some s :: pe, E => putNm ms gs pe (upS E i s)
  | _ :: ms, _ :: gs, _ :: pe, E => putNm ms gs pe E
  | _, _, _, E => E
theorem resolve_len {env : Env} : ∀ {gs : List Ag} {ds : List D}, resolve env gs = some ds → ds.length = gs.length
  | [], ds, h => by cases h; rfl
  | .nm i :: gs, ds, h => by
    unfold resolve at h
    split at h
    · cases h; simp [resolve_len (gs := gs) (by assumption)]
    · cases h
  | .va d :: gs, ds, h => by
    unfold resolve at h
    split at h
    · cases h; simp [resolve_len (gs := gs) (by assumption)]
    · cases h
theorem ixs_len : ∀ {gs : List Ag} {b : Nat}, (ixs gs b).length = gs.length
  | [], _ => rfl
  | .nm _ :: gs, b => by simp [ixs, ixs_len (gs := gs)]
  | .va _ :: gs, b => by simp [ixs, ixs_len (gs := gs)]
/-- an argument's place: a name, or behind -/
theorem ixs_at {σ : L2.St} {env : Env} : ∀ {gs : List Ag} {vs : List V} {ds : List D} {b k i : Nat}, Agr σ gs vs → resolve env gs = some ds → (ixs gs b)[k]? = some i →
    ∃ d v, ds[k]? = some d ∧ vs[k]? = some v ∧ ((gs[k]? = some (.nm i) ∧ σ[i]? = some (some v) ∧ fVar i env = some d) ∨ (∃ c, i = b + c ∧ (tmD gs)[c]? = some d ∧ (tmV gs vs)[c]? = some (some v) ∧ gs[k]? = some (.va d)))
  | [], vs, ds, b, k, i, _, _, h => by simp [ixs] at h
  | .nm j :: gs, v :: vs, ds, b, k, i, ag, r, h => by
    unfold resolve at r
    split at r
    · rename_i d ds' q1 q2
      cases r
      cases k with
      | zero =>
        simp [ixs] at h
        subst h
        exact ⟨d, v, rfl, rfl, .inl ⟨rfl, ag.1, q1⟩⟩
      | succ k =>
        obtain ⟨d', v', e1, e2, z⟩ := ixs_at (gs := gs) ag.2 q2 (by simpa [ixs] using h)
        exact ⟨d', v', by simpa using e1, by simpa using e2, z.imp (fun ⟨a, b, c⟩ => ⟨by simpa using a, b, c⟩) fun ⟨c, a1, a2, a3, a4⟩ => ⟨c, a1, a2, a3, by simpa using a4⟩⟩
    · cases r
  | .va dd :: gs, v :: vs, ds, b, k, i, ag, r, h => by
    unfold resolve at r
    split at r
    · rename_i ds' q2
      cases r
      cases k with
      | zero =>
        simp [ixs] at h
        subst h
        exact ⟨dd, v, rfl, rfl, .inr ⟨0, rfl, rfl, rfl, rfl⟩⟩
      | succ k =>
        obtain ⟨d', v', e1, e2, z⟩ := ixs_at (gs := gs) (b := b + 1) (show Agr σ gs vs from ag) q2 (by simpa [ixs] using h)
        refine ⟨d', v', by simpa using e1, by simpa using e2, z.imp (fun ⟨a, b, c⟩ => ⟨by simpa using a, b, c⟩) fun ⟨c, a1, a2, a3, a4⟩ => ⟨c + 1, by omega, by simpa [tmD] using a2, by simpa [tmV] using a3, by simpa using a4⟩⟩
    · cases r
theorem agOk_at {env : Env} {all : List Nat} : ∀ {ms : List Md} {gs : List Ag} {k : Nat} {m : Md} {g : Ag}, agOk env all ms gs = true → ms[k]? = some m → gs[k]? = some g →
    (m = .shr) ∨ (m = .chg ∧ ∃ i s, g = .nm i ∧ all.count i = 1 ∧ env[i]? = some (some s) ∧ s.m.ex = true)
  | [], [], k, m, g, _, h, _ => by simp at h
  | .shr :: ms, g0 :: gs, k, m, g, h, h1, h2 => by
    cases k with
    | zero => simp at h1; exact .inl h1.symm
    | succ k => exact agOk_at (k := k) (by cases g0 <;> simpa [agOk] using h) (by simpa using h1) (by simpa using h2)
  | .chg :: ms, .nm i :: gs, k, m, g, h, h1, h2 => by
    unfold agOk at h
    have h' := Bool.and_eq_true_iff.mp h
    cases k with
    | zero =>
      simp at h1 h2
      have h3 := Bool.and_eq_true_iff.mp h'.1
      refine .inr ⟨h1.symm, i, ?_⟩
      have h4 := h3.2
      split at h4
      · rename_i s e
        exact ⟨s, h2.symm, eq_of_beq h3.1, e, h4⟩
      · cases h4
    | succ k => exact agOk_at (k := k) h'.2 (by simpa using h1) (by simpa using h2)
  | .chg :: ms, .va _ :: gs, k, m, g, h, _, _ => by simp [agOk] at h
  | .own :: ms, _ :: gs, k, m, g, h, _, _ => by simp [agOk] at h
  | .pin :: ms, _ :: gs, k, m, g, h, _, _ => by simp [agOk] at h
  | [], _ :: _, k, m, g, h, _, _ => by simp [agOk] at h
  | .shr :: _, [], k, m, g, h, _, _ => by simp [agOk] at h
  | .chg :: _, [], k, m, g, h, _, _ => by simp [agOk] at h
  | .own :: _, [], k, m, g, h, _, _ => by simp [agOk] at h
  | .pin :: _, [], k, m, g, h, _, _ => by simp [agOk] at h
theorem agOk_len {env : Env} {all : List Nat} : ∀ {ms : List Md} {gs : List Ag}, agOk env all ms gs = true → ms.length = gs.length
  | [], [], _ => rfl
  | .shr :: ms, g0 :: gs, h => by simp [agOk_len (show agOk env all ms gs = true by cases g0 <;> simpa [agOk] using h)]
  | .chg :: ms, .nm i :: gs, h => by
    unfold agOk at h
    simp [agOk_len (Bool.and_eq_true_iff.mp h).2]
  | .chg :: ms, .va _ :: gs, h => by simp [agOk] at h
  | .own :: ms, _ :: gs, h => by simp [agOk] at h
  | .pin :: ms, _ :: gs, h => by simp [agOk] at h
  | [], _ :: _, h => by simp [agOk] at h
  | .shr :: _, [], h => by simp [agOk] at h
  | .chg :: _, [], h => by simp [agOk] at h
  | .own :: _, [], h => by simp [agOk] at h
  | .pin :: _, [], h => by simp [agOk] at h
theorem count_nms : ∀ {gs : List Ag} {k j i : Nat}, k ≠ j → gs[k]? = some (.nm i) → gs[j]? = some (.nm i) → 2 ≤ (nms gs).count i := by
  have one : ∀ {gs : List Ag} {j i : Nat}, gs[j]? = some (.nm i) → 1 ≤ (nms gs).count i := by
    intro gs
    induction gs with
    | nil => intro j i h; simp at h
    | cons g gs ih =>
      intro j i h
      cases j with
      | zero =>
        simp at h
        subst h
        simp [nms]
      | succ j =>
        have := ih (j := j) (i := i) (by simpa using h)
        cases g with
        | nm x => simp only [nms, List.count_cons]; omega
        | va d => simpa [nms] using this
  intro gs
  induction gs with
  | nil => intro k j i _ h; simp at h
  | cons g gs ih =>
    intro k j i n h1 h2
    cases k with
    | zero =>
      simp at h1
      subst h1
      cases j with
      | zero => exact absurd rfl n
      | succ j =>
        have := one (gs := gs) (j := j) (i := i) (by simpa using h2)
        show 2 ≤ (i :: nms gs).count i
        rw [List.count_cons_self]
        omega
    | succ k =>
      cases j with
      | zero =>
        simp at h2
        subst h2
        have := one (gs := gs) (j := k) (i := i) (by simpa using h1)
        show 2 ≤ (i :: nms gs).count i
        rw [List.count_cons_self]
        omega
      | succ j =>
        have := ih (k := k) (j := j) (i := i) (by omega) (by simpa using h1) (by simpa using h2)
        cases g with
        | nm x => simp only [nms, List.count_cons]; omega
        | va d => simpa [nms] using this
theorem putBack_nm {env X : Env} {all : List Nat} : ∀ {ms : List Md} {gs : List Ag} {b : Nat} {pe E : Env}, agOk env all ms gs = true → E.length = env.length → putBack ms (ixs gs b) pe (E ++ X) = putNm ms gs pe E ++ X ∧ (putNm ms gs pe E).length = env.length
  | [], [], b, pe, E, _, hl => ⟨rfl, hl⟩
  | .shr :: ms, g0 :: gs, b, pe, E, h, hl => by
    have h' : agOk env all ms gs = true := by cases g0 <;> simpa [agOk] using h
    cases pe with
    | nil => cases g0 <;> exact ⟨rfl, hl⟩
    | cons p pe =>
      cases g0 with
      | nm i => exact putBack_nm (pe := pe) (b := b) h' hl
      | va d => exact putBack_nm (pe := pe) (b := b + 1) h' hl
  | .chg :: ms, .nm i :: gs, b, pe, E, h, hl => by
    unfold agOk at h
    have h1 := Bool.and_eq_true_iff.mp h
    have h2 := (Bool.and_eq_true_iff.mp h1.1).2
    have hi : i < env.length := by
      split at h2
      · rename_i s e; exact (List.getElem?_eq_some_iff.mp e).1
      · cases h2
    cases pe with
    | nil => exact ⟨rfl, hl⟩
    | cons p pe =>
      cases p with
      | none => exact putBack_nm (pe := pe) (b := b) h1.2 hl
      | some s =>
        have e1 : (E ++ X)[i]? = E[i]? := List.getElem?_append_left (by omega)
        have key : upS (E ++ X) i s = upS E i s ++ X := by
          unfold upS
          rw [e1]
          split
          · rw [List.set_append_left _ _ (by omega)]
          · rfl
        show putBack ms (ixs gs b) pe (upS (E ++ X) i s) = putNm ms gs pe (upS E i s) ++ X ∧ (putNm ms gs pe (upS E i s)).length = env.length
        rw [key]
        refine putBack_nm (pe := pe) (b := b) h1.2 ?_
        unfold upS
        split
        · rw [List.length_set]; exact hl
        · exact hl
  | .chg :: ms, .va _ :: gs, b, pe, E, h, _ => by simp [agOk] at h
  | .own :: ms, _ :: gs, b, pe, E, h, _ => by simp [agOk] at h
  | .pin :: ms, _ :: gs, b, pe, E, h, _ => by simp [agOk] at h
  | [], _ :: _, b, pe, E, h, _ => by simp [agOk] at h
  | .shr :: _, [], b, pe, E, h, _ => by simp [agOk] at h
  | .chg :: _, [], b, pe, E, h, _ => by simp [agOk] at h
  | .own :: _, [], b, pe, E, h, _ => by simp [agOk] at h
  | .pin :: _, [], b, pe, E, h, _ => by simp [agOk] at h
section
variable {B : Bs} {σ τ : L2.St} {H : Hp} {env te : Env} {φ : Nat → Fp} {gs : List Ag} {vs : List V} {ds : List D} {ms : List Md}
theorem subs_of (S : St B (σ ++ τ ++ tmV gs vs) H (env ++ te ++ owns (tmD gs)) φ) (hl : σ.length = env.length) (ag : Agr σ gs vs) (r : resolve env gs = some ds) (ok : agOk env (nms gs) ms gs = true) :
    Subs (σ ++ τ ++ tmV gs vs) (env ++ te ++ owns (tmD gs)) (ixs gs (env ++ te).length) ms ds vs := by
  have l1 := resolve_len r
  have l2 := agOk_len ok
  have htv := tm_len ag
  have hτ : (σ ++ τ).length = (env ++ te).length := by
    have := S.len
    rw [List.length_append, List.length_append (as := env ++ te)] at this
    have e : (owns (tmD gs)).length = (tmD gs).length := by simp [owns]
    omega
  refine ⟨by rw [ixs_len, l1], by rw [l2, l1], by rw [ag.len, l1], fun k i m d v hi hm hd hv => ?_, fun k j i n hk hj hm => ?_⟩
  · obtain ⟨d', v', e1, e2, z⟩ := ixs_at ag r hi
    rw [hd] at e1
    rw [hv] at e2
    cases e1
    cases e2
    rcases z with ⟨hg, hs, hf⟩ | ⟨c, rfl, h1, h2, hg⟩
    · obtain ⟨s, es, ed⟩ := fVar_of hf
      obtain ⟨hi', _⟩ := List.getElem?_eq_some_iff.mp es
      refine ⟨s, by rw [List.append_assoc, List.getElem?_append_left hi']; exact es, ed, by rw [List.append_assoc, List.getElem?_append_left (by omega)]; exact hs, ?_⟩
      rcases agOk_at ok hm hg with rfl | ⟨rfl, i', s', eg, _, es', hx⟩
      · exact .inr rfl
      · cases eg
        rw [es] at es'
        cases es'
        exact .inl ⟨rfl, hx⟩
    · refine ⟨⟨.own, d⟩, ?_, rfl, ?_, ?_⟩
      · rw [List.getElem?_append_right (by omega), show (env ++ te).length + c - (env ++ te).length = c by omega]
        unfold owns
        rw [List.getElem?_map, h1]
        rfl
      · rw [List.getElem?_append_right (by omega), show (env ++ te).length + c - (σ ++ τ).length = c by omega]
        exact h2
      · rcases agOk_at ok hm hg with rfl | ⟨rfl, i', s', eg, _⟩
        · exact .inr rfl
        · cases eg
  · obtain ⟨d', v', e1, e2, z⟩ := ixs_at ag r hk
    obtain ⟨d2, v2, e3, e4, z2⟩ := ixs_at ag r hj
    rcases z with ⟨hg, hs, hf⟩ | ⟨c, rfl, h1, h2, hg⟩
    · rcases agOk_at ok hm hg with q | ⟨_, i', s', eg, cnt, es', hx⟩
      · cases q
      · cases eg
        rcases z2 with ⟨hg2, _⟩ | ⟨c, hc, _⟩
        · have := count_nms n hg hg2
          omega
        · obtain ⟨hi', _⟩ := List.getElem?_eq_some_iff.mp es'
          rw [List.length_append] at hc
          omega
    · rcases agOk_at ok hm hg with q | ⟨_, i', s', eg, _⟩
      · cases q
      · cases eg
/-- temps between are thrown away -/
theorem St.dropMid {μ : L2.St} {me : Env} {v : V} {d : D} (S : St B (σ ++ μ ++ [some v]) H (env ++ me ++ [some ⟨.own, d⟩]) φ) (hl : σ.length = env.length) : ∃ φ', St B (σ ++ [some v]) H (env ++ [some ⟨.own, d⟩]) φ' := by
  have q := S.last
  have S1 : St B (σ ++ μ) H (env ++ me) φ := S.pop
  have S2 := S1.trunc hl
  refine ⟨_, S2.push q.1 q.2.1 q.2.2 fun i s h a ha => ?_⟩
  obtain ⟨hi, _⟩ := List.getElem?_eq_some_iff.mp h
  exact S.excl (env ++ me).length i ⟨.own, d⟩ s (by rw [List.length_append]; omega) (by simp) (by rw [List.append_assoc, List.getElem?_append_left hi]; exact h) rfl a ha
end
/-- the call -/
def mCall (ms : List Md) (F : List D → Option (R D)) (a : Env → Option (R (List Ag))) : MF := fun env => match a env with
  | some (.ok gs env1) => if agOk env1 (nms gs) ms gs = true then (match resolve env1 gs with
    | some ds => (match F ds with
      | some (.ok d pe) => if outEnv ms pe = true then some (.ok d (putNm ms gs pe env1)) else none
      | some (.exc c pe) => if outEnv ms pe = true then some (.exc c (putNm ms gs pe env1)) else none
      | none => none)
    | none => none) else none
  | some (.exc c env1) => some (.exc c env1)
  | none => none
section
variable {X : Cx} {W : WX} {e : Expr} {es : List Expr} {pos p : Pos}
variable {P : Program} {w : World} {K : PySem.W.Frag} {mg : Str → Option Value} {base : Heap} {N : List Str} {sc : Scope} {k kc : Nat} {x : Str} {ms : List Md} {F : List D → Option (R D)}
/-- what a promise of a def is worth where its arguments lie in the state -/
theorem spD_of {B : Bs} {σ τ : L2.St} {H : Hp} {env te : Env} {φ : Nat → Fp} {gs : List Ag} {vs : List V} {ds : List D} {Q : VK} {E : XK} {r : R D} (hBK : B.K = K) (hl : σ.length = env.length) (S : St B (σ ++ τ ++ tmV gs vs) H (env ++ te ++ owns (tmD gs)) φ)
    (ag : Agr σ gs vs) (rs : resolve env gs = some ds) (ok : agOk env (nms gs) ms gs = true) (hF : F ds = some r)
    (h : match r with
      | .ok d pe => ∀ v H' φ', St B (σ ++ τ ++ [some v]) H' (putNm ms gs pe env ++ te ++ [some ⟨.own, d⟩]) φ' → (putNm ms gs pe env).length = env.length → outEnv ms pe = true → Q v H'
      | .exc c pe => ∀ H' φ', St B (σ ++ τ) H' (putNm ms gs pe env ++ te) φ' → (putNm ms gs pe env).length = env.length → outEnv ms pe = true → E (.ref (B.C c)) none H') : spD K ms F vs H Q E := by
  have sub := subs_of S hl ag rs ok
  have hτ : (σ ++ τ).length = (env ++ te).length := by
    have := S.len
    rw [List.length_append, List.length_append (as := env ++ te)] at this
    have e : (owns (tmD gs)).length = (tmD gs).length := by simp [owns]
    have := tm_len ag
    omega
  have S0 := S.sub sub
  rw [hBK] at S0
  refine ⟨ds, _, _, r, by rw [sub.l3, sub.l2], sub.l2.symm, S0, hF, ?_⟩
  have split_ : ∀ pe : Env, putBack ms (ixs gs (env ++ te).length) pe (env ++ te ++ owns (tmD gs)) = putNm ms gs pe env ++ te ++ owns (tmD gs) ∧ (putNm ms gs pe env).length = env.length := fun pe => by
    have := putBack_nm (X := te ++ owns (tmD gs)) (ms := ms) (gs := gs) (b := (env ++ te).length) (pe := pe) ok rfl
    rw [← List.append_assoc, ← List.append_assoc] at this
    exact this
  cases r with
  | ok d pe =>
    intro ho v H' φ' S'
    rw [← hBK] at S'
    obtain ⟨φ2, S2⟩ := S.back sub S' ho (fun k s q => by
      cases k with
      | zero => simp at q; rw [← q]
      | succ k => simp at q)
    rw [(split_ pe).1] at S2
    obtain ⟨φ3, S3⟩ := S2.dropMid (by rw [List.length_append (as := putNm ms gs pe env), (split_ pe).2, hτ, List.length_append])
    exact h v H' φ3 S3 (split_ pe).2 ho
  | exc c pe =>
    intro ho H' φ' S'
    rw [← hBK] at S'
    obtain ⟨φ2, S2⟩ := S.back (rv := []) (re := []) sub (by simpa using S') ho (fun k s q => by simp at q)
    rw [List.append_nil, List.append_nil, (split_ pe).1] at S2
    have := h H' φ2 (S2.trunc (by rw [List.length_append (as := putNm ms gs pe env), (split_ pe).2, hτ, List.length_append])) (split_ pe).2 ho
    unfold Bs.C at this
    rw [hBK] at this
    exact this
theorem dm_call (c : Fn P w K mg base kc x ms F) (h : BX X W P w K mg base N sc k) (hk : kc ≤ k) (hg : sc.names.lookup x = some .globalImplicit) {a : Env → Option (R (List Ag))} (ha : DAM X W (e :: es) a)
    (hdb : (x == ("__debug__" : Str)) = false := by decide) (he : starEach (e :: es) X.env = (false, eval e X.env) :: starEach es X.env := by rfl) (hpl : (backTo pos (starEach es X.env)).any (·.1) = false := by rfl) :
    DM X W (.Call (.Name x p) (e :: es) [] pos) (mCall ms F a) := by
  obtain ⟨f, fd, ps, ok, hm, hkp, hb⟩ := c.ex
  refine ⟨fun B hB => ?_⟩
  have hBK : B.K = K := hB.trans h.hK
  have hgl : Gl X x := by show X.env.scope.names.lookup x = _; rw [h.hsc]; exact hg
  have ok' : FnOk X.prog X.w X.K X.mg X.base (L2.CX X.prog X.w) kc f fd ps (spD K ms F) := by rw [h.hP, h.hw, h.hK, h.hmg, h.hbase]; exact ok
  have hm' : X.mg x = some (.ref f) := by rw [h.hmg]; exact hm
  have hkp' : PySem.W.keepIn X.K (.ref f) = true := by rw [h.hK]; exact hkp
  have hb' : Binds X.K fd ps [] := by rw [h.hK]; exact hb
  refine (pe_callSD (E := fun σ => WE W σ) ok' (h.room.mono hk) hgl hm' hkp' hb' .nil (passAt h.tk) (ha.pa B hB) hdb he hpl).imp fun σ H Q ⟨τ, te, env, φ, r, hl, S, q, k'⟩ => ?_
  unfold mCall at q
  split at q
  · rename_i gs env1 q1
    refine ⟨τ, te, env, φ, _, hl, S, q1, fun vs H1 φ1 S1 l1 ag => ?_⟩
    show spD K ms F (vs ++ []) H1 Q (WE W σ)
    rw [List.append_nil]
    split at q
    · rename_i hok
      split at q
      · rename_i ds hds
        split at q
        · rename_i d pe hF
          split at q
          · cases q
            exact spD_of hBK (by omega) S1 ag hds hok hF fun v H' φ' S' l' _ => k' v H' φ' S' (by omega)
          · rename_i hno
            exact spD_of hBK (by omega) S1 ag hds hok hF fun v H' φ' S' l' ho => absurd ho hno
        · rename_i cc pe hF
          split at q
          · cases q
            exact spD_of hBK (by omega) S1 ag hds hok hF fun H' φ' S' l' _ => k' H' φ' S' (by omega)
          · rename_i hno
            exact spD_of hBK (by omega) S1 ag hds hok hF fun H' φ' S' l' ho => absurd ho hno
        · cases q
      · cases q
    · cases q
  · rename_i cc env1 q1
    cases q
    exact ⟨τ, te, env, φ, _, hl, S, q1, k'⟩
  · cases q
end
end DL


set_option Elab.async false
set_option linter.all false
set_option maxRecDepth 100000
/-! The data layer, part 14: methods that change their object, stores. -/
namespace DL
open PySem PySem.Spec PyProof.Rows L2

/-- a method that changes its object, by values: h tells its answer and the object behind -/
def MutR (K : PySem.W.Frag) (r : V → List V → Hp → VK → Prop) (h : D → List D → Option (D × D)) : Prop :=
  ∀ (C : Str → Addr) (H : Hp) (d d' rd : D) (v : V) (f fs : Fp) (ds : List D) (vs : List V) (Q : VK), Rep K false C H d v f → f.Nodup → (∀ a ∈ f, Mut (H a)) → Reps K false C H ds vs fs → fs.Nodup → (∀ a ∈ fs, Mut (H a)) → (∀ a ∈ f, a ∉ fs) → h d ds = some (rd, d') →
    (∀ rv x o' f', x ∈ f → Mut (some o') → Rep K false C (upd H x o') d' v f' → f'.Nodup → (∀ a ∈ f', a ∈ f ∨ a ∈ fs) → Rep K true C (upd H x o') rd rv (if imm rd = true then [] else f) → imm rd = true → Q rv (upd H x o')) → r v vs H Q
section
variable {K : PySem.W.Frag} {C : Str → Addr} {H : Hp}
/-- a list of one's own -/
theorem own_list {l : List D} {v : V} {f : Fp} (r : Rep K false C H (.lst l) v f) (mu : ∀ a ∈ f, Mut (H a)) : ∃ a vs fs, v = .ref a ∧ f = a :: fs ∧ H a = some (.lst vs) ∧ Reps K false C H l vs fs := by
  obtain ⟨a, vs, fs, rfl, hr, ⟨hl, rfl⟩ | ⟨q, _⟩⟩ := rep_lst.mp r
  · rcases hl with hl | ⟨o, hl⟩
    · exact ⟨a, vs, fs, rfl, rfl, hl, hr⟩
    · have := mu a List.mem_cons_self
      rw [hl] at this
      exact this.elim
  · cases q
theorem own_list' {l : List D} {vs vs' : List V} {a : Addr} {fs' : Fp} (hr : Reps K false C H l vs fs') (ha : H a = some (.lst vs')) (n : a ∉ fs') : Rep K false C (upd H a (.lst vs)) (.lst l) (.ref a) (a :: fs') :=
  rep_lst.mpr ⟨a, vs, fs', rfl, reps_upd hr n (by rw [ha]; trivial), .inl ⟨.inl upd_same, rfl⟩⟩
end
def hAppend : D → List D → Option (D × D)
  | .lst l, [e] => if l.length < LIM then some (.non, .lst (l ++ [e])) else none
  | _, _ => none
section
variable {K : PySem.W.Frag}
theorem m_append : MutR K rAppend hAppend := by
  intro C H d d' rd v f fs ds vs Q r nd mu rs nds mus dj hh k
  unfold hAppend at hh
  split at hh
  · split at hh
    · rename_i l e hl
      cases hh
      obtain ⟨w, rfl, re⟩ := reps1 rs
      obtain ⟨a, us, gs, rfl, rfl, ha, hr⟩ := own_list r mu
      have nd' := List.nodup_cons.mp nd
      have na : a ∉ gs ++ fs := fun z => (List.mem_append.mp z).elim nd'.1 (dj a List.mem_cons_self)
      refine ⟨a, us, w, rfl, rfl, ha, lim_lt (by rw [reps_len hr]; exact hl), ?_⟩
      refine k _ a (.lst (us ++ [w])) (a :: (gs ++ fs)) List.mem_cons_self trivial (own_list' (reps_app hr (reps_one re)) ha na) ?_ ?_ (rep_non.mpr ⟨rfl, rfl⟩) rfl
      · exact List.nodup_cons.mpr ⟨na, List.nodup_append.mpr ⟨nd'.2, nds, fun x hx y hy => by rintro rfl; exact dj x (List.mem_cons_of_mem _ hx) hy⟩⟩
      · intro x hx
        rcases List.mem_cons.mp hx with rfl | hx
        · exact .inl List.mem_cons_self
        · exact (List.mem_append.mp hx).imp (fun z => List.mem_cons_of_mem _ z) id
    · cases hh
  · cases hh
/-- rows of what is never written, changed anyhow -/
theorem m_list {r : V → List V → Hp → VK → Prop} {h : D → List D → Option (D × D)} (key : ∀ (l : List D) (ds : List D) (rd d' : D), h (.lst l) ds = some (rd, d') → imms l = true ∧ imms ds = true ∧ imm rd = true ∧ ∃ l', d' = .lst l' ∧ imms l' = true ∧
      ∀ (C : Str → Addr) (H : Hp) (a : Addr) (vs us : List V) (Q : VK), H a = some (.lst vs) → Reps K false C H l vs [] → Reps K false C H ds us [] → (∀ rv vs', Rep K false C H rd rv [] → Reps K false C H l' vs' [] → Q rv (upd H a (.lst vs'))) → r (.ref a) us H Q)
    (lst : ∀ d ds x, h d ds = some x → ∃ l, d = .lst l) : MutR K r h := by
  intro C H d d' rd v f fs ds vs Q rr nd mu rs nds mus dj hh k
  obtain ⟨l, rfl⟩ := lst _ _ _ hh
  obtain ⟨c1, c2, c3, l', rfl, c4, run⟩ := key _ _ _ _ hh
  obtain ⟨a, us, gs, rfl, rfl, ha, hr⟩ := own_list rr mu
  have e1 := reps_imm hr c1
  have e2 := reps_imm rs c2
  subst e1; subst e2
  refine run C H a us vs Q ha hr rs fun rv vs' r1 r2 => ?_
  refine k rv a (.lst vs') [a] List.mem_cons_self trivial (own_list' r2 ha (by simp)) (by simp) (fun x hx => .inl hx) ?_ c3
  rw [if_pos c3]
  exact rep_K (rep_upd r1 (by simp) (by rw [ha]; trivial))
theorem reps_erase {kl : Bool} {C : Str → Addr} {H : Hp} : ∀ {l : List D} {vs : List V} {n : Nat}, Reps K kl C H l vs [] → imms l = true → Reps K kl C H (l.eraseIdx n) (vs.eraseIdx n) [] ∧ imms (l.eraseIdx n) = true
  | [], vs, n, h, c => by unfold Reps at h; obtain ⟨rfl, _⟩ := h; exact ⟨reps_nil, rfl⟩
  | d :: l, vs, n, h, c => by
    unfold Reps at h
    unfold imms at c
    obtain ⟨v, vs', f1, f2, rfl, e, h1, h2⟩ := h
    have c' := Bool.and_eq_true_iff.mp c
    rw [rep_imm h1 c'.1] at h1
    rw [reps_imm h2 c'.2] at h2
    cases n with
    | zero => exact ⟨h2, c'.2⟩
    | succ n =>
      obtain ⟨r, i⟩ := reps_erase (n := n) h2 c'.2
      exact ⟨reps_cons (f1 := []) (f2 := []) h1 r, by show imms (d :: _) = true; unfold imms; rw [c'.1, i]; rfl⟩
theorem imms_get {l : List D} {i : Nat} {d : D} : imms l = true → l[i]? = some d → imm d = true := fun c e => by
  induction l generalizing i with
  | nil => simp at e
  | cons x l ih =>
    unfold imms at c
    have c' := Bool.and_eq_true_iff.mp c
    cases i with
    | zero => simp at e; subst e; exact c'.1
    | succ i => exact ih c'.2 (by simpa using e)
theorem reps_item {kl : Bool} {C : Str → Addr} {H : Hp} {l : List D} {vs : List V} {i : Nat} {d : D} (h : Reps K kl C H l vs []) (c : imms l = true) (e : l[i]? = some d) : ∃ v, vs[i]? = some v ∧ Rep K kl C H d v [] := by
  obtain ⟨v, fa, f, fb, ev, ef, r, _⟩ := reps_split h e
  have i := rep_imm r (imms_get c e)
  subst i
  exact ⟨v, ev, r⟩
/-- xs.pop(i) -/
def hPopAt : D → List D → Option (D × D)
  | .lst l, [.int i] => if imms l = true ∧ l.length ≤ LIM then (match ixN l.length i with
    | some j => (match l[j]? with
      | some d => some (d, .lst (l.eraseIdx j))
      | none => none)
    | none => none) else none
  | _, _ => none
theorem m_popAt : MutR K rPopAt hPopAt := by
  refine m_list (fun l ds rd d' hh => ?_) (fun d ds x hh => ?_)
  · unfold hPopAt at hh
    split at hh
    · rename_i l0 i el
      cases el
      split at hh
      · rename_i c
        split at hh
        · rename_i j ej
          split at hh
          · rename_i d ed
            cases hh
            refine ⟨c.1, rfl, imms_get c.1 ed, _, rfl, ?_, fun C H a vs us Q ha hr hs k => ?_⟩
            · have : ∀ {l : List D} {n : Nat}, imms l = true → imms (l.eraseIdx n) = true := by
                intro l
                induction l with
                | nil => intro n _; rfl
                | cons x l ih =>
                  intro n c
                  unfold imms at c
                  have c' := Bool.and_eq_true_iff.mp c
                  cases n with
                  | zero => exact c'.2
                  | succ n => show imms (x :: _) = true; unfold imms; rw [c'.1, ih c'.2]; rfl
              exact this c.1
            · obtain ⟨w, rfl, ri⟩ := reps1 hs
              obtain ⟨rfl, _⟩ := rep_int.mp ri
              obtain ⟨y, ey, ry⟩ := reps_item hr c.1 ed
              have hl := reps_len hr
              obtain ⟨s1, s2, s3, s4⟩ := ixN_seq ej
              have hL : (LIM : Nat) < 2 ^ 63 := by decide
              refine ⟨a, vs, i, j, y, rfl, rfl, ha, by omega, by omega, by rw [hl]; exact s1, ey, ?_⟩
              exact k y _ ry (reps_erase hr c.1).1
          · cases hh
        · cases hh
      · cases hh
    · cases hh
  · unfold hPopAt at hh
    split at hh
    · exact ⟨_, rfl⟩
    · cases hh
/-- xs.pop() -/
def hPop : D → List D → Option (D × D)
  | .lst l, [] => if imms l = true then (match l[l.length - 1]? with
    | some d => some (d, .lst l.dropLast)
    | none => none) else none
  | _, _ => none
theorem dropLast_erase {α : Type} : ∀ (l : List α), l.dropLast = l.eraseIdx (l.length - 1)
  | [] => rfl
  | [x] => rfl
  | x :: y :: l => by
    show x :: (y :: l).dropLast = x :: (y :: l).eraseIdx (l.length)
    rw [dropLast_erase (y :: l)]
    rfl
theorem imms_erase : ∀ {l : List D} {n : Nat}, imms l = true → imms (l.eraseIdx n) = true := by
  intro l
  induction l with
  | nil => intro n _; rfl
  | cons x l ih =>
    intro n c
    unfold imms at c
    have c' := Bool.and_eq_true_iff.mp c
    cases n with
    | zero => exact c'.2
    | succ n => show imms (x :: _) = true; unfold imms; rw [c'.1, ih c'.2]; rfl
theorem m_pop : MutR K rPop hPop := by
  refine m_list (fun l ds rd d' hh => ?_) (fun d ds x hh => ?_)
  · unfold hPop at hh
    split at hh
    · rename_i l0 el
      cases el
      split at hh
      · rename_i c
        split at hh
        · rename_i d ed
          cases hh
          refine ⟨c, rfl, imms_get c ed, _, rfl, by rw [dropLast_erase]; exact imms_erase c, fun C H a vs us Q ha hr hs k => ?_⟩
          unfold Reps at hs
          obtain ⟨rfl, _⟩ := hs
          obtain ⟨y, ey, ry⟩ := reps_item hr c ed
          have hl := reps_len hr
          refine ⟨a, vs, y, rfl, rfl, ha, by rw [hl]; exact ey, ?_⟩
          refine k y _ ry ?_
          rw [dropLast_erase, dropLast_erase, hl]
          exact (reps_erase hr c).1
        · cases hh
      · cases hh
    · cases hh
  · unfold hPop at hh
    split at hh
    · exact ⟨_, rfl⟩
    · cases hh
def hClear : D → List D → Option (D × D)
  | .lst l, [] => if imms l = true then some (.non, .lst []) else none
  | _, _ => none
theorem m_clear : MutR K rClear hClear := by
  refine m_list (fun l ds rd d' hh => ?_) (fun d ds x hh => ?_)
  · unfold hClear at hh
    split at hh
    · rename_i l0 el
      cases el
      split at hh
      · rename_i c
        cases hh
        refine ⟨c, rfl, rfl, _, rfl, rfl, fun C H a vs us Q ha hr hs k => ?_⟩
        unfold Reps at hs
        obtain ⟨rfl, _⟩ := hs
        exact ⟨a, vs, rfl, rfl, ha, k _ [] (rep_non.mpr ⟨rfl, rfl⟩) reps_nil⟩
      · cases hh
    · cases hh
  · unfold hClear at hh
    split at hh
    · exact ⟨_, rfl⟩
    · cases hh
def hReverse : D → List D → Option (D × D)
  | .lst l, [] => if imms l = true then some (.non, .lst l.reverse) else none
  | _, _ => none
theorem m_reverse : MutR K rReverse hReverse := by
  refine m_list (fun l ds rd d' hh => ?_) (fun d ds x hh => ?_)
  · unfold hReverse at hh
    split at hh
    · rename_i l0 el
      cases el
      split at hh
      · rename_i c
        cases hh
        refine ⟨c, rfl, rfl, _, rfl, by rw [imms_reverse]; exact c, fun C H a vs us Q ha hr hs k => ?_⟩
        unfold Reps at hs
        obtain ⟨rfl, _⟩ := hs
        exact ⟨a, vs, rfl, rfl, ha, k _ _ (rep_non.mpr ⟨rfl, rfl⟩) (reps_reverse hr c)⟩
      · cases hh
    · cases hh
  · unfold hReverse at hh
    split at hh
    · exact ⟨_, rfl⟩
    · cases hh
def hInsert : D → List D → Option (D × D)
  | .lst l, [.int i, e] => if imms l = true ∧ imm e = true ∧ l.length < LIM ∧ 0 ≤ i ∧ i < 2 ^ 62 then some (.non, .lst (l.take i.toNat ++ [e] ++ l.drop i.toNat)) else none
  | _, _ => none
theorem m_insert : MutR K (fun x vs H Q => ∃ (l : Addr) (xs : List V) (i : Int) (y : V), x = .ref l ∧ vs = [.int i, y] ∧ H l = some (.lst xs) ∧ xs.length < sizeLine ∧ 0 ≤ i ∧ i < 2 ^ 63 ∧
    Q .non (upd H l (.lst (xs.take i.toNat ++ [y] ++ xs.drop i.toNat)))) hInsert := by
  refine m_list (fun l ds rd d' hh => ?_) (fun d ds x hh => ?_)
  · unfold hInsert at hh
    split at hh
    · rename_i l0 i e el
      cases el
      split at hh
      · rename_i c
        cases hh
        obtain ⟨c1, c2, c3, c4, c5⟩ := c
        have ci : ∀ n, imms (l.take n) = true ∧ imms (l.drop n) = true := fun n => by
          have : imms (l.take n ++ l.drop n) = true := by rw [List.take_append_drop]; exact c1
          rw [imms_append] at this
          exact Bool.and_eq_true_iff.mp this
        refine ⟨c1, by unfold imms imms; rw [c2]; rfl, rfl, _, rfl, ?_, fun C H a vs us Q ha hr hs k => ?_⟩
        · rw [imms_append, imms_append, (ci _).1, (ci _).2]
          unfold imms imms
          rw [c2]
          rfl
        · obtain ⟨w1, w2, f1, f2, rfl, ef, ri, re⟩ := reps2 hs
          obtain ⟨rfl, rfl⟩ := rep_int.mp ri
          rw [rep_imm re c2] at re
          refine ⟨a, vs, i, w2, rfl, rfl, ha, lim_lt (by rw [reps_len hr]; exact c3), c4, by omega, ?_⟩
          exact k _ _ (rep_non.mpr ⟨rfl, rfl⟩) (reps_app (f := []) (g := []) (reps_app (f := []) (g := []) (reps_take _ hr c1).1 (reps_one re)) (reps_drop _ hr c1).1)
      · cases hh
    · cases hh
  · unfold hInsert at hh
    split at hh
    · exact ⟨_, rfl⟩
    · cases hh
def hExtend : D → List D → Option (D × D)
  | .lst l, [.lst m] => if imms l = true ∧ imms m = true ∧ l.length + m.length ≤ LIM then some (.non, .lst (l ++ m)) else none
  | _, _ => none
theorem m_extend : MutR K rExtend hExtend := by
  intro C H d d' rd v f fs ds vs Q r nd mu rs nds mus dj hh k
  unfold hExtend at hh
  split at hh
  · split at hh
    · rename_i l m c
      cases hh
      obtain ⟨c1, c2, c3⟩ := c
      obtain ⟨w, rfl, re⟩ := reps1 rs
      obtain ⟨a, us, gs, rfl, rfl, ha, hr⟩ := own_list r mu
      have e1 := reps_imm hr c1
      subst e1
      obtain ⟨b, ws, hs, rfl, hr2, hb⟩ := rep_lst.mp re
      have e2 := reps_imm hr2 c2
      subst e2
      rcases hb with ⟨hb, rfl⟩ | ⟨q, _⟩
      · have hb' : H b = some (.lst ws) := by
          rcases hb with z | ⟨o, z⟩
          · exact z
          · have := mus b List.mem_cons_self
            rw [z] at this
            exact this.elim
        refine ⟨a, b, us, ws, rfl, rfl, ha, hb', lim_le (by rw [reps_len hr, reps_len hr2]; exact c3), ?_⟩
        exact k _ a (.lst (us ++ ws)) [a] List.mem_cons_self trivial (own_list' (reps_app (f := []) (g := []) hr hr2) ha (by simp)) (by simp) (fun x hx => .inl hx) (rep_non.mpr ⟨rfl, rfl⟩) rfl
      · cases q
    · cases hh
  · cases hh
end

/-! ### the call of such a method -/
def vaL : List Ag → Option (List D)
  | .va d :: gs => (match vaL gs with
    | some ds => some (d :: ds)
    | none => none)
  | .nm _ :: _ => none
  | [] => some []
theorem vaL_of : ∀ {gs : List Ag} {ds : List D}, vaL gs = some ds → gs = ds.map .va
  | [], ds, h => by cases h; rfl
  | .va d :: gs, ds, h => by
    unfold vaL at h
    split at h
    · cases h; rw [List.map_cons, ← vaL_of (gs := gs) (by assumption)]
    · cases h
  | .nm i :: gs, ds, h => by cases h
theorem tm_va {σ : L2.St} : ∀ {ds : List D} {vs : List V}, Agr σ (ds.map .va) vs → tmV (ds.map .va) vs = vs.map some ∧ tmD (ds.map .va) = ds
  | [], [], _ => ⟨rfl, rfl⟩
  | d :: ds, v :: vs, h => by
    obtain ⟨h1, h2⟩ := tm_va (ds := ds) (vs := vs) h
    exact ⟨by simp [tmV, h1], by simp [tmD, h2]⟩
section
variable {B : Bs}
/-- values of one's own, as a row of data -/
theorem St.owns_reps : ∀ {ds : List D} {vs : List V} {σ : L2.St} {H : Hp} {env : Env} {φ : Nat → Fp}, St B (σ ++ vs.map some) H (env ++ owns ds) φ → σ.length = env.length →
    ∃ fs, Reps B.K false B.C H ds vs fs ∧ fs.Nodup ∧ (∀ a ∈ fs, Mut (H a)) ∧ ∀ a ∈ fs, ∃ k, k < ds.length ∧ a ∈ φ (env.length + k)
  | [], vs, σ, H, env, φ, S, hl => by
    have : vs = [] := by
      have := S.len
      simp [owns] at this
      have : vs.length = 0 := by omega
      exact List.length_eq_zero_iff.mp this
    subst this
    exact ⟨[], reps_nil, .nil, (fun a h => nomatch h), fun a h => nomatch h⟩
  | d :: ds, vs, σ, H, env, φ, S, hl => by
    cases vs with
    | nil =>
      have := S.len
      simp [owns] at this
      omega
    | cons v vs =>
      have S2 : St B ((σ ++ [some v]) ++ vs.map some) H ((env ++ [some ⟨.own, d⟩]) ++ owns ds) φ := by simpa [owns] using S
      obtain ⟨fs, r, nd, mu, sub⟩ := St.owns_reps S2 (by simp [hl])
      have S3 := S2.trunc (by simp [hl])
      obtain ⟨r0, nd0, mu0⟩ := S3.last
      have dj : ∀ a ∈ φ env.length, a ∉ fs := fun a ha hb => by
        obtain ⟨k, hk, q⟩ := sub a hb
        have e1 : ((env ++ [some ⟨.own, d⟩]) ++ owns ds)[env.length]? = some (some (⟨.own, d⟩ : Slot)) := by
          rw [List.append_assoc, List.getElem?_append_right (Nat.le_refl _)]
          simp
        have e2 : ((env ++ [some ⟨.own, d⟩]) ++ owns ds)[(env ++ [some (⟨.own, d⟩ : Slot)]).length + k]? = some (some (⟨.own, ds[k]⟩ : Slot)) := by
          rw [List.getElem?_append_right (by omega), Nat.add_sub_cancel_left]
          unfold owns
          rw [List.getElem?_map, List.getElem?_eq_getElem hk]
          rfl
        exact S2.excl _ _ _ _ (by simp; omega) e1 e2 rfl a ha q
      refine ⟨φ env.length ++ fs, reps_cons r0 r, List.nodup_append.mpr ⟨nd0, nd, fun a ha b hb => by rintro rfl; exact dj a ha hb⟩, fun a ha => ?_, fun a ha => ?_⟩
      · exact (List.mem_append.mp ha).elim (fun q => (mu0 a q).1) (mu a)
      · rcases List.mem_append.mp ha with q | q
        · exact ⟨0, by simp, by simpa using q⟩
        · obtain ⟨k, hk, z⟩ := sub a q
          refine ⟨k + 1, by simp; omega, ?_⟩
          have e : (env ++ [some (⟨.own, d⟩ : Slot)]).length + k = env.length + (k + 1) := by simp; omega
          rw [← e]
          exact z
end
def tyD (T : String) : D → Bool
  | .lst _ => T == "list"
  | _ => false
theorem ty_of {K : PySem.W.Frag} {C : Str → Addr} {H : Hp} {T : String} {d : D} {v : V} {f : Fp} (h : tyD T d = true) (r : Rep K true C H d v f) : tyV K T v H := by
  cases d with
  | lst l =>
    obtain ⟨a, vs, fs, rfl, hl, _⟩ := rep_sql r
    exact .inl ⟨eq_of_beq h, vs, hl⟩
  | _ => cases h
/-- the change of a name's object -/
def chgS (h : D → List D → Option (D × D)) (ds : List D) (i : Nat) (env : Env) : Option (R D) := match env[i]? with
  | some (some s) => if s.m.ex = true then (match h s.d ds with
    | some (rd, d') => if imm rd = true then some (.ok rd (env.set i (some ⟨s.m, d'⟩))) else none
    | none => none) else none
  | _ => none
def mMeth (T : String) (h : D → List D → Option (D × D)) (i : Nat) (a : Env → Option (R (List Ag))) : MF := fun env => match fVar i env with
  | some d0 => if tyD T d0 = true then (match a env with
    | some (.ok gs env1) => (match vaL gs with
      | some ds => chgS h ds i env1
      | none => none)
    | some (.exc c env1) => some (.exc c env1)
    | none => none) else none
  | none => none
section
variable {X : Cx} {W : WX} {e : Expr} {es : List Expr} {pos : Pos} {K : PySem.W.Frag}
theorem chg_of {B : Bs} {r : V → List V → Hp → VK → Prop} {h : D → List D → Option (D × D)} {σ τ : L2.St} {H : Hp} {env te : Env} {φ : Nat → Fp} {i : Nat} {ds : List D} {vs : List V} {v : V} {Q : VK} {rd : D} {env' : Env} (mr : MutR B.K r h) (hl : σ.length = env.length) (hvl : vs.length = ds.length)
    (S : St B (σ ++ τ ++ vs.map some) H (env ++ te ++ owns ds) φ) (hv : σ[i]? = some (some v)) (q : chgS h ds i env = some (.ok rd env'))
    (k : ∀ w H' φ', St B (σ ++ τ ++ [some w]) H' (env' ++ te ++ [some ⟨.own, rd⟩]) φ' → env'.length = env.length → Q w H') : r v vs H Q := by
  unfold chgS at q
  split at q
  · rename_i s es'
    split at q
    · rename_i hx
      split at q
      · rename_i rd' d' eh
        split at q
        · rename_i hi
          cases q
          obtain ⟨hil, _⟩ := List.getElem?_eq_some_iff.mp es'
          have hτ : (σ ++ τ).length = (env ++ te).length := by
            have := S.len
            simp [owns] at this
            simp
            omega
          obtain ⟨fs, rs, nds, mus, sub⟩ := S.owns_reps hτ
          have e1 : (env ++ te)[i]? = some (some s) := by rw [List.getElem?_append_left hil]; exact es'
          have e2 : (env ++ te ++ owns ds)[i]? = some (some s) := by rw [List.getElem?_append_left (by rw [List.length_append]; omega)]; exact e1
          have v1 : (σ ++ τ)[i]? = some (some v) := by rw [List.getElem?_append_left (by omega)]; exact hv
          obtain ⟨w, ew, ok⟩ := S.ok i s e2
          rw [List.getElem?_append_left (by rw [List.length_append]; omega), v1] at ew
          cases ew
          obtain ⟨r0, nd0, mu0⟩ := ok.mk_ex hx
          have dj : ∀ a ∈ φ i, a ∉ fs := fun a ha hb => by
            obtain ⟨k, hk, z⟩ := sub a hb
            have e3 : (env ++ te ++ owns ds)[(env ++ te).length + k]? = some (some (⟨.own, ds[k]⟩ : Slot)) := by
              rw [List.getElem?_append_right (by omega), Nat.add_sub_cancel_left]
              unfold owns
              rw [List.getElem?_map, List.getElem?_eq_getElem hk]
              rfl
            exact S.excl i _ s _ (by rw [List.length_append]; omega) e2 e3 hx a ha z
          obtain ⟨m, d⟩ := s
          refine mr B.C H d d' rd v (φ i) fs ds vs Q r0 nd0 (fun a ha => (mu0 a ha).1) rs nds mus dj eh fun rv x o' f' hxf mo rn ndn subn rrv _ => ?_
          have S2 := S.write hτ e1 hx v1 hxf mo rn ndn fun a ha => (subn a ha).imp id (sub a)
          rw [if_pos hi] at rrv
          have S3 := S2.pushImm (rep_immK rrv hi)
          rw [List.set_append_left _ _ hil] at S3
          exact k rv _ _ S3 (by simp)
        · cases q
      · cases q
    · cases q
  · cases q
/-- x.m(e, ..) -/
theorem dm_meth {T id : String} {x name : Str} {apos cpos p1 : Pos} {i : Nat} {r : V → List V → Hp → VK → Prop} {h : D → List D → Option (D × D)} {a : Env → Option (R (List Ag))} (mr : MutR X.K r h) (pa : PlainAttrs T) (slot : PySem.Slot T name id) (hty : typeOf (.builtin id) = pure (.type "method_descriptor"))
    (hm : MtR X id r) (hN : X.N[i]? = some x) (hv : Vis X.env.scope x) (ha : DAM X W (e :: es) a)
    (hbase : attributeBase (.Name x p1) name X.env (eval (.Name x p1) X.env) = eval (.Name x p1) X.env := by rfl)
    (hfew : ((backTo cpos (starEach (e :: es) X.env)).all (fun x => !x.1) && (backToKw cpos (keywordEach [] X.env)).all (fun x => x.1.isSome)
      && decide ((e :: es).length + ([] : List Keyword).length + (if ([] : List Keyword).isEmpty then 0 else 1) < 30)) = true := by rfl)
    (hline : (apos.endLine == cpos.line) = true := by rfl) (hs : starEach (e :: es) X.env = (false, eval e X.env) :: starEach es X.env := by rfl) (hplain : (backTo cpos (starEach es X.env)).any (·.1) = false := by rfl)
    (hd : (x == ("__debug__" : Str)) = false := by decide) (hcd : (x == ("__classdict__" : Str)) = false := by decide) :
    DM X W (.Call (.Attribute (.Name x p1) name apos) (e :: es) [] cpos) (mMeth T h i a) := ⟨fun B hB => (pe_bm pa slot hty hm (pe_var hN hv hd hcd) (ha.pa B hB) hbase hfew hline hs hplain).imp fun σ H Q ⟨τ, te, env, φ, rr, hl, S, q, k⟩ => by
  unfold mMeth at q
  split at q
  · rename_i d0 q0
    obtain ⟨s0, es0, rfl⟩ := fVar_of q0
    obtain ⟨v, ev, rv⟩ := (S.trunc hl).get es0
    split at q
    · rename_i ht
      refine ⟨v, ev, hB ▸ ty_of ht rv, τ, te, env, φ, ?_⟩
      split at q
      · rename_i gs env1 q1
        split at q
        · rename_i ds hds
          refine ⟨_, hl, S, q1, fun vs H1 φ1 S1 l1 ag => ?_⟩
          have eg := vaL_of hds
          subst eg
          obtain ⟨t1, t2⟩ := tm_va ag
          rw [t1, t2] at S1
          have hvl : vs.length = ds.length := by have := ag.len; simpa using this
          cases rr with
          | ok rd env' => exact chg_of (hB ▸ mr) (by omega) hvl S1 ev q fun w H' φ' S' l' => k w H' φ' S' (by omega)
          | exc c env' =>
            unfold chgS at q
            split at q
            · split at q
              · split at q
                · split at q
                  · cases q
                  · cases q
                · cases q
              · cases q
            · cases q
        · cases q
      · rename_i c env1 q1
        cases q
        exact ⟨_, hl, S, q1, k⟩
      · cases q
    · cases q
  · cases q⟩
/-- x.m() -/
theorem dm_meth0 {T id : String} {x name : Str} {apos cpos p1 : Pos} {i : Nat} {r : V → List V → Hp → VK → Prop} {h : D → List D → Option (D × D)} (mr : MutR X.K r h) (pa : PlainAttrs T) (slot : PySem.Slot T name id) (hty : typeOf (.builtin id) = pure (.type "method_descriptor"))
    (hm : MtR X id r) (hN : X.N[i]? = some x) (hv : Vis X.env.scope x)
    (hbase : attributeBase (.Name x p1) name X.env (eval (.Name x p1) X.env) = eval (.Name x p1) X.env := by rfl) (hline : (apos.endLine == cpos.line) = true := by rfl)
    (hd : (x == ("__debug__" : Str)) = false := by decide) (hcd : (x == ("__classdict__" : Str)) = false := by decide) :
    DM X W (.Call (.Attribute (.Name x p1) name apos) [] [] cpos) (mMeth T h i aNil) := ⟨fun B hB => (pe_bm0 pa slot hty hm (pe_var hN hv hd hcd) hbase hline).imp fun σ H Q ⟨τ, te, env, φ, rr, hl, S, q, k⟩ => by
  unfold mMeth at q
  split at q
  · rename_i d0 q0
    obtain ⟨s0, es0, rfl⟩ := fVar_of q0
    obtain ⟨v, ev, rv⟩ := (S.trunc hl).get es0
    split at q
    · rename_i ht
      refine ⟨v, ev, hB ▸ ty_of ht rv, ?_⟩
      have q2 : chgS h [] i env = some rr := q
      cases rr with
      | ok rd env' => exact chg_of (vs := []) (ds := []) (hB ▸ mr) hl rfl (by simpa [owns] using S) ev q2 fun w H' φ' S' l' => k w H' φ' S' l'
      | exc c env' =>
        unfold chgS at q2
        split at q2
        · split at q2
          · split at q2
            · split at q2
              · cases q2
              · cases q2
            · cases q2
          · cases q2
        · cases q2
    · cases q
  · cases q⟩
end
end DL


set_option Elab.async false
set_option linter.all false
set_option maxRecDepth 100000
/-! The data layer, part 15: what is assigned to. -/
namespace DL
open PySem PySem.Spec PyProof.Rows L2

abbrev TgO := D → Env → Option Env
abbrev TgsO := List D → Env → Option Env
def gO (B : Bs) (tg : TgO) : TG := fun v σ H Q => ∃ τ te env φ d env', σ.length = env.length ∧ St B (σ ++ τ ++ [some v]) H (env ++ te ++ [some ⟨.own, d⟩]) φ ∧ tg d env = some env' ∧ ∀ σ' H' φ', St B (σ' ++ τ) H' (env' ++ te) φ' → env'.length = env.length → Q σ' H'
def gsO (B : Bs) (tg : TgsO) : TGs := fun vs σ H Q => ∃ τ te env φ ds env', σ.length = env.length ∧ vs.length = ds.length ∧ St B (σ ++ τ ++ vs.reverse.map some) H (env ++ te ++ owns ds.reverse) φ ∧ tg ds env = some env' ∧ ∀ σ' H' φ', St B (σ' ++ τ) H' (env' ++ te) φ' → env'.length = env.length → Q σ' H'
structure DO (X : Cx) (e : Expr) (tg : TgO) : Prop where
  pg : ∀ B : Bs, B.K = X.K → L2.PG X e (gO B tg)
structure DOs (X : Cx) (es : List Expr) (tg : TgsO) : Prop where
  pg : ∀ B : Bs, B.K = X.K → PGs X es (gsO B tg)
def toN (i : Nat) : TgO := fun d env => if canSet env i = true then some (env.set i (some ⟨.own, d⟩)) else none
def toIx (i : Nat) (f : DF) : TgO := fun d env => match env[i]?, f env with
  | some (some ⟨m, .lst l⟩), some (.int k) => if m.ex = true ∧ l.length ≤ LIM then (match ixN l.length k with
    | some j => some (env.set i (some ⟨m, .lst (l.set j d)⟩))
    | none => none) else none
  | _, _ => none
def toNil : TgsO := fun ds env => match ds with
  | [] => some env
  | _ => none
def toCons (t : TgO) (u : TgsO) : TgsO := fun ds env => match ds with
  | d :: r => (match t d env with
    | some env' => u r env'
    | none => none)
  | [] => none
def toT (n : Nat) (u : TgsO) : TgO := fun d env => match d with
  | .tup l => if l.length = n then u l env else none
  | _ => none
def toL (n : Nat) (u : TgsO) : TgO := fun d env => match d with
  | .lst l => if l.length = n then u l env else none
  | _ => none
section
variable {B : Bs}
/-- a row laid in the place of the whole -/
theorem St.unpack : ∀ {ds : List D} {vs : List V} {σ : L2.St} {H : Hp} {env : Env} {φ : Nat → Fp} {fp : Fp}, St B σ H env φ → Reps B.K false B.C H ds vs fp → fp.Nodup → (∀ a ∈ fp, Mut (H a) ∧ OldO B a) → (∀ (i : Nat) (s : Slot), env[i]? = some (some s) → ∀ a ∈ fp, a ∉ φ i) →
    ∃ φ', St B (σ ++ vs.reverse.map some) H (env ++ owns ds.reverse) φ' ∧ ∀ (i : Nat) (s : Slot), (env ++ owns ds.reverse)[i]? = some (some s) → (i < env.length ∧ φ' i = φ i) ∨ ∀ a ∈ φ' i, a ∈ fp
  | [], vs, σ, H, env, φ, fp, S, r, nd, mu, dj => by
    unfold Reps at r
    obtain ⟨rfl, rfl⟩ := r
    refine ⟨φ, by simpa [owns] using S, fun i s h => .inl ?_⟩
    have h' : env[i]? = some (some s) := by simpa [owns] using h
    exact ⟨(List.getElem?_eq_some_iff.mp h').1, rfl⟩
  | d :: ds, vs, σ, H, env, φ, fp, S, r, nd, mu, dj => by
    unfold Reps at r
    obtain ⟨v, vs', f1, f2, rfl, rfl, r1, r2⟩ := r
    obtain ⟨n1, n2, n3⟩ := List.nodup_append.mp nd
    obtain ⟨φ1, S1, k1⟩ := St.unpack S r2 n2 (fun a ha => mu a (List.mem_append_right _ ha)) fun i s h a ha => dj i s h a (List.mem_append_right _ ha)
    have S2 := S1.push r1 n1 (fun a ha => mu a (List.mem_append_left _ ha)) fun i s h a ha hb => by
      rcases k1 i s h with ⟨hi, e⟩ | z
      · rw [e] at hb
        rw [List.getElem?_append_left hi] at h
        exact dj i s h a (List.mem_append_left _ ha) hb
      · exact n3 a ha a (z a hb) rfl
    have e1 : σ ++ (v :: vs').reverse.map some = σ ++ vs'.reverse.map some ++ [some v] := by simp
    have e2 : env ++ owns (d :: ds).reverse = env ++ owns ds.reverse ++ [some ⟨.own, d⟩] := by simp [owns]
    refine ⟨fset φ1 (env ++ owns ds.reverse).length f1, by rw [e1, e2]; exact S2, fun i s h => ?_⟩
    have h' : ((env ++ owns ds.reverse) ++ [some (⟨.own, d⟩ : Slot)])[i]? = some (some s) := by simpa [owns] using h
    rcases get_snoc h' with ⟨hi, h2⟩ | ⟨rfl, _⟩
    · rw [fset_ne (by omega)]
      exact (k1 i s h2).imp id fun z a ha => List.mem_append_right _ (z a ha)
    · rw [fset_same]
      exact .inr fun a ha => List.mem_append_left _ ha
end
theorem reps_setR {K : PySem.W.Frag} {kl : Bool} {C : Str → Addr} {H : Hp} : ∀ {l : List D} {vs : List V} {fs : Fp} {j : Nat} {d : D} {v : V} {f : Fp}, Reps K kl C H l vs fs → j < l.length → Rep K kl C H d v f → ∃ fs', Reps K kl C H (l.set j d) (vs.set j v) fs' ∧ ∃ fx fy fz, fs = fx ++ fy ++ fz ∧ fs' = fx ++ f ++ fz
  | [], vs, fs, j, d, v, f, h, hj, hd => by simp at hj
  | x :: l, vs, fs, j, d, v, f, h, hj, hd => by
    unfold Reps at h
    obtain ⟨u, us, f1, f2, rfl, rfl, h1, h2⟩ := h
    cases j with
    | zero => exact ⟨f ++ f2, ⟨v, us, f, f2, rfl, rfl, hd, h2⟩, [], f1, f2, rfl, rfl⟩
    | succ j =>
      obtain ⟨fs', r', fx, fy, fz, rfl, rfl⟩ := reps_setR h2 (j := j) (by simpa using hj) hd
      exact ⟨f1 ++ (fx ++ f ++ fz), ⟨u, us.set j v, f1, _, rfl, rfl, h1, r'⟩, f1 ++ fx, fy, fz, by simp, by simp⟩
section
variable {X : Cx} {W : WX} {pos : Pos}
theorem do_name {i : Nat} {x : Str} (hN : X.N.Nodup) (hi : X.N[i]? = some x) (hx : Loc X.env.scope x) (hf : X.fn x = true ∨ X.env.scope.names.lookup x = some .local := by first | exact .inl rfl | exact .inr rfl | assumption) : DO X (.Name x pos) (toN i) :=
  ⟨fun B hB => (pg_name hN hi hx hf).imp fun v σ H Q ⟨τ, te, env, φ, d, env', hl, S, q, k⟩ => by
    unfold toN at q
    split at q
    · rename_i c
      cases q
      have hi := canSet_lt c
      have S2 := S.move (i := i) (.inl rfl) (by rw [List.length_append]; omega)
      rw [List.set_append_left _ _ hi, List.set_append_left _ _ (by omega)] at S2
      exact k _ H _ S2 (by simp)
    · cases q⟩
theorem do_ix {i : Nat} {x : Str} {p1 : Pos} {b : Expr} {f : DF} (hN : X.N[i]? = some x) (hv : Vis X.env.scope x) (hb : DP X b f) (hd : (x == ("__debug__" : Str)) = false := by decide) (hcd : (x == ("__classdict__" : Str)) = false := by decide)
    (h : ∀ to ti, PE X (.Name x p1) to → PE X b ti → L2.PG X (.Subscript (.Name x p1) b pos) (L2.gSub to ti rSetL)) : DO X (.Subscript (.Name x p1) b pos) (toIx i f) :=
  ⟨fun B hB => (h _ _ (pe_var hN hv hd hcd) (hb.pe B hB)).imp fun v σ H Q ⟨τ, te, env, φ, d, env', hl, S, q, k⟩ => by
    unfold toIx at q
    split at q
    · rename_i m l kk e1 e2
      split at q
      · rename_i c
        split at q
        · rename_i j ej
          cases q
          obtain ⟨hil, _⟩ := List.getElem?_eq_some_iff.mp e1
          have S0 := S.pop
          obtain ⟨w, ew, _⟩ := (S0.trunc hl).get e1
          refine ⟨w, ew, env, φ, _, S0.trunc hl, e2, fun u H2 fp2 ex r2 _ => ?_⟩
          have S1 := S.ex ex
          have hτ : (σ ++ τ).length = (env ++ te).length := by have := S.len; simp at this; simp; omega
          have e3 : (env ++ te)[i]? = some (some ⟨m, .lst l⟩) := by rw [List.getElem?_append_left hil]; exact e1
          have v3 : (σ ++ τ)[i]? = some (some w) := by rw [List.getElem?_append_left (by omega)]; exact ew
          have S1p := S1.pop
          obtain ⟨w', ew', ok⟩ := S1p.ok i _ e3
          rw [v3] at ew'
          cases ew'
          obtain ⟨r0, nd0, mu0⟩ := ok.mk_ex c.1
          obtain ⟨a, vs, fs, rfl, ef, ha, hr⟩ := own_list r0 fun a ha => (mu0 a ha).1
          obtain ⟨rd, ndd, mud⟩ := S1.last
          have hjl : j < l.length := (ixN_seq ej).2.1
          have ej' : l[j]? = some l[j] := List.getElem?_eq_getElem hjl
          obtain ⟨vj, fa, fj, fb, evj, rfl, rj, kj⟩ := reps_split hr ej'
          refine ⟨a, vs, kk, j, rfl, (rep_int.mp r2).1, ha, by rw [reps_len hr]; exact ej, ?_⟩
          have nd1 : (a :: (fa ++ fj ++ fb)).Nodup := ef ▸ nd0
          have dj : ∀ b ∈ φ i, b ∉ φ (env ++ te).length := fun b hb => S1.excl i _ _ ⟨.own, d⟩ (by rw [List.length_append]; omega) (by rw [List.getElem?_append_left (by rw [List.length_append]; omega)]; exact e3) (by simp) c.1 b hb
          rw [ef] at dj
          have hna := (List.nodup_cons.mp nd1).1
          have nsub := (List.nodup_cons.mp nd1).2
          have mua : Mut (H2 a) := by rw [ha]; trivial
          -- the new row
          have hjv : j < vs.length := by rw [reps_len hr]; exact hjl
          obtain ⟨fs', rs', fx, fy, fz, efs, efs'⟩ := reps_setR hr hjl rd
          rw [efs] at hna nsub dj
          have n1 : a ∉ fs' := by
            rw [efs']
            intro z
            simp only [List.mem_append] at z hna
            rcases z with (z | z) | z
            · exact hna (.inl (.inl z))
            · exact dj a List.mem_cons_self z
            · exact hna (.inr z)
          have nd' : (a :: fs').Nodup := by
            refine List.nodup_cons.mpr ⟨n1, ?_⟩
            rw [efs']
            have p1 := List.nodup_append.mp nsub
            have p2 := List.nodup_append.mp p1.1
            refine List.nodup_append.mpr ⟨List.nodup_append.mpr ⟨p2.1, ndd, fun x hx y hy => ?_⟩, p1.2.1, fun x hx y hy => ?_⟩
            · rintro rfl
              exact dj x (by simp [hx]) hy
            · rintro rfl
              rcases List.mem_append.mp hx with hx | hx
              · exact p1.2.2 x (List.mem_append_left _ hx) x hy rfl
              · exact dj x (by simp [hy]) hx
          have S2 := St.write (es := [d]) (d' := .lst (l.set j d)) (fp := a :: fs') (o' := .lst (vs.set j v)) (x := a) (by simpa [owns] using S1) hτ e3 c.1 v3 (by rw [ef]; exact List.mem_cons_self) trivial
            (own_list' rs' ha n1) nd' (fun x hx => by
              rcases List.mem_cons.mp hx with rfl | hx
              · left; rw [ef]; exact List.mem_cons_self
              · rw [efs'] at hx
                simp only [List.mem_append] at hx
                rcases hx with (hx | hx) | hx
                · left; rw [ef, efs]; simp [hx]
                · right; exact ⟨0, by simp, by simpa using hx⟩
                · left; rw [ef, efs]; simp [hx])
          rw [List.set_append_left _ _ hil] at S2
          exact k σ _ _ S2 (by simp)
        · cases q
      · cases q
    · cases q⟩
theorem dos_nil : DOs X [] toNil := ⟨fun B hB => pgs_nil.imp fun vs σ H Q ⟨τ, te, env, φ, ds, env', hl, hv, S, q, k⟩ => by
  unfold toNil at q
  split at q
  · cases q
    have : vs = [] := List.length_eq_zero_iff.mp (by simpa using hv)
    subst this
    exact ⟨rfl, k σ H φ (by simpa [owns] using S) rfl⟩
  · cases q⟩
theorem dos_cons {e : Expr} {es : List Expr} {t : TgO} {u : TgsO} (h1 : DO X e t) (h2 : DOs X es u) (hs : (assignEach (e :: es) X.env).map (·.2) = assign e X.env :: (assignEach es X.env).map (·.2) := by rfl) : DOs X (e :: es) (toCons t u) :=
  ⟨fun B hB => (pgs_cons (h1.pg B hB) (h2.pg B hB) hs).imp fun vs σ H Q ⟨τ, te, env, φ, ds, env', hl, hv, S, q, k⟩ => by
    unfold toCons at q
    split at q
    · rename_i d r
      split at q
      · rename_i env1 q1
        cases vs with
        | nil => simp at hv
        | cons v vs =>
          have ht : τ.length = te.length := by have := S.len; simp [owns] at this hv; omega
          refine ⟨v, vs, rfl, τ ++ vs.reverse.map some, te ++ owns r.reverse, env, φ, d, env1, hl, by simpa [owns] using S, q1, fun σ1 H1 φ1 S1 l1 => ?_⟩
          have hl1 : σ1.length = env1.length := by have := S1.len; simp [owns] at this hv; omega
          exact ⟨τ, te, env1, φ1, r, env', hl1, by simpa using hv, by simpa using S1, q, fun σ2 H2 φ2 S2 l2 => k σ2 H2 φ2 S2 (by omega)⟩
      · cases q
    · cases q⟩
theorem do_tup {es : List Expr} {k n : Nat} {u : TgsO} (hc : X.calm = true) (h : DOs X es u) (hn : (assignEach es X.env).length = n := by rfl) (hst : (assignEach es X.env).findIdx? (·.1) = none := by rfl) : DO X (.Tuple es k pos) (toT n u) :=
  ⟨fun B hB => (pg_tup hc (h.pg B hB) hn hst).imp fun v σ H Q ⟨τ, te, env, φ, d, env', hl, S, q, k⟩ => by
    unfold toT at q
    split at q
    · rename_i l
      split at q
      · rename_i hll
        obtain ⟨r, nd, mu⟩ := S.last
        obtain ⟨a, vs, rfl, ht, hr⟩ := rep_tup.mp r
        obtain ⟨φ1, S1, _⟩ := St.unpack S.pop hr nd mu fun i s h b hb => by
          obtain ⟨hi, _⟩ := List.getElem?_eq_some_iff.mp h
          exact S.excl _ i ⟨.own, .tup l⟩ s (by omega) (by simp) (by rw [List.getElem?_append_left hi]; exact h) rfl b hb
        exact ⟨a, vs, rfl, .inl (.inl ht), (reps_len hr).trans hll, τ, te, env, φ1, l, env', hl, reps_len hr, S1, q, k⟩
      · cases q
    · cases q⟩
theorem do_unl {es : List Expr} {k n : Nat} {u : TgsO} (hc : X.calm = true) (h : ∀ t, PGs X es t → L2.PG X (.Tuple es k pos) (gUnl X.K n t)) (hh : DOs X es u) : DO X (.Tuple es k pos) (toL n u) :=
  ⟨fun B hB => (h _ (hh.pg B hB)).imp fun v σ H Q ⟨τ, te, env, φ, d, env', hl, S, q, k⟩ => by
    unfold toL at q
    split at q
    · rename_i l
      split at q
      · rename_i hll
        obtain ⟨r, nd, mu⟩ := S.last
        obtain ⟨a, vs, fs, rfl, hsq, hr, _⟩ := rep_sql r
        obtain ⟨a2, vs2, fs2, ea, ef, ha, hr2⟩ := own_list r fun b hb => (mu b hb).1
        cases ea
        rw [ef] at nd
        obtain ⟨φ1, S1, _⟩ := St.unpack S.pop hr2 (List.nodup_cons.mp nd).2 (fun b hb => mu b (by rw [ef]; exact List.mem_cons_of_mem _ hb)) fun i s h b hb => by
          obtain ⟨hi, _⟩ := List.getElem?_eq_some_iff.mp h
          exact S.excl (env ++ te).length i ⟨.own, .lst l⟩ s (by omega) (by simp) (by rw [List.getElem?_append_left hi]; exact h) rfl b (by rw [ef]; exact List.mem_cons_of_mem _ hb)
        exact ⟨a, vs2, rfl, .inl (.inl ha), (reps_len hr2).trans hll, τ, te, env, φ1, l, env', hl, reps_len hr2, S1, q, k⟩
      · cases q
    · cases q⟩
/-- target = value -/
def sAsg (f : MF) (t : TgO) : SF := fun env => match f env with
  | some (.ok d env1) => (match t d env1 with
    | some env' => some (.nx env')
    | none => none)
  | some (.exc c env1) => some (.exc c env1)
  | none => none
theorem ds_asg {tg e : Expr} {f : MF} {t : TgO} (he : DM X W e f) (hg : DO X tg t) (hs : swapsWithSole [tg] e pos.line X.env = pure false := by rfl) (hw : swappedStores [tg] e X.env = pure none := by rfl)
    (h1 : (assignEach [tg] X.env).map (·.2) = [assign tg X.env] := by rfl) : DS X W (.Assign [tg] e pos) (sAsg f t) := ⟨fun B hB => (ps_asg (he.pe B hB) (hg.pg B hB) hs hw h1).imp fun D σ H ⟨env, φ, o, S, q, k⟩ => by
  unfold sAsg at q
  split at q
  · rename_i d env1 e1
    split at q
    · rename_i env' e2
      cases q
      refine ⟨[], [], env, φ, _, S.len, by simpa using S, e1, fun v H' φ' S' hl => ?_⟩
      have hl2 : σ.length = env1.length := by have := S'.len; simp at this; exact this
      exact ⟨[], [], env1, φ', d, env', hl2, S', e2, fun σ2 H2 φ2 S2 l2 => k σ2 H2 φ2 (by simpa using S2)⟩
    · cases q
  · rename_i c env' e
    cases q
    refine ⟨[], [], env, φ, _, S.len, by simpa using S, e, fun H' φ' S' hl => ?_⟩
    rw [List.append_nil, List.append_nil] at S'
    exact k _ H' _ S'
  · cases q⟩
/-- a tuple of values of one's own, for an assignment -/
def mTup (a : Env → Option (R (List Ag))) : MF := fun env => match a env with
  | some (.ok gs env1) => (match vaL gs with
    | some ds => if ds.length ≤ LIM then some (.ok (.tup ds) env1) else none
    | none => none)
  | some (.exc c env1) => some (.exc c env1)
  | none => none
end
end DL


set_option Elab.async false
set_option linter.all false
set_option maxRecDepth 100000
/-! The data layer, part 16: comprehensions. -/
namespace DL
open PySem PySem.Spec PyProof.Rows L2

def hideE (vs : List Nat) (env : Env) : Env := env.mapIdx fun j s => if j ∈ vs then none else s
/-- the names of a block are as they were -/
def unhideE (vs : List Nat) (env env' : Env) : Env := env'.mapIdx fun j s => if j ∈ vs then (match env[j]? with
  | some t => frzS t
  | none => none) else s
def chx (ch : Nat → Bool) (vs : List Nat) (n : Nat) : Nat → Bool := fun j => ch j && (decide (j ∉ vs) && decide (j < n))
def sComp (vs : List Nat) (tg : TgD) (t : Env → Option (R Bool)) (f : MF) : List D → List D → Env → Option (List D × Env)
  | [], acc, env => some (acc, env)
  | d :: ds, acc, env => match tg d env with
    | some env1 => (match t env1 with
      | some (.ok true env2) => (match f env2 with
        | some (.ok y env3) => if acc.length < LIM then sComp vs tg t f ds (acc ++ [y]) (hideE vs env3) else none
        | _ => none)
      | some (.ok false env2) => sComp vs tg t f ds acc (hideE vs env2)
      | _ => none)
    | none => none
def mComp (ch : Nat → Bool) (vs : List Nat) (i : Env → Option (List D)) (tg : TgD) (t : Env → Option (R Bool)) (f : MF) : MF := fun env => match i (clr (chx ch vs env.length) env) with
  | some ds => (match sComp vs tg t f ds [] (hideE vs (frz (chx ch vs env.length) env)) with
    | some (acc, env') => some (.ok (.lst acc) (thaw (chx ch vs env.length) env (unhideE vs env env')))
    | none => none)
  | none => none
section
variable {B : Bs} {σ τ : L2.St} {H H' : Hp} {env te : Env} {φ φ' : Nat → Fp} {vs : List Nat}
theorem hide_get {j : Nat} {s : Slot} (h : (hideE vs env)[j]? = some (some s)) : j ∉ vs ∧ env[j]? = some (some s) := by
  unfold hideE at h
  rw [List.getElem?_mapIdx] at h
  cases e : env[j]? with
  | none => rw [e] at h; cases h
  | some x =>
    rw [e] at h
    simp only [Option.map_some, Option.some.injEq] at h
    split at h
    · cases h
    · rename_i n; exact ⟨n, by rw [h]⟩
theorem hide_len : (hideE vs env).length = env.length := by unfold hideE; rw [List.length_mapIdx]
theorem St.hide (S : St B (σ ++ τ) H (env ++ te) φ) (hl : σ.length = env.length) : St B (wipe σ vs ++ τ) H (hideE vs env ++ te) φ := by
  have at_ : ∀ (j : Nat) (s : Slot), (hideE vs env ++ te)[j]? = some (some s) → (env ++ te)[j]? = some (some s) ∧ (wipe σ vs ++ τ)[j]? = (σ ++ τ)[j]? := fun j s h => by
    by_cases hj : j < env.length
    · rw [List.getElem?_append_left (by rw [hide_len]; exact hj)] at h
      obtain ⟨h1, h2⟩ := hide_get h
      refine ⟨by rw [List.getElem?_append_left hj]; exact h2, ?_⟩
      rw [List.getElem?_append_left (by rw [wipe_length]; omega), List.getElem?_append_left (by omega), wipe_get (by omega), if_neg h1, List.getElem?_eq_getElem (by omega)]
      simp
    · rw [List.getElem?_append_right (by rw [hide_len]; omega), hide_len] at h
      refine ⟨by rw [List.getElem?_append_right (by omega)]; exact h, ?_⟩
      rw [List.getElem?_append_right (by rw [wipe_length]; omega), List.getElem?_append_right (by omega), wipe_length]
  have hlen := S.len
  refine ⟨by rw [List.length_append, List.length_append, wipe_length, hide_len]; rw [List.length_append, List.length_append] at hlen; exact hlen, fun j s h => ?_, fun i j s t n h1 h2 => S.excl i j s t n (at_ _ _ h1).1 (at_ _ _ h2).1, S.frame, S.there⟩
  obtain ⟨h1, h2⟩ := at_ j s h
  obtain ⟨v, ev, ok⟩ := S.ok j s h1
  exact ⟨v, by rw [h2]; exact ev, ok⟩
/-- the block's names as they were ahead -/
theorem St.unhide {H1 : Hp} {ch : Nat → Bool} {τ2 : L2.St} {te2 env' : Env} (S : St B (σ ++ τ) H1 (env ++ te) φ) (hl : σ.length = env.length) (S' : St (loopB B (σ ++ τ) H1 (env ++ te) φ ch) (wipe σ vs ++ τ2) H' (env' ++ te2) φ') (he : env'.length = env.length)
    (hc : ∀ j ∈ vs, ch j = false) : ∃ φ'', St (loopB B (σ ++ τ) H1 (env ++ te) φ ch) (σ ++ τ2) H' (unhideE vs env env' ++ te2) φ'' := by
  let φ'' : Nat → Fp := fun j => if j < env.length ∧ j ∈ vs then φ j else φ' j
  have ulen : (unhideE vs env env').length = env.length := by unfold unhideE; rw [List.length_mapIdx, he]
  have at_ : ∀ (j : Nat) (s : Slot), (unhideE vs env env' ++ te2)[j]? = some (some s) →
      (j < env.length ∧ j ∈ vs ∧ s.m = .pin ∧ ∃ t : Slot, env[j]? = some (some t) ∧ t.d = s.d) ∨ (¬ (j < env.length ∧ j ∈ vs) ∧ (env' ++ te2)[j]? = some (some s) ∧ (wipe σ vs ++ τ2)[j]? = (σ ++ τ2)[j]?) := fun j s h => by
    by_cases hj : j < env.length
    · rw [List.getElem?_append_left (by rw [ulen]; exact hj)] at h
      unfold unhideE at h
      have hj' : j < env'.length := by omega
      rw [List.getElem?_mapIdx, List.getElem?_eq_getElem hj'] at h
      simp only [Option.map_some, Option.some.injEq] at h
      by_cases hm : j ∈ vs
      · rw [if_pos hm, List.getElem?_eq_getElem hj] at h
        simp only at h
        unfold frzS at h
        split at h
        · rename_i t e
          cases h
          exact .inl ⟨hj, hm, rfl, t, by rw [List.getElem?_eq_getElem hj, e], rfl⟩
        · cases h
      · rw [if_neg hm] at h
        refine .inr ⟨fun z => hm z.2, ?_, ?_⟩
        · rw [List.getElem?_append_left (by omega), List.getElem?_eq_getElem (by omega), h]
        · rw [List.getElem?_append_left (by rw [wipe_length]; omega), List.getElem?_append_left (by omega), wipe_get (by omega), if_neg hm, List.getElem?_eq_getElem (by omega)]
          simp
    · rw [List.getElem?_append_right (by rw [ulen]; omega), ulen] at h
      refine .inr ⟨fun z => hj z.1, ?_, ?_⟩
      · rw [List.getElem?_append_right (by omega), he]; exact h
      · rw [List.getElem?_append_right (by rw [wipe_length]; omega), List.getElem?_append_right (by omega), wipe_length]
  have φ1 : ∀ {j : Nat}, j < env.length → j ∈ vs → φ'' j = φ j := fun {j} a b => if_pos ⟨a, b⟩
  have φ2 : ∀ {j : Nat}, ¬ (j < env.length ∧ j ∈ vs) → φ'' j = φ' j := fun {j} a => if_neg a
  have orig : ∀ {j : Nat} {t : Slot}, env[j]? = some (some t) → (env ++ te)[j]? = some (some t) := fun {j t} q => by
    obtain ⟨h, _⟩ := List.getElem?_eq_some_iff.mp q
    rw [List.getElem?_append_left h]; exact q
  -- the objects of the names that stay
  have apart : ∀ {j : Nat} {s : Slot}, (env ++ te)[j]? = some (some s) → ch j = false → ∀ a ∈ φ j, a ∉ moOf ch (env ++ te) φ ∧ ∀ i, a ∉ mmOf ch (env ++ te) φ i := fun {j s} q c a ha => by
    refine ⟨fun hm => ?_, fun i hm => ?_⟩
    · obtain ⟨k, d, ck, e, hk⟩ := mem_mo.mp hm
      exact S.excl k j _ s (by rintro rfl; rw [c] at ck; cases ck) e q rfl a hk ha
    · obtain ⟨d, ck, e, hk⟩ := mem_mm.mp hm
      exact S.excl i j _ s (by rintro rfl; rw [c] at ck; cases ck) e q rfl a hk ha
  have tups : ∀ (a : Addr) (xs : List V), H1 a = some (.tup xs) → H' a = some (.tup xs) := fun a xs q => by
    have nMut : ¬ Mut (H1 a) := fun z => by rw [q] at z; exact z
    have n1 : a ∉ moOf ch (env ++ te) φ := fun hm => by
      obtain ⟨k, d, ck, e, hk⟩ := mem_mo.mp hm
      obtain ⟨v, _, ok⟩ := S.ok k _ e
      exact nMut ((ok.mk_ex rfl).2.2 a hk).1
    have n2 : ∀ i, a ∉ mmOf ch (env ++ te) φ i := fun i hm => by
      obtain ⟨d, ck, e, hk⟩ := mem_mm.mp hm
      obtain ⟨v, _, ok⟩ := S.ok i _ e
      exact nMut ((ok.mk_ex rfl).2.2 a hk).1
    exact S'.frame a _ q n1 n2
  have hlen := S'.len
  refine ⟨φ'', by rw [List.length_append, List.length_append, ulen]; rw [List.length_append, List.length_append, wipe_length] at hlen; omega, fun j s h => ?_, fun i j s t n h1 h2 hx => ?_, S'.frame, S'.there⟩
  · rcases at_ j s h with ⟨hj, hm, em, t, et, ed⟩ | ⟨hn, h1, h2⟩
    · obtain ⟨v, ev, ok⟩ := S.ok j t (orig et)
      have ev' : σ[j]? = some (some v) := by rw [List.getElem?_append_left (by omega)] at ev; exact ev
      refine ⟨v, by rw [List.getElem?_append_left (by omega)]; exact ev', ?_⟩
      rw [φ1 hj hm]
      have r := ok.rep
      rw [ed] at r
      unfold SlotOk
      rw [em]
      refine ⟨rep_frame r (fun a ha o ho => S'.frame a o ho (apart (orig et) (hc j hm) a ha).1 (apart (orig et) (hc j hm) a ha).2) tups, ?_⟩
      show v = (match (σ ++ τ)[j]? with | some (some v) => v | _ => .non)
      rw [ev]
    · obtain ⟨v, ev, ok⟩ := S'.ok j s h1
      exact ⟨v, by rw [← h2]; exact ev, by rw [φ2 hn]; exact ok⟩
  · rcases at_ i s h1 with ⟨hj, hm, em, _⟩ | ⟨hn, g1, _⟩
    · rw [em] at hx; cases hx
    · rw [φ2 hn]
      rcases at_ j t h2 with ⟨hj2, hm2, em2, t2, et2, ed2⟩ | ⟨hn2, g2, _⟩
      · rw [φ1 hj2 hm2]
        intro a ha hb
        obtain ⟨v, _, ok⟩ := S'.ok i s g1
        have ap := apart (orig et2) (hc j hm2) a hb
        rcases ((ok.mk_ex hx).2.2 a ha).2 with z | z | z
        · exact ap.2 i z
        · exact ap.1 z
        · exact S.in (orig et2) a hb z
      · rw [φ2 hn2]
        exact S'.excl i j s t n g1 g2 hx
end
/-- the thawing of what lay behind the names gives it back -/
theorem thaw_app {ch : Nat → Bool} {env te env' : Env} (he : env'.length = env.length) (hc : ∀ j, env.length ≤ j → ch j = false) : thaw ch (env ++ te) (env' ++ te.map frzS) = thaw ch env env' ++ te := by
  apply List.ext_getElem?
  intro j
  by_cases hj : j < env.length
  · rw [List.getElem?_append_left (by rw [thaw_len]; exact hj)]
    unfold thaw
    rw [List.getElem?_mapIdx, List.getElem?_mapIdx, List.getElem?_append_left hj, List.getElem?_append_left (by omega)]
  · rw [List.getElem?_append_right (by rw [thaw_len]; omega), thaw_len]
    unfold thaw
    rw [List.getElem?_mapIdx, List.getElem?_append_right (by omega), List.getElem?_append_right (by omega), he]
    cases q : te[j - env.length]? with
    | none => rfl
    | some s =>
      rw [List.getElem?_map, q, hc j (by omega)]
      cases s with
      | none => rfl
      | some s =>
        obtain ⟨m, d⟩ := s
        cases m <;> rfl
theorem frz_app {ch : Nat → Bool} {env te : Env} (hc : ∀ j, env.length ≤ j → ch j = false) : frz ch (env ++ te) = frz ch env ++ te.map frzS := by
  apply List.ext_getElem?
  intro j
  by_cases hj : j < env.length
  · rw [List.getElem?_append_left (by rw [frz_len]; exact hj)]
    unfold frz
    rw [List.getElem?_mapIdx, List.getElem?_mapIdx, List.getElem?_append_left hj]
  · rw [List.getElem?_append_right (by rw [frz_len]; omega), frz_len]
    unfold frz
    rw [List.getElem?_mapIdx, List.getElem?_append_right (by omega), List.getElem?_map, hc j (by omega)]
    rfl
structure DTs (X : Cx) (W : WX) (ifs : List Expr) (t : Env → Option (R Bool)) : Prop where
  pt : ∀ B : Bs, B.K = X.K → PTs X ifs (PMB B W t)
theorem _root_.L2.PTs.imp {X : Cx} {e : List Expr} {t t' : TT} (h : PTs X e t) (k : ∀ σ H Q, t' σ H Q → t σ H Q) : PTs X e t' := ⟨fun pins s σ H Q I q => h.run pins s σ H Q I (k σ H Q q)⟩
def tYesD : Env → Option (R Bool) := fun env => some (.ok true env)
theorem dts_nil {X : Cx} {W : WX} : DTs X W [] tYesD := ⟨fun B hB => pts_nil.imp fun σ H Q ⟨τ, te, env, φ, r, hl, S, q, k⟩ => by cases q; exact k H φ S rfl⟩
theorem dts_one {X : Cx} {W : WX} {c : Expr} {t : Env → Option (R Bool)} (h : DMT X W c t) : DTs X W [c] t := ⟨fun B hB => pts_one (h.pt B hB)⟩
abbrev W0 : WX := fun _ _ _ _ => False
section
variable {X : Cx} {W : WX} {elt tg iter : Expr} {ifs : List Expr} {scope : Scope} {own : List (Str × Nat)} {pos : Pos} {tv : List Nat} {f : MF} {t : Env → Option (R Bool)} {g : TgD} {i : Env → Option (List D)}
/-- the reading of a comprehension -/
theorem comp_of {B : Bs} {vs : List Nat} (ch : Nat → Bool) {σ : L2.St} {H : Hp} {Q : VK} (htv : ∀ j ∈ tv, j ∈ vs) (q : PM B W (mComp ch vs i g t f) σ H Q) :
    tLc (PIt B i) (fun v σ H Q => ∃ B' : Bs, B'.K = B.K ∧ gD B' tv g v σ H Q) (fun σ H Q => ∃ B' : Bs, B'.K = B.K ∧ PMB B' W0 t σ H Q) (fun σ H Q => ∃ B' : Bs, B'.K = B.K ∧ PM B' W0 f σ H Q) vs σ H Q := by
  obtain ⟨τ, te, env, φ, r, hl, S, q, k⟩ := q
  unfold mComp at q
  split at q
  · rename_i ds hds
    split at q
    · rename_i acc0 envF hq
      cases q
      let ch2 := chx ch vs env.length
      have c1 : ∀ j ∈ vs, ch2 j = false := fun j hj => by show (ch j && (decide (j ∉ vs) && _)) = false; simp [hj]
      have c2 : ∀ j, env.length ≤ j → ch2 j = false := fun j hj => by show (ch j && (_ && decide (j < env.length))) = false; rw [decide_eq_false (Nat.not_lt.mpr hj)]; simp
      refine ⟨DL.clr ch2 env, φ, ds, (S.trunc hl).clr, hds, fun J H1 fp e1 k1 it D hD => ?_⟩
      have S1 := S.ex e1
      have k2 : Known H (DL.clr ch2 (env ++ te)) φ fp := fun a ha => (k1 a ha).imp id fun ⟨j, s, qj, hj⟩ => by
        refine ⟨j, s, ?_, hj⟩
        obtain ⟨hjl, _⟩ := List.getElem?_eq_some_iff.mp qj
        have hjl' : j < env.length := by unfold DL.clr at hjl; rwa [List.length_mapIdx] at hjl
        unfold DL.clr at qj ⊢
        rw [List.getElem?_mapIdx] at qj ⊢
        rw [List.getElem?_append_left hjl']
        exact qj
      have ap := apart_of S e1 k2
      let B1 := loopB B (σ ++ τ) H1 (env ++ te) φ ch2
      have keep : ∀ {σ' : L2.St} {H' : Hp} {env' : Env} {φ' : Nat → Fp}, St B1 σ' H' env' φ' → ∀ a ∈ fp, ∀ o, H1 a = some o → H' a = some o := fun S' a ha o ho => S'.frame a o ho (ap a ha).1 (ap a ha).2
      have tups : ∀ {σ' : L2.St} {H' : Hp} {env' : Env} {φ' : Nat → Fp}, St B1 σ' H' env' φ' → ∀ a xs, H1 a = some (.tup xs) → H' a = some (.tup xs) := fun S' a xs q => by
        have nMut : ¬ Mut (H1 a) := fun z => by rw [q] at z; exact z
        have n1 : a ∉ moOf ch2 (env ++ te) φ := fun hm => by
          obtain ⟨k, d, ck, e, hk⟩ := mem_mo.mp hm
          obtain ⟨v, _, ok⟩ := S1.ok k _ e
          exact nMut ((ok.mk_ex rfl).2.2 a hk).1
        have n2 : ∀ i, a ∉ mmOf ch2 (env ++ te) φ i := fun i hm => by
          obtain ⟨d, ck, e, hk⟩ := mem_mm.mp hm
          obtain ⟨v, _, ok⟩ := S1.ok i _ e
          exact nMut ((ok.mk_ex rfl).2.2 a hk).1
        exact S'.frame a _ q n1 n2
      have F1 : St B1 (σ ++ τ) H1 (frz ch2 (env ++ te)) φ := S1.freeze
      rw [frz_app c2] at F1
      have F2 := F1.hide (vs := vs) (by rw [frz_len]; exact hl)
      have F3 := F2.pushNew (Evl.Ex.new hD) (rep_newL (l := []) (vs := []) reps_nil hD) (new_one (vs := []) hD).1 (new_one (vs := []) hD).2
      refine ⟨fun m n H' => n = ds.length - m ∧ m ≤ ds.length ∧ ∃ env' φ' acc, St B1 (wipe σ vs ++ (τ ++ [some (.ref D)])) H' (env' ++ (te.map frzS ++ [some ⟨.own, .lst acc⟩])) φ' ∧ env'.length = env.length ∧ hideE vs env' = env' ∧ sComp vs g t f (ds.drop m) acc env' = some (acc0, envF),
        ⟨ds.length, by simp, Nat.zero_le _, hideE vs (frz ch2 env), _, [], by simpa using F3, by rw [hide_len, frz_len], ?_, by simpa using hq⟩, ?_⟩
      · apply List.ext_getElem?
        intro j
        unfold hideE
        rw [List.getElem?_mapIdx, List.getElem?_mapIdx]
        cases (frz ch2 env)[j]? with
        | none => rfl
        | some s =>
          simp only [Option.map_some]
          by_cases hm : j ∈ vs <;> simp [hm]
      · rintro m n H' ⟨rfl, hm, env', φ', acc, S', hl', hh', q'⟩
        have itk := it.2 H' (keep S') (tups S')
        by_cases hlt : m < ds.length
        · right
          have hd : ds[m]? = some ds[m] := List.getElem?_eq_getElem hlt
          obtain ⟨go, yl⟩ := itk.1 m _ hd
          have hdr : ds.drop m = ds[m] :: ds.drop (m + 1) := List.drop_eq_getElem_cons hlt
          rw [hdr] at q'
          unfold sComp at q'
          refine ⟨go, fun H2 => ∃ env' φ' acc, St B1 (wipe σ vs ++ (τ ++ [some (.ref D)])) H2 (env' ++ (te.map frzS ++ [some ⟨.own, .lst acc⟩])) φ' ∧ env'.length = env.length ∧ hideE vs env' = env' ∧ sComp vs g t f (ds.drop (m + 1)) acc env' = some (acc0, envF), fun H2 w => ⟨ds.length - (m + 1), by omega, rfl, hlt, w⟩, fun x H3 y => ?_⟩
          obtain ⟨e3, fx, rx, sx⟩ := yl x H3 y
          have S3 := S'.ex e3
          have hwl : (wipe σ vs).length = env'.length := by rw [wipe_length]; omega
          split at q'
          · rename_i env1 ht
            have dj : Disj (env' ++ (te.map frzS ++ [some ⟨.own, .lst acc⟩])) φ' fp := fun j s hs hx a ha hb => by
              obtain ⟨v, _, ok⟩ := S'.ok j s hs
              rcases ((ok.mk_ex hx).2.2 a ha).2 with z | z | z
              · exact (ap a hb).2 j z
              · exact (ap a hb).1 z
              · exact it.1 a hb z
            refine ⟨B1, rfl, τ ++ [some (.ref D)], te.map frzS ++ [some ⟨.own, .lst acc⟩], env', φ', ds[m], fx, fp, env1, hwl, S3, rx, sx, dj, ht, fun σ4 φ4 S4 _ l4 m4 w4 => ?_⟩
            have w5 : wipe σ4 vs = wipe σ vs := by
              rw [w4 vs htv]
              apply List.ext_getElem?
              intro j
              by_cases hj : j < σ.length
              · rw [wipe_get (by rw [wipe_length]; exact hj), wipe_get hj]
                by_cases e : j ∈ vs
                · simp [e]
                · simp [e]
              · rw [List.getElem?_eq_none (by rw [wipe_length, wipe_length]; omega), List.getElem?_eq_none (by rw [wipe_length]; omega)]
            refine ⟨w5, ?_⟩
            have hl4 : σ4.length = env1.length := by rw [m4, wipe_length]; omega
            have idem : ∀ e : Env, hideE vs (hideE vs e) = hideE vs e := fun e => by
              apply List.ext_getElem?
              intro j
              unfold hideE
              rw [List.getElem?_mapIdx, List.getElem?_mapIdx]
              cases e[j]? with
              | none => rfl
              | some s =>
                simp only [Option.map_some]
                by_cases hm : j ∈ vs <;> simp [hm]
            split at q'
            · rename_i env2 et
              refine ⟨B1, rfl, τ ++ [some (.ref D)], te.map frzS ++ [some ⟨.own, .lst acc⟩], env1, φ4, _, hl4, S4, et, fun H5 φ5 S5 l5 => ?_⟩
              refine iteT ?_
              split at q'
              · rename_i y env3 ef
                split at q'
                · rename_i hacc
                  refine ⟨B1, rfl, τ ++ [some (.ref D)], te.map frzS ++ [some ⟨.own, .lst acc⟩], env2, φ5, _, by omega, S5, ef, fun v H6 φ6 S6 l6 => ?_⟩
                  -- the new item goes into the list at D
                  have hl6 : σ4.length = env3.length := by omega
                  have htl : τ.length = te.length := by have := S.len; simp at this; omega
                  have hSl : (σ4 ++ (τ ++ [some (V.ref D)])).length = (env3 ++ (te.map frzS ++ [some (⟨.own, .lst acc⟩ : Slot)])).length := by simp; omega
                  have eix : (env3 ++ (te.map frzS ++ [some (⟨.own, .lst acc⟩ : Slot)]))[(env3 ++ te.map frzS).length]? = some (some ⟨.own, .lst acc⟩) := by
                    rw [← List.append_assoc]
                    simp
                  have evx : (σ4 ++ (τ ++ [some (V.ref D)]))[(env3 ++ te.map frzS).length]? = some (some (.ref D)) := by
                    rw [← List.append_assoc, show (env3 ++ te.map frzS).length = (σ4 ++ τ).length by simp; omega]
                    simp
                  have ec : chgS hAppend [y] (env3 ++ te.map frzS).length (env3 ++ (te.map frzS ++ [some (⟨.own, .lst acc⟩ : Slot)])) = some (.ok .non ((env3 ++ (te.map frzS ++ [some (⟨.own, .lst acc⟩ : Slot)])).set (env3 ++ te.map frzS).length (some (⟨.own, .lst (acc ++ [y])⟩ : Slot)))) := by
                    unfold chgS
                    rw [eix]
                    have : hAppend (.lst acc) [y] = some (.non, .lst (acc ++ [y])) := if_pos hacc
                    simp only [this]
                    rfl
                  have app : rAppend (.ref D) [v] H6 _ := chg_of (B := B1) (τ := []) (te := []) (vs := [v]) (ds := [y]) (Q := fun _ H7 => ∃ env' φ' acc, St B1 (wipe σ vs ++ (τ ++ [some (.ref D)])) H7 (env' ++ (te.map frzS ++ [some ⟨.own, .lst acc⟩])) φ' ∧ env'.length = env.length ∧ hideE vs env' = env' ∧ sComp vs g t f (ds.drop (m + 1)) acc env' = some (acc0, envF)) (m_append (K := B1.K)) hSl rfl
                    (by simpa [owns] using S6) evx ec fun w H7 φ7 S7 l7 => by
                      rw [List.append_nil, List.append_nil] at S7
                      have S8 := S7.pop
                      have e8 : (env3 ++ (te.map frzS ++ [some (⟨.own, .lst acc⟩ : Slot)])).set (env3 ++ te.map frzS).length (some ⟨.own, .lst (acc ++ [y])⟩) = env3 ++ (te.map frzS ++ [some ⟨.own, .lst (acc ++ [y])⟩]) := by
                        rw [← List.append_assoc, List.set_append_right _ _ (Nat.le_refl _), Nat.sub_self, ← List.append_assoc]
                        rfl
                      rw [e8] at S8
                      have S9 := S8.hide (vs := vs) hl6
                      rw [w5] at S9
                      exact ⟨hideE vs env3, φ7, acc ++ [y], S9, by rw [hide_len]; omega, idem env3, q'⟩
                  obtain ⟨l0, xs0, y0, el, ey, h1, h2, h3⟩ := app
                  cases el
                  cases ey
                  exact ⟨xs0, h1, h2, h3⟩
                · cases q'
              · cases q'
            · rename_i env2 et
              refine ⟨B1, rfl, τ ++ [some (.ref D)], te.map frzS ++ [some ⟨.own, .lst acc⟩], env1, φ4, _, hl4, S4, et, fun H5 φ5 S5 l5 => ?_⟩
              refine iteF ?_
              have S9 := S5.hide (vs := vs) (by omega)
              rw [w5] at S9
              exact ⟨hideE vs env2, φ5, acc, S9, by rw [hide_len]; omega, idem env2, q'⟩
            · cases q'
          · cases q'
        · left
          have e : m = ds.length := by omega
          subst e
          refine ⟨itk.2, ?_⟩
          rw [List.drop_length] at q'
          unfold sComp at q'
          cases q'
          obtain ⟨φ7, S7⟩ := S1.unhide (vs := vs) hl S' hl' c1
          have S8 : St B1 ((σ ++ τ) ++ [some (.ref D)]) H' ((unhideE vs env envF ++ te.map frzS) ++ [some ⟨.own, .lst acc0⟩]) φ7 := by simpa using S7
          have ul : (unhideE vs env envF).length = env.length := by unfold unhideE; rw [List.length_mapIdx]; exact hl'
          have htl : τ.length = te.length := by have := S.len; simp at this; omega
          obtain ⟨φ8, S9⟩ := S1.thaw S8 (by simp; omega) (by simp; omega) (fun k s q => by
            cases k with
            | zero => simp at q; rw [← q]
            | succ k => simp at q)
          rw [thaw_app ul c2] at S9
          exact k _ H' φ8 S9 (by rw [thaw_len])
    · cases q
  · cases q
/-- the contexts of a comprehension's block -/
theorem BX.blk {P : Program} {w : World} {K : PySem.W.Frag} {mg : Str → Option Value} {base : Heap} {N : List Str} {sc : Scope} {k : Nat} (h : BX X W P w K mg base N sc k) (ok : BlkOk N sc scope own) (s : Shared) (H : Hp) (C : Addr) (cl : List (Str × Addr)) (fp : List Addr) :
    BX (X.blk s H scope (compEnvC scope cl C X.env) fp) W0 P w K mg base N (relS scope sc) k :=
  ⟨h.hP, h.hw, h.hK, h.hmg, h.hbase, h.hN, by rw [← h.hsc]; rfl, h.nd, h.calm, takes0, h.room, ok.kind⟩
/-- [elt for tg in iter if ..] -/
theorem dm_lc {P : Program} {w : World} {K : PySem.W.Frag} {mg : Str → Option Value} {base : Heap} {N : List Str} {sc : Scope} {k : Nat} (ch : Nat → Bool) (h : BX X W P w K mg base N sc k) (hi : DI X tg iter i) (ok : blkC N sc scope own = true) (htv : ∀ j ∈ tv, j ∈ own.map (·.2))
    (hg : ∀ X' : Cx, BX X' W0 P w K mg base N (relS scope sc) k → DG X' tg tv g) (ht : ∀ X' : Cx, BX X' W0 P w K mg base N (relS scope sc) k → DTs X' W0 ifs t) (he : ∀ X' : Cx, BX X' W0 P w K mg base N (relS scope sc) k → DM X' W0 elt f)
    (hs : ∀ x, foldedSetIterable iter X.env x = pure x := by intro _; rfl) : DM X W (.ListComp elt [⟨tg, iter, ifs, 0⟩] scope pos) (mComp ch (own.map (·.2)) i g t f) := ⟨fun B hB => by
  have hok : BlkOk N sc scope own := blkOk_by ok
  have hok' : BlkOk X.N X.env.scope scope own := by rw [h.hN, h.hsc]; exact hok
  refine (pe_lc (g := fun v σ H Q => ∃ B' : Bs, B'.K = B.K ∧ gD B' tv g v σ H Q) (tt := fun σ H Q => ∃ B' : Bs, B'.K = B.K ∧ PMB B' W0 t σ H Q) (te := fun σ H Q => ∃ B' : Bs, B'.K = B.K ∧ PM B' W0 f σ H Q) h.calm h.nd (hi.pi B hB) hok' (fun s H C cl fp => ?_) (fun s H C cl fp => ?_) (fun s H C cl fp => ?_) hs).imp fun σ H Q q => comp_of ch htv q
  · exact ⟨fun pins s' σ H' v u Q I r ⟨B', hB', q⟩ => ((hg _ (h.blk hok s H C cl fp)).pg B' (hB'.trans hB)).run pins s' σ H' v u Q I r q⟩
  · exact ⟨fun pins s' σ H' Q I ⟨B', hB', q⟩ => ((ht _ (h.blk hok s H C cl fp)).pt B' (hB'.trans hB)).run pins s' σ H' Q I q⟩
  · exact ⟨fun pins s' σ H' Q I ⟨B', hB', q⟩ => ((he _ (h.blk hok s H C cl fp)).pe B' (hB'.trans hB)).run pins s' σ H' Q I q⟩⟩
/-- y = [..], y a local -/
theorem ds_setLc {P : Program} {w : World} {K : PySem.W.Frag} {mg : Str → Option Value} {base : Heap} {N : List Str} {sc : Scope} {k j : Nat} {y : Str} {py spos : Pos} (ch : Nat → Bool) (h : BX X W P w K mg base N sc k) (hy : N[j]? = some y) (hyl : sc.names.lookup y = some .local)
    (hsw : swapsWith (.ListComp elt [⟨tg, iter, ifs, 0⟩] scope pos) (some (.Name y py)) spos.line X.env = pure true) (hi : DI X tg iter i) (ok : blkC N sc scope own = true) (htv : ∀ j ∈ tv, j ∈ own.map (·.2))
    (hg : ∀ X' : Cx, BX X' W0 P w K mg base N (relS scope sc) k → DG X' tg tv g) (ht : ∀ X' : Cx, BX X' W0 P w K mg base N (relS scope sc) k → DTs X' W0 ifs t) (he : ∀ X' : Cx, BX X' W0 P w K mg base N (relS scope sc) k → DM X' W0 elt f)
    (hs : ∀ x, foldedSetIterable iter X.env x = pure x := by intro _; rfl) : DS X W (.Assign [.Name y py] (.ListComp elt [⟨tg, iter, ifs, 0⟩] scope pos) spos) (sSet j (mComp ch (own.map (·.2)) i g t f)) := ⟨fun B hB => by
  have hok : BlkOk N sc scope own := blkOk_by ok
  have hok' : BlkOk X.N X.env.scope scope own := by rw [h.hN, h.hsc]; exact hok
  refine (ps_setLc (i := j) (g := fun v σ H Q => ∃ B' : Bs, B'.K = B.K ∧ gD B' tv g v σ H Q) (tt := fun σ H Q => ∃ B' : Bs, B'.K = B.K ∧ PMB B' W0 t σ H Q) (te := fun σ H Q => ∃ B' : Bs, B'.K = B.K ∧ PM B' W0 f σ H Q) h.calm h.nd (by rw [h.hN]; exact hy) (by rw [h.hsc]; exact hyl) hsw (hi.pi B hB) hok' (fun s H C cl fp => ?_) (fun s H C cl fp => ?_) (fun s H C cl fp => ?_) hs).imp fun D σ H ⟨env, φ, o, S, q, k⟩ => ?_
  · exact ⟨fun pins s' σ H' v u Q I r ⟨B', hB', q⟩ => ((hg _ (h.blk hok s H C cl fp)).pg B' (hB'.trans hB)).run pins s' σ H' v u Q I r q⟩
  · exact ⟨fun pins s' σ H' Q I ⟨B', hB', q⟩ => ((ht _ (h.blk hok s H C cl fp)).pt B' (hB'.trans hB)).run pins s' σ H' Q I q⟩
  · exact ⟨fun pins s' σ H' Q I ⟨B', hB', q⟩ => ((he _ (h.blk hok s H C cl fp)).pe B' (hB'.trans hB)).run pins s' σ H' Q I q⟩
  · refine comp_of (W := W) ch htv ?_
    unfold sSet at q
    split at q
    · rename_i d env' e
      split at q
      · rename_i hc
        cases q
        refine ⟨[], [], env, φ, _, S.len, by simpa using S, e, fun v H' φ' S' hl => ?_⟩
        rw [List.append_nil, List.append_nil] at S'
        exact k _ H' _ (S'.move (.inl rfl) (canSet_lt hc))
      · cases q
    · rename_i c env' e
      cases q
      refine ⟨[], [], env, φ, _, S.len, by simpa using S, e, fun H' φ' S' hl => ?_⟩
      rw [List.append_nil, List.append_nil] at S'
      exact k _ H' _ S'
    · cases q⟩
end
end DL


set_option Elab.async false
set_option linter.all false
set_option maxRecDepth 100000
/-! The data layer, part 17: dicts. -/
namespace DL
open PySem PySem.Spec PyProof.Rows L2

def k1 : D → Option Key
  | .int i => some (.inl i)
  | .str s => some (.inr s)
  | _ => none
def k1s : List D → Option (List Key)
  | [] => some []
  | d :: ds => match k1 d, k1s ds with
    | some k, some ks => some (k :: ks)
    | _, _ => none
/-- a key, as a row of ints and texts -/
def conv (t : Bool) (d : D) : Option (List Key) := if t then (match d with
  | .tup l => k1s l
  | _ => none) else (match k1 d with
  | some k => some [k]
  | none => none)
def lkIx (t : Bool) (ks : List D) (k : List Key) : Option Nat := ks.findIdx? fun x => decide (conv t x = some k)
def dicGet (t : Bool) (ks l : List D) (d : D) : Option (Option D) := match conv t d with
  | some k => some ((lkIx t ks k).bind fun j => l[j]?)
  | none => none
theorem k1_keyD (k : Key) : k1 (keyD k) = some k := by cases k <;> rfl
theorem k1s_keyD : ∀ ks : List Key, k1s (ks.map keyD) = some ks
  | [] => rfl
  | k :: ks => by show (match k1 (keyD k), k1s (ks.map keyD) with | some k, some ks => some (k :: ks) | _, _ => none) = _; rw [k1_keyD, k1s_keyD]
theorem k1_of {d : D} {k : Key} (h : k1 d = some k) : d = keyD k := by
  unfold k1 at h
  split at h
  · cases h; rfl
  · cases h; rfl
  · cases h
theorem k1s_of : ∀ {l : List D} {ks : List Key}, k1s l = some ks → l = ks.map keyD
  | [], ks, h => by cases h; rfl
  | d :: l, ks, h => by
    unfold k1s at h
    split at h
    · rename_i k ks' e1 e2
      cases h
      rw [List.map_cons, ← k1_of e1, ← k1s_of e2]
    · cases h
section
variable {κ : Type} [DecidableEq κ]
theorem valV_ix (k : κ) : ∀ kvs : List (κ × V), valV kvs k = ((kvs.findIdx? fun kv => decide (kv.1 = k)).bind fun j => (kvs.map (fun p => p.2))[j]?)
  | [] => rfl
  | kv :: kvs => by
    by_cases e : kv.1 = k
    · rw [valV_pos e, List.findIdx?_cons]
      simp [e]
    · rw [valV_neg e, valV_ix k kvs, List.findIdx?_cons]
      simp only [e, decide_false, Bool.false_eq_true, if_false]
      cases kvs.findIdx? fun kv => decide (kv.1 = k) with
      | none => rfl
      | some j => simp
theorem putK_ix {kvs : List (κ × V)} {k : κ} {v : V} (nd : (kvs.map (fun p => p.1)).Nodup) : (∀ j, (kvs.findIdx? fun kv => decide (kv.1 = k)) = some j → putK kvs k v = kvs.set j (k, v)) ∧ ((kvs.findIdx? fun kv => decide (kv.1 = k)) = none → putK kvs k v = kvs ++ [(k, v)]) := by
  have hany : (kvs.any fun kv => decide (kv.1 = k)) = (kvs.findIdx? fun kv => decide (kv.1 = k)).isSome := by
    rw [List.findIdx?_isSome]
  refine ⟨fun j h => ?_, fun h => ?_⟩
  · have : putK kvs k v = kvs.map fun kv => if kv.1 = k then (kv.1, v) else kv := by
      unfold putK
      rw [hany, h]
      rfl
    rw [this]
    clear hany this
    induction kvs generalizing j with
    | nil => simp at h
    | cons kv kvs ih =>
      rw [List.findIdx?_cons] at h
      by_cases e : kv.1 = k
      · simp only [e, decide_true, if_true, Option.some.injEq] at h
        subst h
        rw [List.map_cons, if_pos e, e]
        have : kvs.map (fun kv => if kv.1 = k then (kv.1, v) else kv) = kvs := by
          have nk : ∀ p ∈ kvs, ¬ p.1 = k := fun p hp q => by
            rw [List.map_cons] at nd
            exact (List.nodup_cons.mp nd).1 (by rw [e, ← q]; exact List.mem_map.mpr ⟨p, hp, rfl⟩)
          clear ih nd
          induction kvs with
          | nil => rfl
          | cons p r ih => rw [List.map_cons, if_neg (nk p List.mem_cons_self), ih fun q hq => nk q (List.mem_cons_of_mem _ hq)]
        rw [this]
        rfl
      · simp only [e, decide_false, Bool.false_eq_true, if_false] at h
        cases q : kvs.findIdx? fun kv => decide (kv.1 = k) with
        | none => rw [q] at h; simp at h
        | some i =>
          rw [q] at h
          simp at h
          subst h
          rw [List.map_cons] at nd
          rw [List.map_cons, if_neg e, ih (List.nodup_cons.mp nd).2 i q]
          rfl
  · unfold putK
    rw [hany, h]
    rfl
end
section
variable {K : PySem.W.Frag} {C : Str → Addr} {H : Hp} {kl : Bool}
theorem conv_f {d : D} {k : List Key} (h : conv false d = some k) : ∃ x, k = [x] ∧ d = keyD x := by
  unfold conv at h
  simp only [Bool.false_eq_true, if_false] at h
  split at h
  · rename_i x e; cases h; exact ⟨x, rfl, k1_of e⟩
  · cases h
theorem conv_t {d : D} {k : List Key} (h : conv true d = some k) : d = .tup (k.map keyD) := by
  unfold conv at h
  simp only [if_true] at h
  split at h
  · rename_i l; rw [k1s_of h]
  · cases h
theorem conv_keyD (x k : Key) : (conv false (keyD x) = some [k]) ↔ x = k := by
  have : conv false (keyD x) = some [x] := by unfold conv; simp [k1_keyD]
  rw [this]; simp
theorem conv_tup (x k : List Key) : (conv true (.tup (x.map keyD)) = some k) ↔ x = k := by
  have : conv true (.tup (x.map keyD)) = some x := by unfold conv; simp [k1s_keyD]
  rw [this]; simp
theorem lkIx_f {kvs : List (Key × V)} {k : Key} : lkIx false (kvs.map fun p => keyD p.1) [k] = kvs.findIdx? fun kv => decide (kv.1 = k) := by
  unfold lkIx
  rw [List.findIdx?_map]
  congr 1
  funext p
  exact decide_eq_decide.mpr (conv_keyD p.1 k)
theorem lkIx_t {kvs : List (List Key × V)} {k : List Key} : lkIx true (kvs.map fun p => .tup (p.1.map keyD)) k = kvs.findIdx? fun kv => decide (kv.1 = k) := by
  unfold lkIx
  rw [List.findIdx?_map]
  congr 1
  funext p
  exact decide_eq_decide.mpr (conv_tup p.1 k)
theorem keyD_V {k : Key} {v : V} {fp : Fp} (h : Rep K kl C H (keyD k) v fp) : v = kV k := by
  cases k with
  | inl i => exact (rep_int.mp h).1
  | inr s => exact (rep_str.mp h).1
theorem keyDs_V : ∀ {ks : List Key} {vs : List V} {fp : Fp}, Reps K kl C H (ks.map keyD) vs fp → vs = ks.map kV
  | [], vs, fp, h => by unfold Reps at h; exact h.1
  | k :: ks, vs, fp, h => by
    unfold Reps at h
    obtain ⟨v, vs', f1, f2, rfl, rfl, h1, h2⟩ := h
    rw [List.map_cons, ← keyD_V h1, ← keyDs_V h2]
theorem rep_dic {t : Bool} {ks l : List D} {v : V} {fp : Fp} : Rep K kl C H (.dic t ks l) v fp ↔ ∃ a vs fs, v = .ref a ∧ Reps K kl C H l vs fs ∧ DicAt H a t ks vs ∧ fp = a :: fs := by unfold Rep; exact Iff.rfl
/-- what a dict has at a key -/
theorem dget_of {t : Bool} {ks l : List D} {a : Addr} {vs : List V} {fs fy : Fp} {d : D} {y : V} {o : Option D} (hd : DicAt H a t ks vs) (hr : Reps K kl C H l vs fs) (hy : Rep K kl C H d y fy) (hg : dicGet t ks l d = some o) :
    ∃ ov, DGet H a y ov ∧ (o = none → ov = none) ∧ (∀ x, o = some x → ∃ v fx, ov = some v ∧ Rep K kl C H x v fx ∧ ∀ b ∈ fx, b ∈ fs) := by
  unfold dicGet at hg
  split at hg
  · rename_i k ek
    cases hg
    have key : ∀ (oj : Option Nat), (∀ j, oj = some j → j < l.length) → ((oj.bind fun j => l[j]?) = none → (oj.bind fun j => vs[j]?) = none) ∧ ∀ x, (oj.bind fun j => l[j]?) = some x → ∃ v fx, (oj.bind fun j => vs[j]?) = some v ∧ Rep K kl C H x v fx ∧ ∀ b ∈ fx, b ∈ fs := fun oj hj => by
      cases oj with
      | none => exact ⟨fun _ => rfl, fun x h => by cases h⟩
      | some j =>
        refine ⟨fun h => ?_, fun x h => ?_⟩
        · have : l[j]? = none := h
          have hl := hj j rfl
          rw [List.getElem?_eq_getElem hl] at this
          cases this
        · have h' : l[j]? = some x := h
          obtain ⟨v, fa, f, fb, ev, rfl, r, _⟩ := reps_split hr h'
          exact ⟨v, f, ev, r, fun b hb => by simp [hb]⟩
    have hlen := reps_len hr
    cases t with
    | false =>
      obtain ⟨kvs, rd, rfl, rfl, nd⟩ := hd
      obtain ⟨x, rfl, rfl⟩ := conv_f ek
      have ey := keyD_V hy
      subst ey
      refine ⟨valV kvs x, .inl ⟨kvs, x, rd, rfl, rfl⟩, ?_⟩
      rw [valV_ix, lkIx_f]
      exact key _ fun j hj => by
        have := (List.findIdx?_eq_some_iff_getElem.mp hj).1
        rw [← hlen, List.length_map]
        exact this
    | true =>
      obtain ⟨kvs, rd, rfl, rfl, nd⟩ := hd
      have ed := conv_t ek
      subst ed
      obtain ⟨b, us, rfl, hb, hu⟩ := rep_tup.mp hy
      have eu := keyDs_V hu
      subst eu
      refine ⟨valV kvs k, .inr ⟨kvs, k, b, rd, rfl, hb, rfl⟩, ?_⟩
      rw [valV_ix, lkIx_t]
      exact key _ fun j hj => by
        have := (List.findIdx?_eq_some_iff_getElem.mp hj).1
        rw [← hlen, List.length_map]
        exact this
  · cases hg
end
/-! ### reading -/
def gDGet : D → D → Option D
  | .dic t ks l, d => (match dicGet t ks l d with
    | some (some x) => some x
    | _ => none)
  | _, _ => none
def gDIn (neg : Bool) : D → D → Option D
  | d, .dic t ks l => (match dicGet t ks l d with
    | some o => some (.bl (if neg then !o.isSome else o.isSome))
    | none => none)
  | _, _ => none
section
variable {X : Cx} {W : WX} {o i : Expr} {fo fi : DF} {pos : Pos} {K : PySem.W.Frag}
theorem dp_dget (hu : X.A.units + 1 < cLine) (ho : DP X o fo) (hi : DP X i fi) (hs : NoSl i := by exact fun _ _ => rfl) : DP X (.Subscript o i pos) (f2 gDGet fo fi) :=
  op2_p (r := fun x y H Q => ∃ a v, x = .ref a ∧ DGet H a y (some v) ∧ Q v H) (by
    intro CC H x y d u v fu fv Q hx hy hg k
    unfold gDGet at hg
    split at hg
    · rename_i t ks l d0
      split at hg
      · rename_i x0 e0
        cases hg
        obtain ⟨a, vs, fs, rfl, hr, hd, rfl⟩ := rep_dic.mp hx
        obtain ⟨ov, g, _, h2⟩ := dget_of hd hr hy e0
        obtain ⟨w, fx, rfl, rw', sub⟩ := h2 _ rfl
        exact ⟨a, w, rfl, g, k w H fx (Evl.Ex.refl H) rw' fun z hz => .inr (.inl (List.mem_cons_of_mem _ (sub z hz)))⟩
      · cases hg
    · cases hg) ho hi fun _ _ po pi => pe_dget hu po pi hs
theorem o_din {neg : Bool} : Op2N K (fun y x H Q => ∃ a o, x = .ref a ∧ DGet H a y o ∧ Q (.bl (if neg then !o.isSome else o.isSome)) H) (gDIn neg) := by
  intro CC H x y d u v fu fv Q hx hy hg k
  unfold gDIn at hg
  split at hg
  · rename_i d0 t ks l
    split at hg
    · rename_i o0 e0
      cases hg
      obtain ⟨a, vs, fs, rfl, hr, hd, rfl⟩ := rep_dic.mp hy
      obtain ⟨ov, g, h1, h2⟩ := dget_of hd hr hx e0
      refine ⟨a, ov, rfl, g, ?_⟩
      have e : ov.isSome = o0.isSome := by
        cases o0 with
        | none => rw [h1 rfl]; rfl
        | some x => obtain ⟨v, fx, rfl, _⟩ := h2 x rfl; rfl
      rw [e]
      exact k _ H [] (Evl.Ex.refl H) fin_bl New.nil
    · cases hg
  · cases hg
theorem dn_din (hu : X.A.units + 1 < cLine) (hi : DP X i fi) (ho : DP X o fo) (hm : behindInMarks .In o = false := by rfl) : DN X (.Compare i [.In] [o] pos) (f2 (gDIn false) fi fo) :=
  op2_n (o_din (neg := false)) hi ho fun _ _ pi po => pe_cmp (pc_din hu pi po) hm
theorem dn_dnotin (hu : X.A.units + 1 < cLine) (hi : DP X i fi) (ho : DP X o fo) (hm : behindInMarks .NotIn o = false := by rfl) : DN X (.Compare i [.NotIn] [o] pos) (f2 (gDIn true) fi fo) :=
  op2_n (o_din (neg := true)) hi ho fun _ _ pi po => pe_cmp (pc_dnotin hu pi po) hm
theorem dt_of_op {r : R2} {g : D → D → Option D} {b e : Expr} {fa fb : DF} {t : TE → TE → TE} (hr : Op2N X.K r g) (ha : DP X i fa) (hb : DP X b fb) (et : ∀ ta tb, t ta tb = tOp r ta tb) (h : ∀ ta tb, PE X i ta → PE X b tb → PT X e (tB (t ta tb))) : DT X e (fB (f2 g fa fb)) :=
  ⟨fun B hB => (h _ _ (ha.pe B hB) (hb.pe B hB)).imp fun σ H Q ⟨env, φ, d, S, q, k⟩ => by
    obtain ⟨x, y, q1, q2, q3⟩ := f2_of (fB_of q)
    rw [et]
    refine ⟨env, φ, x, S, q1, fun u H1 fu e1 r1 k1 => ⟨env, φ, y, S.ex e1, q2, fun v H2 fv e2 r2 k2 => ?_⟩⟩
    refine hr B.C H2 x y _ u v fu fv _ (hB ▸ rep_ex r1 e2) (hB ▸ r2) q3 fun w H3 fp e3 r3 n3 => ?_
    exact ⟨d, r3.1, k H3 ((e1.trans e2).trans e3)⟩⟩
theorem dt_din (hu : X.A.units + 1 < cLine) (hi : DP X i fi) (ho : DP X o fo) (hm : behindInMarks .In o = false := by rfl) : DT X (.Compare i [.In] [o] pos) (fB (f2 (gDIn false) fi fo)) :=
  dt_of_op (o_din (neg := false)) hi ho (fun _ _ => rfl) fun _ _ pi po => pt_cmp (pc_din hu pi po) hm
theorem dt_dnotin (hu : X.A.units + 1 < cLine) (hi : DP X i fi) (ho : DP X o fo) (hm : behindInMarks .NotIn o = false := by rfl) : DT X (.Compare i [.NotIn] [o] pos) (fB (f2 (gDIn true) fi fo)) :=
  dt_of_op (o_din (neg := true)) hi ho (fun _ _ => rfl) fun _ _ pi po => pt_cmp (pc_dnotin hu pi po) hm
/-- d.get(k, x) -/
def gGet : D → D → D → Option D
  | .dic t ks l, d, x => (match dicGet t ks l d with
    | some (some y) => some y
    | some none => some x
    | none => none)
  | _, _, _ => none
def f3 (g : D → D → D → Option D) (fa fb fc : DF) : DF := fun env => match fa env, fb env, fc env with
  | some x, some y, some z => g x y z
  | _, _, _ => none
theorem dp_get2 {e f : Expr} {fe ff : DF} {apos cpos : Pos} (hu : X.A.units + 1 < cLine) (ho : DP X o fo) (he : DP X e fe) (hf : DP X f ff) (m : M2 X o "get" apos e f cpos) : DP X (.Call (.Attribute o "get" apos) [e, f] [] cpos) (f3 gGet fo fe ff) :=
  ⟨fun B hB => (pe_dget2 hu (ho.pe B hB) (he.pe B hB) (hf.pe B hB) m).imp fun σ H Q ⟨env, φ, d, S, q, k⟩ => by
    unfold f3 at q
    split at q
    · rename_i x y z q1 q2 q3
      have ed : ∃ t ks l, x = .dic t ks l := by
        cases x with
        | dic t ks l => exact ⟨t, ks, l, rfl⟩
        | _ => cases q
      obtain ⟨t, ks, l, rfl⟩ := ed
      have q' : (match dicGet t ks l y with
        | some (some y) => some y
        | some none => some z
        | none => none) = some d := q
      clear q
      have q := q'
      clear q'
      · skip
        refine ⟨env, φ, _, S, q1, fun u H1 fu e1 r1 k1 => ?_⟩
        obtain ⟨a, vs, fs, rfl, hr, hd, rfl⟩ := rep_dic.mp r1
        have isd : IsD H1 a := by
          cases t with
          | false => obtain ⟨kvs, rd, _⟩ := hd; exact .inl ⟨kvs, rd⟩
          | true => obtain ⟨kvs, rd, _⟩ := hd; exact .inr ⟨kvs, rd⟩
        refine ⟨a, rfl, isd, env, φ, _, S.ex e1, q2, fun v H2 fv e2 r2 k2 => ⟨env, φ, _, S.ex (e1.trans e2), q3, fun w H3 fw e3 r3 k3 => ?_⟩⟩
        obtain ⟨a', vs', fs', ea, hr', hd', ef⟩ := rep_dic.mp (rep_ex r1 (e2.trans e3))
        cases ea
        have ex := (e1.trans e2).trans e3
        split at q
        · rename_i y0 e0
          cases q
          obtain ⟨ov, g, _, h2⟩ := dget_of hd' hr' (rep_ex r2 e3) e0
          obtain ⟨w2, fx, rfl, rw', sub⟩ := h2 _ rfl
          exact ⟨_, g, k w2 H3 fx ex rw' fun b hb => (k1 b (by rw [ef]; exact List.mem_cons_of_mem _ (sub b hb)))⟩
        · rename_i e0
          cases q
          obtain ⟨ov, g, h1, _⟩ := dget_of hd' hr' (rep_ex r2 e3) e0
          rw [h1 rfl] at g
          exact ⟨_, g, k w H3 fw ex r3 (k3.ex (e1.trans e2))⟩
        · cases q
    · cases q⟩
/-- a new dict -/
theorem dn_dnewK : DN X (.Dict [] [] pos) (fC (.dic false [] [])) := ⟨fun B hB => pe_dnewK.imp fun σ H Q ⟨env, φ, d, S, q, k⟩ => by
  cases q
  exact fun p hp => k _ _ [p] (Evl.Ex.new hp) (rep_dic.mpr ⟨p, [], [], rfl, reps_nil, ⟨[], .inl upd_same, rfl, rfl, .nil⟩, rfl⟩) ⟨by simp, fun a ha => by
    rw [List.mem_singleton.mp ha, upd_same]
    exact ⟨trivial, hp⟩⟩⟩
theorem dn_dnewT : DN X (.Dict [] [] pos) (fC (.dic true [] [])) := ⟨fun B hB => pe_dnewT.imp fun σ H Q ⟨env, φ, d, S, q, k⟩ => by
  cases q
  exact fun p hp => k _ _ [p] (Evl.Ex.new hp) (rep_dic.mpr ⟨p, [], [], rfl, reps_nil, ⟨[], .inl upd_same, rfl, rfl, .nil⟩, rfl⟩) ⟨by simp, fun a ha => by
    rw [List.mem_singleton.mp ha, upd_same]
    exact ⟨trivial, hp⟩⟩⟩
/-! ### storing -/
def dicPut (t : Bool) (ks l : List D) (d x : D) : Option (List D × List D) := match conv t d with
  | some k => (match lkIx t ks k with
    | some j => some (ks, l.set j x)
    | none => some (ks ++ [d], l ++ [x]))
  | none => none
def hPut : D → List D → Option (D × D)
  | .dic t ks l, [d, x] => if l.length < LIM then (match dicPut t ks l d x with
    | some (ks', l') => some (.non, .dic t ks' l')
    | none => none) else none
  | _, _ => none
def rPut : V → List V → Hp → VK → Prop := fun x vs H Q => ∃ a y v H', x = .ref a ∧ vs = [y, v] ∧ DPut H a y v H' ∧ Q .non H'
theorem own_dic {C : Str → Addr} {H : Hp} {t : Bool} {ks l : List D} {v : V} {f : Fp} (r : Rep K false C H (.dic t ks l) v f) (mu : ∀ a ∈ f, Mut (H a)) : ∃ a vs fs, v = .ref a ∧ f = a :: fs ∧ Reps K false C H l vs fs ∧ DicAt H a t ks vs ∧ ∀ o u, H a ≠ some (.frz o u) := by
  obtain ⟨a, vs, fs, rfl, hr, hd, rfl⟩ := rep_dic.mp r
  refine ⟨a, vs, fs, rfl, rfl, hr, hd, fun o u q => ?_⟩
  have := mu a List.mem_cons_self
  rw [q] at this
  exact this
theorem rd_own {H : Hp} {a : Addr} {u : HO} (h : Rd H a u) (n : ∀ o u, H a ≠ some (.frz o u)) : H a = some u := by
  rcases h with h | ⟨o, h⟩
  · exact h
  · exact absurd h (n o u)
theorem m_put : MutR K rPut hPut := by
  intro C H d d' rd v f fs ds vs Q r nd mu rs nds mus dj hh k
  unfold hPut at hh
  split at hh
  · rename_i t ks l d0 x0
    split at hh
    · rename_i hl
      split at hh
      · rename_i ks' l' ep
        cases hh
        obtain ⟨a, us, gs, rfl, rfl, hr, hd, nf⟩ := own_dic r mu
        obtain ⟨y, w, f1, f2, rfl, rfl, ry, rw'⟩ := reps2 rs
        have nd' := List.nodup_cons.mp nd
        obtain ⟨n1, n2, n3⟩ := List.nodup_append.mp nds
        have hlen := reps_len hr
        -- where the new pair stands
        have fin : ∀ (o' : HO) (us' : List V) (gs' : Fp), Mut (some o') → Reps K false C H l' us' gs' → (∀ b ∈ gs', b ∈ gs ∨ b ∈ f2) → gs'.Nodup → (∀ H2 : Hp, H2 a = some o' → DicAt H2 a t ks' us') → Mut (H a) → Q .non (upd H a o') := fun o' us' gs' mo r' sub ndg da ma => by
          have na : a ∉ gs' := fun z => (sub a z).elim nd'.1 fun q => dj a List.mem_cons_self (List.mem_append_right _ q)
          refine k .non a o' (a :: gs') List.mem_cons_self mo (rep_dic.mpr ⟨a, us', gs', rfl, reps_upd r' na ma, da _ upd_same, rfl⟩) (List.nodup_cons.mpr ⟨na, ndg⟩) ?_ (rep_non.mpr ⟨rfl, rfl⟩) rfl
          intro b hb
          rcases List.mem_cons.mp hb with rfl | hb
          · exact .inl List.mem_cons_self
          · exact (sub b hb).imp (fun z => List.mem_cons_of_mem _ z) fun z => List.mem_append_right _ z
        have ma : Mut (H a) := mu a List.mem_cons_self
        have setI : ∀ j, j < l.length → ∃ gs', Reps K false C H (l.set j x0) (us.set j w) gs' ∧ (∀ b ∈ gs', b ∈ gs ∨ b ∈ f2) ∧ gs'.Nodup := fun j hj => by
          obtain ⟨gs', r', fx, fy, fz, rfl, rfl⟩ := reps_setR hr hj rw'
          refine ⟨_, r', fun b hb => ?_, ?_⟩
          · simp only [List.mem_append] at hb ⊢
            rcases hb with (hb | hb) | hb
            · exact .inl (.inl (.inl hb))
            · exact .inr hb
            · exact .inl (.inr hb)
          · have p1 := List.nodup_append.mp nd'.2
            have p2 := List.nodup_append.mp p1.1
            refine List.nodup_append.mpr ⟨List.nodup_append.mpr ⟨p2.1, n2, fun b hb c hc => ?_⟩, p1.2.1, fun b hb c hc => ?_⟩
            · rintro rfl
              exact dj b (by simp [hb]) (List.mem_append_right _ hc)
            · rintro rfl
              rcases List.mem_append.mp hb with hb | hb
              · exact p1.2.2 b (List.mem_append_left _ hb) b hc rfl
              · exact dj b (by simp [hc]) (List.mem_append_right _ hb)
        have newI : Reps K false C H (l ++ [x0]) (us ++ [w]) (gs ++ f2) ∧ (∀ b ∈ gs ++ f2, b ∈ gs ∨ b ∈ f2) ∧ (gs ++ f2).Nodup :=
          ⟨reps_app hr (reps_one rw'), fun b hb => List.mem_append.mp hb, List.nodup_append.mpr ⟨nd'.2, n2, fun b hb c hc => by rintro rfl; exact dj b (List.mem_cons_of_mem _ hb) (List.mem_append_right _ hc)⟩⟩
        unfold dicPut at ep
        split at ep
        · rename_i k0 ek
          cases t with
          | false =>
            obtain ⟨kvs, rd0, rfl, rfl, ndk⟩ := hd
            obtain ⟨x, rfl, rfl⟩ := conv_f ek
            have ey := keyD_V ry
            subst ey
            have ha := rd_own rd0 nf
            have hkl : kvs.length < sizeLine := lim_lt (by rw [← hlen] at hl; simpa using hl)
            rw [lkIx_f] at ep
            refine ⟨a, kV x, w, _, rfl, rfl, .inl ⟨kvs, x, ha, rfl, hkl, rfl⟩, ?_⟩
            split at ep
            · rename_i j ej
              cases ep
              have hj : j < l.length := by rw [← hlen, List.length_map]; exact (List.findIdx?_eq_some_iff_getElem.mp ej).1
              have hk := (List.findIdx?_eq_some_iff_getElem.mp ej).2.1
              obtain ⟨gs', r', sub, ndg⟩ := setI j hj
              rw [(putK_ix ndk).1 j ej]
              refine fin (.dK (kvs.set j (x, w))) _ gs' trivial r' sub ndg (fun H2 h2 => ⟨_, .inl h2, ?_, by rw [List.map_set], ?_⟩) ma
              · rw [List.map_set]
                symm
                have hjk := (List.findIdx?_eq_some_iff_getElem.mp ej).1
                apply List.ext_getElem?
                intro m
                by_cases e : j = m
                · subst e
                  rw [List.getElem?_set_self (by simpa using hjk), List.getElem?_map, List.getElem?_eq_getElem hjk]
                  have : kvs[j].1 = x := of_decide_eq_true hk
                  simp [this]
                · rw [List.getElem?_set_ne e]
              · rw [List.map_set]
                have hjk := (List.findIdx?_eq_some_iff_getElem.mp ej).1
                have : (kvs.map (fun p => p.1)).set j x = kvs.map (fun p => p.1) := by
                  apply List.ext_getElem?
                  intro m
                  by_cases e : j = m
                  · subst e
                    rw [List.getElem?_set_self (by simpa using hjk), List.getElem?_map, List.getElem?_eq_getElem hjk]
                    have : kvs[j].1 = x := of_decide_eq_true hk
                    simp [this]
                  · rw [List.getElem?_set_ne e]
                show ((kvs.map (fun p => p.1)).set j x).Nodup
                rw [this]
                exact ndk
            · rename_i ej
              cases ep
              rw [(putK_ix ndk).2 ej]
              refine fin (.dK (kvs ++ [(x, w)])) _ _ trivial newI.1 newI.2.1 newI.2.2 (fun H2 h2 => ⟨_, .inl h2, by simp, by simp, ?_⟩) ma
              rw [List.map_append]
              refine List.nodup_append.mpr ⟨ndk, by simp, fun b hb c hc => ?_⟩
              rintro rfl
              obtain ⟨p, hp, rfl⟩ := List.mem_map.mp hb
              have hc' : p.1 = x := by simpa using hc
              have := List.findIdx?_eq_none_iff.mp ej p hp
              rw [decide_eq_true hc'] at this
              cases this
          | true =>
            obtain ⟨kvs, rd0, rfl, rfl, ndk⟩ := hd
            have ed := conv_t ek
            subst ed
            obtain ⟨b, bs, rfl, hb, hu⟩ := rep_tup.mp ry
            have eu := keyDs_V hu
            subst eu
            have ha := rd_own rd0 nf
            have hkl : kvs.length < sizeLine := lim_lt (by rw [← hlen] at hl; simpa using hl)
            rw [lkIx_t] at ep
            refine ⟨a, .ref b, w, _, rfl, rfl, .inr ⟨kvs, k0, b, ha, rfl, hb, hkl, rfl⟩, ?_⟩
            split at ep
            · rename_i j ej
              cases ep
              have hj : j < l.length := by rw [← hlen, List.length_map]; exact (List.findIdx?_eq_some_iff_getElem.mp ej).1
              have hk := (List.findIdx?_eq_some_iff_getElem.mp ej).2.1
              obtain ⟨gs', r', sub, ndg⟩ := setI j hj
              rw [(putK_ix ndk).1 j ej]
              have hjk := (List.findIdx?_eq_some_iff_getElem.mp ej).1
              have same : (kvs.map (fun p => p.1)).set j k0 = kvs.map (fun p => p.1) := by
                apply List.ext_getElem?
                intro m
                by_cases e : j = m
                · subst e
                  rw [List.getElem?_set_self (by simpa using hjk), List.getElem?_map, List.getElem?_eq_getElem hjk]
                  have : kvs[j].1 = k0 := of_decide_eq_true hk
                  simp [this]
                · rw [List.getElem?_set_ne e]
              refine fin (.dT (kvs.set j (k0, w))) _ gs' trivial r' sub ndg (fun H2 h2 => ⟨_, .inl h2, ?_, by rw [List.map_set], ?_⟩) ma
              · rw [List.map_set]
                symm
                apply List.ext_getElem?
                intro m
                by_cases e : j = m
                · subst e
                  rw [List.getElem?_set_self (by simpa using hjk), List.getElem?_map, List.getElem?_eq_getElem hjk]
                  have : kvs[j].1 = k0 := of_decide_eq_true hk
                  simp [this]
                · rw [List.getElem?_set_ne e]
              · rw [List.map_set]
                show ((kvs.map (fun p => p.1)).set j k0).Nodup
                rw [same]
                exact ndk
            · rename_i ej
              cases ep
              rw [(putK_ix ndk).2 ej]
              refine fin (.dT (kvs ++ [(k0, w)])) _ _ trivial newI.1 newI.2.1 newI.2.2 (fun H2 h2 => ⟨_, .inl h2, by simp, by simp, ?_⟩) ma
              rw [List.map_append]
              refine List.nodup_append.mpr ⟨ndk, by simp, fun b hb c hc => ?_⟩
              rintro rfl
              obtain ⟨p, hp, rfl⟩ := List.mem_map.mp hb
              have hc' : p.1 = k0 := by simpa using hc
              have := List.findIdx?_eq_none_iff.mp ej p hp
              rw [decide_eq_true hc'] at this
              cases this
        · cases ep
      · cases hh
    · cases hh
  · cases hh
/-- d[k] = v, d a name -/
def sDPut (i : Nat) (fk : DF) (fv : MF) : SF := fun env => match fv env with
  | some (.ok x env1) => (match fImm fk env1 with
    | some d => (match chgS hPut [d, x] i env1 with
      | some (.ok _ env2) => some (.nx env2)
      | _ => none)
    | none => none)
  | some (.exc c env1) => some (.exc c env1)
  | none => none
theorem ds_dput {x : Str} {j : Nat} {e kx : Expr} {p1 pos' : Pos} {fk : DF} {fv : MF} (hu : X.A.units + 1 < cLine) (hN : X.N[j]? = some x) (hv : Vis X.env.scope x) (hk : DP X kx fk) (he : DM X W e fv)
    (hs : swapsWith e (some (.Subscript (.Name x p1) kx pos')) pos.line X.env = pure false) (hd : (x == ("__debug__" : Str)) = false := by decide) (hcd : (x == ("__classdict__" : Str)) = false := by decide)
    (ps : ∀ td ty tv, PE X (.Name x p1) td → PE X kx ty → PE X e tv → PS X (.Assign [.Subscript (.Name x p1) kx pos'] e pos) (L2.sDPut td ty tv)) : DS X W (.Assign [.Subscript (.Name x p1) kx pos'] e pos) (sDPut j fk fv) := ⟨fun B hB =>
  (ps _ _ _ (pe_var hN hv hd hcd) (hk.dn.pe B hB) (he.pe B hB)).imp fun D σ H ⟨env, φ, o, S, q, k⟩ => by
    unfold sDPut at q
    split at q
    · rename_i x0 env1 e1
      split at q
      · rename_i d0 e2
        split at q
        · rename_i rd env2 e3
          cases q
          refine ⟨[], [], env, φ, _, S.len, by simpa using S, e1, fun v H1 φ1 S1 l1 => ?_⟩
          rw [List.append_nil, List.append_nil] at S1
          have hl1 : σ.length = env1.length := by have := S.len; omega
          have S0 := S1.pop
          -- the name's value
          have ei : ∃ s, env1[j]? = some (some s) := by
            unfold chgS at e3
            split at e3
            · exact ⟨_, by assumption⟩
            · cases e3
          obtain ⟨s, es⟩ := ei
          obtain ⟨u, eu, _⟩ := S0.get es
          refine ⟨u, eu, env1, φ1, d0, S0, e2, fun y H2 fy ex ry ny => ?_⟩
          have im := (fImm_of e2).2
          have z := rep_imm ry im
          subst z
          have S2 := S1.ex ex
          -- the key, then the value
          obtain ⟨rv, ndv, muv⟩ := S2.last
          have S3 := S2.pop.pushImm ry
          have S4 := S3.push rv ndv muv fun i t h b hb => by
            rcases get_snoc h with ⟨hi, h2⟩ | ⟨rfl, h2⟩
            · rw [fset_ne (by omega)]
              exact S2.excl env1.length i ⟨.own, x0⟩ t (by omega) (by simp) (by rw [List.getElem?_append_left hi]; exact h2) rfl b hb
            · rw [fset_same]
              exact fun h => nomatch h
          have app : rPut u [y, v] H2 _ := chg_of (B := B) (τ := []) (te := []) (vs := [y, v]) (ds := [d0, x0]) (Q := fun _ H' => ∃ φ', St B σ H' env2 φ') (m_put (K := B.K)) hl1 rfl (by simpa [owns] using S4) eu e3
            fun w H' φ' S' l' => by
              rw [List.append_nil, List.append_nil] at S'
              exact ⟨φ', S'.pop⟩
          obtain ⟨a, y', v', H', rfl, ev, dp, φ', S'⟩ := app
          cases ev
          exact ⟨a, H', rfl, dp, k σ H' φ' S'⟩
        · cases q
      · cases q
    · rename_i c env1 e1
      cases q
      refine ⟨[], [], env, φ, _, S.len, by simpa using S, e1, fun H' φ' S' hl => ?_⟩
      rw [List.append_nil, List.append_nil] at S'
      exact k _ H' _ S'
    · cases q⟩
end
end DL


set_option Elab.async false
set_option linter.all false
set_option maxRecDepth 100000
/-! The data layer, part 18: enumerate, zip, augmented assignment, the rest of the plain statements. -/
namespace DL
open PySem PySem.Spec PyProof.Rows L2

def enumD (l : List D) : List D := l.mapIdx fun (i : Nat) d => .tup [.int (i : Int), d]
def zipD : List D → List D → List D
  | x :: l, y :: m => .tup [x, y] :: zipD l m
  | _, _ => []
theorem zipD_get : ∀ {l m : List D} {i : Nat} {d : D}, (zipD l m)[i]? = some d → ∃ x y, l[i]? = some x ∧ m[i]? = some y ∧ d = .tup [x, y]
  | [], m, i, d, h => by simp [zipD] at h
  | x :: l, [], i, d, h => by simp [zipD] at h
  | x :: l, y :: m, 0, d, h => by simp [zipD] at h; exact ⟨x, y, rfl, rfl, h.symm⟩
  | x :: l, y :: m, i + 1, d, h => by
    obtain ⟨a, b, h1, h2, h3⟩ := zipD_get (l := l) (m := m) (i := i) (by simpa [zipD] using h)
    exact ⟨a, b, by simpa using h1, by simpa using h2, h3⟩
theorem zipD_len : ∀ {l m : List D}, (zipD l m).length = min l.length m.length
  | [], m => by simp [zipD]
  | x :: l, [] => by simp [zipD]
  | x :: l, y :: m => by simp [zipD, zipD_len (l := l) (m := m)]
section
variable {K : PySem.W.Frag} {C : Str → Addr} {H : Hp}
theorem itok_enum {a : Addr} {l : List D} {vs : List V} {fs fp : Fp} (hr : Reps K true C H l vs fs) (h : (Rd H a (.lst vs) ∧ fp = a :: fs) ∨ (true = true ∧ KL K a vs ∧ fp = fs)) : ItOk K C H (Ite K a) (enumD l) fp := by
  have sub : ∀ x ∈ fs, x ∈ fp := by
    rcases h with ⟨_, rfl⟩ | ⟨_, _, rfl⟩
    · exact fun x hx => List.mem_cons_of_mem _ hx
    · exact fun x hx => hx
  refine ⟨fun x hx => rep_in (rep_lst.mpr ⟨a, vs, fs, rfl, hr, h⟩ : Rep K true C H (.lst l) (.ref a) fp) x hx, fun H2 k t => ⟨fun i d e => ?_, ?_⟩⟩
  · unfold enumD at e
    rw [List.getElem?_mapIdx] at e
    cases q : l[i]? with
    | none => rw [q] at e; cases e
    | some x =>
      rw [q] at e
      cases e
      obtain ⟨v, fx, ev, r, sx⟩ := reps_at hr q
      have hq := sql_keep h k
      refine ⟨⟨vs, v, hq, ev⟩, fun y H3 hy => ?_⟩
      obtain ⟨T, x', rfl, nT, rfl, f⟩ := hy
      have := f vs hq
      rw [ev] at this
      cases this
      have ex := Evl.Ex.new (o := .tup [.int (i : Int), v]) nT
      have r2 := rep_ex (rep_frame r (fun b hb => k b (sub b (sx b hb))) t) ex
      exact ⟨ex, fx, rep_tup.mpr ⟨T, _, rfl, upd_same, reps_cons (f1 := []) fin_int (reps_one r2)⟩, fun b hb => sub b (sx b hb)⟩
  · exact ⟨vs, sql_keep h k, by unfold enumD; rw [List.length_mapIdx, reps_len hr]; exact Nat.le_refl _⟩
theorem itok_zip {a b : Addr} {l m : List D} {vs us : List V} {fs fp gs gp : Fp} (hr : Reps K true C H l vs fs) (h : (Rd H a (.lst vs) ∧ fp = a :: fs) ∨ (true = true ∧ KL K a vs ∧ fp = fs)) (hr2 : Reps K true C H m us gs) (h2 : (Rd H b (.lst us) ∧ gp = b :: gs) ∨ (true = true ∧ KL K b us ∧ gp = gs)) : ItOk K C H (Itz K a b) (zipD l m) (fp ++ gp) := by
  have sub : ∀ x ∈ fs, x ∈ fp := by
    rcases h with ⟨_, rfl⟩ | ⟨_, _, rfl⟩
    · exact fun x hx => List.mem_cons_of_mem _ hx
    · exact fun x hx => hx
  have sub2 : ∀ x ∈ gs, x ∈ gp := by
    rcases h2 with ⟨_, rfl⟩ | ⟨_, _, rfl⟩
    · exact fun x hx => List.mem_cons_of_mem _ hx
    · exact fun x hx => hx
  refine ⟨fun x hx => ?_, fun H2 k t => ⟨fun i d e => ?_, ?_⟩⟩
  · rcases List.mem_append.mp hx with q | q
    · exact rep_in (rep_lst.mpr ⟨a, vs, fs, rfl, hr, h⟩ : Rep K true C H (.lst l) (.ref a) fp) x q
    · exact rep_in (rep_lst.mpr ⟨b, us, gs, rfl, hr2, h2⟩ : Rep K true C H (.lst m) (.ref b) gp) x q
  · obtain ⟨x, y, e1, e2, rfl⟩ := zipD_get e
    obtain ⟨v, fx, ev, r, sx⟩ := reps_at hr e1
    obtain ⟨u, fy, eu, r2, sy⟩ := reps_at hr2 e2
    have hq := sql_keep h fun b hb => k b (List.mem_append_left _ hb)
    have hq2 := sql_keep h2 fun b hb => k b (List.mem_append_right _ hb)
    refine ⟨⟨vs, us, v, u, hq, hq2, ev, eu⟩, fun z H3 hz => ?_⟩
    obtain ⟨T, x', y', rfl, nT, rfl, f, g⟩ := hz
    have z1 := f vs hq
    rw [ev] at z1
    cases z1
    have z2 := g us hq2
    rw [eu] at z2
    cases z2
    have ex := Evl.Ex.new (o := .tup [v, u]) nT
    have r3 := rep_ex (rep_frame r (fun b hb => k b (List.mem_append_left _ (sub b (sx b hb)))) t) ex
    have r4 := rep_ex (rep_frame r2 (fun b hb => k b (List.mem_append_right _ (sub2 b (sy b hb)))) t) ex
    refine ⟨ex, fx ++ fy, rep_tup.mpr ⟨T, _, rfl, upd_same, reps_cons r3 (reps_one r4)⟩, fun b hb => ?_⟩
    rcases List.mem_append.mp hb with q | q
    · exact List.mem_append_left _ (sub b (sx b q))
    · exact List.mem_append_right _ (sub2 b (sy b q))
  · refine ⟨vs, us, sql_keep h fun b hb => k b (List.mem_append_left _ hb), sql_keep h2 fun b hb => k b (List.mem_append_right _ hb), ?_⟩
    rw [zipD_len, reps_len hr, reps_len hr2]
    omega
end
section
variable {X : Cx} {W : WX} {e e2 : Expr} {pos p tpos : Pos} {elts : List Expr} {kk : Nat}
def asE (f : Env → Option (List D)) : Env → Option (List D) := fun env => match f env with
  | some [.lst l] => some (enumD l)
  | _ => none
def asZ (f : Env → Option (List D)) : Env → Option (List D) := fun env => match f env with
  | some [.lst l, .lst m] => some (zipD l m)
  | _ => none
theorem di_enum {f : Env → Option (List D)} (hg : Gl X "enumerate") (hm : X.mg "enumerate" = none) (ha : DA X [e] f) (hs : starEach [e] X.env = [(false, eval e X.env)] := by rfl) : DI X (.Tuple elts kk tpos) (.Call (.Name "enumerate" p) [e] [] pos) (asE f) :=
  ⟨fun B hB => (pi_enum hg hm (ha.pa B hB) hs).imp fun σ H R ⟨env, φ, ds, S, q, k⟩ => by
    unfold asE at q
    split at q
    · rename_i l q1
      cases q
      refine ⟨env, φ, _, S, q1, fun vs H1 fps e1 r1 k1 => ?_⟩
      obtain ⟨v, rfl, r⟩ := reps1 r1
      obtain ⟨a, us, fs, rfl, hr, hc⟩ := rep_lst.mp r
      have hq : SqL X.K H1 a us := by
        rw [← hB]
        rcases hc with ⟨z, _⟩ | ⟨_, z, _⟩
        · exact .inl z
        · exact .inr z
      refine ⟨a, us, rfl, hq, ?_⟩
      rw [← hB]
      exact k _ H1 fps e1 k1 (itok_enum hr hc)
    · cases q⟩
theorem di_zip {f : Env → Option (List D)} (hg : Gl X "zip") (hm : X.mg "zip" = none) (ha : DA X [e, e2] f) (hs : starEach [e, e2] X.env = (false, eval e X.env) :: starEach [e2] X.env := by rfl) (hpl : (backTo pos (starEach [e2] X.env)).any (·.1) = false := by rfl) :
    DI X (.Tuple elts kk tpos) (.Call (.Name "zip" p) [e, e2] [] pos) (asZ f) :=
  ⟨fun B hB => (pi_zip hg hm (ha.pa B hB) hs hpl).imp fun σ H R ⟨env, φ, ds, S, q, k⟩ => by
    unfold asZ at q
    split at q
    · rename_i l m q1
      cases q
      refine ⟨env, φ, _, S, q1, fun vs H1 fps e1 r1 k1 => ?_⟩
      obtain ⟨v, u, f1, f2, rfl, rfl, r, r'⟩ := reps2 r1
      obtain ⟨a, us, fs, rfl, hr, hc⟩ := rep_lst.mp r
      obtain ⟨b, ws, gs, rfl, hr2, hc2⟩ := rep_lst.mp r'
      have sq : ∀ {a : Addr} {us : List V} {fs fp : Fp}, ((Rd H1 a (.lst us) ∧ fp = a :: fs) ∨ (true = true ∧ KL B.K a us ∧ fp = fs)) → SqL X.K H1 a us := fun hc => by
        rw [← hB]
        rcases hc with ⟨z, _⟩ | ⟨_, z, _⟩
        · exact .inl z
        · exact .inr z
      refine ⟨a, b, us, ws, rfl, sq hc, sq hc2, ?_⟩
      rw [← hB]
      exact k _ H1 _ e1 k1 (itok_zip hr hc hr2 hc2)
    · cases q⟩
/-- name op= value, whole numbers -/
def sAug (i : Nat) (g : Int → Int → Int) (f : MF) : SF := fun env => match env[i]? with
  | some (some ⟨_, .int a⟩) => (match f env with
    | some (.ok (.int b) env1) => if canSet env1 i = true then some (.nx (env1.set i (some ⟨.own, .int (g a b)⟩))) else none
    | some (.exc c env1) => some (.exc c env1)
    | _ => none)
  | _ => none
theorem ds_aug {i : Nat} {x : Str} {pos' : Pos} {op : Operator} {g : Int → Int → Int} {f : MF} (hN : X.N.Nodup) (hi : X.N[i]? = some x) (hx : Loc X.env.scope x) (he : DM X W e f) (ho : PIp X op (ipI g)) (hf : X.fn x = true ∨ X.env.scope.names.lookup x = some .local := by first | exact .inl rfl | exact .inr rfl | assumption) :
    DS X W (.AugAssign (.Name x pos') op e pos) (sAug i g f) := ⟨fun B hB => (ps_aug hN hi hx (he.pe B hB) ho hf).imp fun D σ H ⟨env, φ, o, S, q, k⟩ => by
  unfold sAug at q
  split at q
  · rename_i m a es
    obtain ⟨v, ev, r⟩ := S.get es
    refine ⟨v, ev, ?_⟩
    have ev' := (rep_int.mp r).1
    split at q
    · rename_i b env1 e1
      split at q
      · rename_i hc
        cases q
        refine ⟨[], [], env, φ, _, S.len, by simpa using S, e1, fun w H' φ' S' hl => ?_⟩
        rw [List.append_nil, List.append_nil] at S'
        have rb := S'.last
        refine ⟨a, b, ev', (rep_int.mp rb.1).1, ?_⟩
        have S2 := S'.pop.pushImm (d := .int (g a b)) (v := .int (g a b)) fin_int
        exact k _ H' _ (S2.move (.inl rfl) (canSet_lt hc))
      · cases q
    · rename_i c env1 e1
      cases q
      refine ⟨[], [], env, φ, _, S.len, by simpa using S, e1, fun H' φ' S' hl => ?_⟩
      rw [List.append_nil, List.append_nil] at S'
      exact k _ H' _ S'
    · cases q
  · cases q⟩
/-- rows of one's own values -/
def mLst (a : Env → Option (R (List Ag))) : MF := fun env => match a env with
  | some (.ok gs env1) => (match vaL gs with
    | some ds => if ds.length ≤ LIM then some (.ok (.lst ds) env1) else none
    | none => none)
  | some (.exc c env1) => some (.exc c env1)
  | none => none
theorem St.pack {B : Bs} {σ τ : L2.St} {H : Hp} {env te : Env} {φ : Nat → Fp} {ds : List D} {vs : List V} (S : St B (σ ++ τ ++ vs.map some) H (env ++ te ++ owns ds) φ) (hτ : (σ ++ τ).length = (env ++ te).length) {v : V} {d : D} {H' : Hp} (ex : Ex H H')
    (h : ∀ fs, Reps B.K false B.C H ds vs fs → fs.Nodup → ∃ fp, Rep B.K false B.C H' d v fp ∧ fp.Nodup ∧ ∀ a ∈ fp, (a ∈ fs) ∨ (H a = none ∧ Mut (H' a))) : ∃ φ', St B (σ ++ τ ++ [some v]) H' (env ++ te ++ [some ⟨.own, d⟩]) φ' := by
  obtain ⟨fs, rs, nds, mus, sub⟩ := S.owns_reps hτ
  obtain ⟨fp, r, nd, k⟩ := h fs rs nds
  have S0 := (S.trunc hτ).ex ex
  refine ⟨_, S0.push r nd (fun a ha => ?_) fun i s hi a ha hb => ?_⟩
  · rcases k a ha with q | ⟨q1, q2⟩
    · obtain ⟨c, hc, z⟩ := sub a q
      have e3 : (env ++ te ++ owns ds)[(env ++ te).length + c]? = some (some (⟨.own, ds[c]⟩ : Slot)) := by
        rw [List.getElem?_append_right (by omega), Nat.add_sub_cancel_left]
        unfold owns
        rw [List.getElem?_map, List.getElem?_eq_getElem hc]
        rfl
      obtain ⟨w, _, ok⟩ := S.ok _ _ e3
      have ok' : Rep B.K false B.C H ds[c] w (φ ((env ++ te).length + c)) ∧ (φ ((env ++ te).length + c)).Nodup ∧ ∀ a ∈ φ ((env ++ te).length + c), Mut (H a) ∧ OldO B a := ok
      exact ⟨mut_ex ex (ok'.2.2 a z).1, (ok'.2.2 a z).2⟩
    · refine ⟨q2, .inr ?_⟩
      cases r0 : B.H0 a with
      | none => rfl
      | some o => exact absurd q1 (S.there a (by rw [r0]; simp))
  · obtain ⟨hil, _⟩ := List.getElem?_eq_some_iff.mp hi
    have hi' : (env ++ te ++ owns ds)[i]? = some (some s) := by rw [List.getElem?_append_left hil]; exact hi
    rcases k a ha with q | ⟨q1, q2⟩
    · obtain ⟨c, hc, z⟩ := sub a q
      have e3 : (env ++ te ++ owns ds)[(env ++ te).length + c]? = some (some (⟨.own, ds[c]⟩ : Slot)) := by
        rw [List.getElem?_append_right (by omega), Nat.add_sub_cancel_left]
        unfold owns
        rw [List.getElem?_map, List.getElem?_eq_getElem hc]
        rfl
      exact S.excl _ i _ s (by omega) e3 hi' rfl a z hb
    · exact S.in hi' a hb q1
variable {es : List Expr}
theorem dm_tup {k : Nat} {a : Env → Option (R (List Ag))} (h : DAM X W es a) : DM X W (.Tuple es k pos) (mTup a) := ⟨fun B hB => (pe_tup (h.pa B hB)).imp fun σ H Q ⟨τ, te, env, φ, r, hl, S, q, k⟩ => by
  unfold mTup at q
  split at q
  · rename_i gs env1 q1
    split at q
    · rename_i ds hds
      split at q
      · rename_i hL
        cases q
        refine ⟨τ, te, env, φ, _, hl, S, q1, fun vs H1 φ1 S1 l1 ag => ?_⟩
        have eg := vaL_of hds
        subst eg
        obtain ⟨t1, t2⟩ := tm_va ag
        rw [t1, t2] at S1
        have hvl : vs.length = ds.length := by have := ag.len; simpa using this
        refine ⟨by rw [hvl]; exact lim_le hL, fun p hp => ?_⟩
        have hτ : (σ ++ τ).length = (env1 ++ te).length := by have := S1.len; simp [owns] at this; simp; omega
        obtain ⟨φ2, S2⟩ := S1.pack hτ (v := .ref p) (d := .tup ds) (H' := L2.upd H1 p (.tup vs)) (Evl.Ex.new hp) fun fs rs nds => ⟨fs, rep_newT rs hp, nds, fun a ha => .inl ha⟩
        exact k _ _ φ2 S2 l1
      · cases q
    · cases q
  · rename_i c env1 q1
    cases q
    exact ⟨τ, te, env, φ, _, hl, S, q1, k⟩
  · cases q⟩
theorem dm_lst {a : Env → Option (R (List Ag))} (h : DAM X W es a) : DM X W (.List es pos) (mLst a) := ⟨fun B hB => (pe_lst (h.pa B hB)).imp fun σ H Q ⟨τ, te, env, φ, r, hl, S, q, k⟩ => by
  unfold mLst at q
  split at q
  · rename_i gs env1 q1
    split at q
    · rename_i ds hds
      split at q
      · rename_i hL
        cases q
        refine ⟨τ, te, env, φ, _, hl, S, q1, fun vs H1 φ1 S1 l1 ag => ?_⟩
        have eg := vaL_of hds
        subst eg
        obtain ⟨t1, t2⟩ := tm_va ag
        rw [t1, t2] at S1
        have hvl : vs.length = ds.length := by have := ag.len; simpa using this
        refine ⟨by rw [hvl]; exact lim_le hL, fun p hp => ?_⟩
        have hτ : (σ ++ τ).length = (env1 ++ te).length := by have := S1.len; simp [owns] at this; simp; omega
        obtain ⟨φ2, S2⟩ := S1.pack hτ (v := .ref p) (d := .lst ds) (H' := L2.upd H1 p (.lst vs)) (Evl.Ex.new hp) fun fs rs nds => ⟨p :: fs, rep_lst.mpr ⟨p, vs, fs, rfl, reps_ex rs (Evl.Ex.new hp), .inl ⟨.inl upd_same, rfl⟩⟩,
          List.nodup_cons.mpr ⟨fun z => reps_in rs p z hp, nds⟩, fun a ha => by
            rcases List.mem_cons.mp ha with rfl | ha
            · exact .inr ⟨hp, by rw [upd_same]; trivial⟩
            · exact .inl ha⟩
        exact k _ _ φ2 S2 l1
      · cases q
    · cases q
  · rename_i c env1 q1
    cases q
    exact ⟨τ, te, env, φ, _, hl, S, q1, k⟩
  · cases q⟩
end
end DL


set_option Elab.async false
set_option linter.all false
set_option maxRecDepth 100000
/-! The data layer, part 19: list(enumerate(..)). -/
namespace EnL
open PySem PySem.Calls PyProof.Rows PyProof.V PySem.Spec
open PySem.W (kdx_alive)
def EnSt (h : Heap) (e it l S : Addr) (i : Nat) (items : Array Value) : Prop :=
  h.IsListIter it l i ∧ h.IsList l items ∧ ((∃ old, IsEnum h e it i old) ∨ ∃ old T f oT, IsEnumHeld h e it i old T f ∧ h.get? T = some oT ∧ T ≠ e ∧ T ≠ it ∧ T ≠ S)
structure EnG (items : Array Value) (h : Heap) (S : Addr) (as : List Addr) : Prop where
  rise : as.Pairwise (· < ·)
  above : ∀ a ∈ as, S < a
  pairs : ∀ (j : Nat) (a : Addr), as[j]? = some a → ∃ t x, items[j]? = some x ∧ h.get? a = some { cls := .type "tuple", data := .seq #[.int (j : Int) t, x] }
theorem EnG.there {items : Array Value} {h : Heap} {S : Addr} {as : List Addr} (g : EnG items h S as) {a : Addr} (ha : a ∈ as) : a < h.objs.size := by
  obtain ⟨j, hj⟩ := List.mem_iff_getElem?.mp ha
  obtain ⟨_, _, _, e⟩ := g.pairs j a hj
  exact Heap.lt_size e
section
variable {prog : Program} {w : World} {A : Around} {E : Value → Shared → Prop} {s : Shared} {e it l S : Addr} {i : Nat} {items : Array Value}
theorem EnSt.keep {h h' : Heap} (x : EnSt h e it l S i items) (hk : ∀ b o, b ≠ S → h.get? b = some o → h'.get? b = some o) (he : e ≠ S) (hi : it ≠ S) (hl : l ≠ S) : EnSt h' e it l S i items := by
  obtain ⟨a, b, c⟩ := x
  refine ⟨a.at fun o z => hk _ o hi z, b.at fun o z => hk _ o hl z, ?_⟩
  rcases c with ⟨old, c⟩ | ⟨old, T, f, oT, c, hT, r1, r2, r3⟩
  · exact .inl ⟨old, hk _ _ he c⟩
  · exact .inr ⟨old, T, f, oT, hk _ _ he c, hk _ _ r3 hT, r1, r2, r3⟩
theorem en_item {x : Value} {Q : Option Value → Shared → Prop} (st : EnSt s.heap e it l S i items) (hx : items[i]? = some x) (hei : e ≠ it) (hle : l ≠ e) (hli : l ≠ it) (hS : S < s.heap.objs.size)
    (hQ : ∀ h', EnSt h' e it l S (i + 1) items → h'.get? s.heap.objs.size = some { cls := .type "tuple", data := .seq #[.int (i : Int) s.toks, x] } → h'.objs.size = s.heap.objs.size + 1 →
      (∀ b o, b ≠ e → b ≠ it → s.heap.get? b = some o → h'.get? b = some o) → Q (some (.ref s.heap.objs.size)) { s with heap := h', toks := s.toks + 1 }) :
    wpAny (model prog w) A (pyNext (.ref e)) Q E s := by
  obtain ⟨hit, hl, he⟩ := st
  have ec : ((i + 1 : Nat) : Int) = (i : Int) + 1 := by omega
  have nit : s.heap.objs.size ≠ it := let ⟨_, x, _⟩ := hit; Nat.ne_of_gt (Heap.lt_size x)
  rcases he with ⟨old, he⟩ | ⟨old, T, f, oT, he, hT, r1, r2, r3⟩
  · refine wpAny_pyNext_enum_item he hit hl hx hei fun h' ho hit' hT hsz hk => ?_
    exact hQ h' ⟨hit', hl.at fun o z => hk l o hle hli z, .inr ⟨_, s.heap.objs.size, false, _, (by rw [ec]; exact ho), hT, Nat.ne_of_gt (Heap.lt_size he), nit, Nat.ne_of_gt hS⟩⟩ hT hsz hk
  · refine wpAny_pyNext_enum_item_held he hT r1 r2 hit hl hx hei fun h' ho hit' hT' hsz hk => ?_
    exact hQ h' ⟨hit', hl.at fun o z => hk l o hle hli z, .inr ⟨old, T, true, oT, (by rw [ec]; exact ho), hk _ _ r1 r2 hT, r1, r2, r3⟩⟩ hT' hsz hk
theorem en_done {Q : Option Value → Shared → Prop} (hh : A.handled = none) (st : EnSt s.heap e it l S i items) (hx : items[i]? = none) (hQ : ∀ h', Heap.ExtBut it s.heap h' → Q none { s with heap := h' }) :
    wpAny (model prog w) A (pyNext (.ref e)) Q E s := by
  obtain ⟨hit, hl, he⟩ := st
  rcases he with ⟨old, he⟩ | ⟨old, T, f, oT, he, hT, r1, r2, r3⟩
  · exact wpAny_pyNext_enum_end hh he hit hl hx hQ
  · exact wpAny_pyNext_enum_end_held hh he hit hl hx hQ
theorem en_loop {R : Result → Shared → Prop} (hh : A.handled = none) (hei : e ≠ it) (hle : l ≠ e) (hli : l ≠ it) (heS : e ≠ S) (hiS : it ≠ S) (hlS : l ≠ S) (hn : items.size ≤ sizeLine) (res : Value) {h₁ : Heap}
    (hR : ∀ h' tk acc c as, (∀ b o, b ≠ S → b ≠ e → b ≠ it → h₁.get? b = some o → h'.get? b = some o) → h'.get? S = some { cls := .type "list", dict := none, data := .seq acc c, slots := #[] } → as.length = items.size → EnG items h' S as →
      acc.toList = as.map Value.ref → R (.ok (.ret res)) { s with heap := h', toks := tk }) :
    ∀ (k i : Nat) (h : Heap) (tk c : Nat) (acc : Array Value) (as : List Addr), items.size - i = k → i ≤ items.size → EnSt h e it l S i items → (∀ b o, b ≠ S → b ≠ e → b ≠ it → h₁.get? b = some o → h.get? b = some o) →
      h.get? S = some { cls := .type "list", dict := none, data := .seq acc c, slots := #[] } → acc.toList = as.map Value.ref → as.length = i → EnG items h S as → (∀ a ∈ as, a ≠ e ∧ a ≠ it) →
      codeAny (model prog w) A (.builtin "list.extend.loop" ⟨[.ref S, .ref e, res], []⟩) R { s with heap := h, toks := tk } := by
  intro k
  induction k with
  | zero =>
    intro i h tk c acc as hk hi hst hkeep hS hacc hal hG hap
    have hin : i = items.size := by omega
    refine codeAny_builtin PySem.F.entry_extend_loop ?_
    rw [Around.under_plainId PySem.F.plain_extend_loop _]
    show wpAny _ A.in1 (pyNext (.ref e) >>= _) _ _ _
    refine wpAny_bind (en_done (s := { s with heap := h, toks := tk }) (A := A.in1) hh hst (Array.getElem?_eq_none (by omega)) fun h' he => ?_)
    refine wpAny_pure (hR h' tk acc c as (fun b o h1 h2 h3 z => he b o h3 (hkeep b o h1 h2 h3 z)) (he S _ (Ne.symm hiS) hS) (by omega) ⟨hG.rise, hG.above, fun j a hj => ?_⟩ hacc)
    obtain ⟨t, x, e1, e3⟩ := hG.pairs j a hj
    exact ⟨t, x, e1, he a _ (hap a (List.mem_of_getElem? hj)).2 e3⟩
  | succ k ih =>
    intro i h tk c acc as hk hi hst hkeep hS hacc hal hG hap
    have hlt : i < items.size := by omega
    have hx : items[i]? = some items[i] := Array.getElem?_eq_getElem hlt
    have hsz : acc.size = i := by rw [← Array.length_toList, hacc, List.length_map, hal]
    have hSl : S < h.objs.size := Heap.lt_size hS
    have hel : e < h.objs.size := by
      obtain ⟨_, _, z⟩ := hst
      rcases z with ⟨_, z⟩ | ⟨_, _, _, _, z, _⟩ <;> exact Heap.lt_size z
    have hil : it < h.objs.size := by obtain ⟨⟨_, z, _⟩, _⟩ := hst; exact Heap.lt_size z
    refine codeAny_builtin PySem.F.entry_extend_loop ?_
    rw [Around.under_plainId PySem.F.plain_extend_loop _]
    show wpAny _ A.in1 (pyNext (.ref e) >>= _) _ _ _
    refine wpAny_bind (en_item (s := { s with heap := h, toks := tk }) hst hx hei hle hli hSl fun h' hst' ht hz hkp => ?_)
    dsimp only at ht hz hkp ⊢
    have hS' := hkp S _ (Ne.symm heS) (Ne.symm hiS) hS
    have up : ∀ b o, b ≠ S → h'.get? b = some o → (h'.update S (Obj.mapSeq (·.push (Value.ref h.objs.size)))).get? b = some o := fun b o hb z => (Heap.get?_update_other _ _ (Ne.symm hb)).trans z
    show wpAny _ A.in1 (updateSeq S (·.push (Value.ref h.objs.size)) >>= _) _ _ _
    refine wpAny_bind ?_
    refine wpAny_updateSeq hS' rfl (wpAny_pure ⟨plainId_quiet PySem.F.plain_extend_loop _, ih (i + 1) _ (tk + 1) _ (acc.push (Value.ref h.objs.size)) (as ++ [h.objs.size]) (by omega) hlt (hst'.keep up heS hiS hlS)
      (fun b o h1 h2 h3 z => up b o h1 (hkp b o h2 h3 (hkeep b o h1 h2 h3 z))) (Heap.get?_update_self _ hS' rfl) (by rw [Array.toList_push, hacc, List.map_append]; rfl) (by rw [List.length_append, hal]; rfl) ⟨?_, ?_, ?_⟩ ?_⟩) (by rw [hsz]; omega) (by show (acc.push (Value.ref h.objs.size)).size ≤ sizeLine + 1; rw [Array.size_push, hsz]; omega)
    · refine List.pairwise_append.mpr ⟨hG.rise, List.pairwise_singleton _ _, fun a ha b hb => ?_⟩
      rw [List.mem_singleton.mp hb]
      exact hG.there ha
    · intro a ha
      rcases List.mem_append.mp ha with ha | ha
      · exact hG.above a ha
      · rw [List.mem_singleton.mp ha]; exact hSl
    · intro j b hj
      rcases Nat.lt_trichotomy j as.length with h1 | h1 | h1
      · rw [List.getElem?_append_left h1] at hj
        obtain ⟨t, x', e1, e3⟩ := hG.pairs j b hj
        have hm := List.mem_of_getElem? hj
        have hb := hG.above b hm
        exact ⟨t, x', e1, up b _ (Nat.ne_of_gt hb) (hkp b _ (hap b hm).1 (hap b hm).2 e3)⟩
      · subst h1
        have hb : h.objs.size = b := by simpa using hj
        subst hb
        exact ⟨tk, items[i], by rw [hal]; exact hx, by rw [hal]; exact up _ _ (Nat.ne_of_gt hSl) ht⟩
      · have hnone : (as ++ [h.objs.size])[j]? = none := List.getElem?_eq_none (by rw [List.length_append, List.length_singleton]; omega)
        rw [hnone] at hj; cases hj
    · intro a ha
      rcases List.mem_append.mp ha with ha | ha
      · exact hap a ha
      · rw [List.mem_singleton.mp ha]; exact ⟨Nat.ne_of_gt hel, Nat.ne_of_gt hil⟩
end
theorem enum_no_len : typeLookup (.type "enumerate") "__len__" = pure none := by rw [typeLookup_type, builtinLookup_eq_fast]; kernel_rfl
theorem enum_no_hint : typeLookup (.type "enumerate") "__length_hint__" = pure none := by rw [typeLookup_type, builtinLookup_eq_fast]; kernel_rfl
section
variable {prog : Program} {w : World} {A : Around} {E : Value → Shared → Prop} {s : Shared} {e it l : Addr} {items : Array Value}
def En0 (h : Heap) (e it l : Addr) (items : Array Value) : Prop := h.IsListIter it l 0 ∧ h.IsList l items ∧ ∃ old, IsEnum h e it 0 old
theorem En0.typeIs (z : En0 s.heap e it l items) : s.TypeIs (.ref e) "enumerate" := let ⟨_, _, _, he⟩ := z; ⟨_, he, rfl⟩
theorem En0.keep {h h' : Heap} {S : Addr} (z : En0 h e it l items) (hk : ∀ b o, b ≠ S → h.get? b = some o → h'.get? b = some o) (he : e ≠ S) (hi : it ≠ S) (hl : l ≠ S) : En0 h' e it l items := by
  obtain ⟨a, b, old, c⟩ := z
  exact ⟨a.at fun o z => hk _ o hi z, b.at fun o z => hk _ o hl z, old, hk _ _ he c⟩
theorem en_extend {R : Result → Shared → Prop} (hh : A.handled = none) (z : En0 s.heap e it l items) (hei : e ≠ it) (hle : l ≠ e) (hli : l ≠ it) (S : Addr) (heS : e ≠ S) (hiS : it ≠ S) (hlS : l ≠ S) (hn : items.size ≤ sizeLine) (res : Value) (c₀ : Nat) (hS : s.heap.get? S = some { cls := .type "list", data := .seq #[] c₀ })
    (hR : ∀ h' tk acc c as, (∀ b o, b ≠ S → b ≠ e → b ≠ it → s.heap.get? b = some o → h'.get? b = some o) → h'.get? S = some { cls := .type "list", dict := none, data := .seq acc c, slots := #[] } → as.length = items.size → EnG items h' S as →
      acc.toList = as.map Value.ref → R (.ok (.ret res)) { s with heap := h', toks := tk }) :
    wpAny (model prog w) A.in1 (Builtin.List.listExtendWith (.ref S) (.ref e) res)
      (fun fin s' => match fin with | .done f => R (.ok f) s' | .again c' => c'.quiet = true ∧ codeAny (model prog w) A c' R s') (fun e s' => R (.error e) s') s := by
  unfold Builtin.List.listExtendWith
  refine wpAny_bind (wpAny_typeOf (T := "enumerate") z.typeIs ?_)
  have h1 : Builtin.List.listSameRef (.ref S) (.ref e) = false := by simp [Builtin.List.listSameRef, Ne.symm heS]
  have h2 : (Value.type "enumerate" == Value.type "list") = false := by decide
  have h3 : (Value.type "enumerate" == Value.type "tuple") = false := by decide
  simp only [h1, h2, h3, Bool.or_false, Bool.false_eq_true, if_false]
  obtain ⟨hit, hl, old, he⟩ := id z
  refine wpAny_bind (wpAny_pyIter_enum he ?_)
  refine wpAny_bind (wpAny_holding ?_)
  unfold Builtin.List.listLengthHint
  refine wpAny_bind (wpAny_specialOf z.typeIs enum_no_len ?_)
  show wpAny _ A.in1 (specialOf (Value.ref e) (Str.ofString "__length_hint__") >>= _) _ _ _
  refine wpAny_bind (wpAny_specialOf z.typeIs enum_no_hint ?_)
  refine wpAny_pure ?_
  show wpAny _ A.in1 (rule "list.extend.makes-room" >>= fun _ => Builtin.List.listTouch (.ref S) >>= fun _ =>
    again (.builtin "list.extend.loop" ⟨[.ref S, .ref e, res], []⟩)) _ _ _
  refine wpAny_bind (wpAny_rule ?_)
  refine wpAny_bind ?_
  show wpAny _ A.in1 (updateSeq S (·.push .none) >>= fun _ => updateSeq S (·.pop)) _ _ _
  refine wpAny_bind (wpAny_updateSeq hS rfl ?_)
  have hS₂ := Heap.get?_update_self (Obj.mapSeq (·.push Value.none)) hS rfl
  refine wpAny_updateSeq (hz := by seq_fits) hS₂ rfl ?_
  have hS₃ := Heap.get?_update_self (Obj.mapSeq (·.pop)) hS₂ rfl
  have oth : ∀ b o, b ≠ S → s.heap.get? b = some o → ((s.heap.update S (Obj.mapSeq (·.push Value.none))).update S (Obj.mapSeq (·.pop))).get? b = some o :=
    fun b o hb z => (Heap.get?_update_other _ _ (Ne.symm hb)).trans ((Heap.get?_update_other _ _ (Ne.symm hb)).trans z)
  have z3 := z.keep oth heS hiS hlS
  obtain ⟨hit3, hl3, old3, he3⟩ := z3
  refine wpAny_pure ⟨plainId_quiet PySem.F.plain_extend_loop _, en_loop (s := s) (items := items) (e := e) (it := it) (l := l) (S := S) (h₁ := s.heap) hh hei hle hli heS hiS hlS hn res hR items.size 0 _ _ _ #[] [] (Nat.sub_zero _) (Nat.zero_le _)
    ⟨hit3, hl3, .inl ⟨old3, he3⟩⟩ (fun b o hb _ _ z => oth b o hb z) hS₃ rfl rfl ⟨List.Pairwise.nil, (fun _ ha => nomatch ha), fun j a hj => by simp at hj⟩ fun _ ha => nomatch ha⟩
theorem en_init {R : Result → Shared → Prop} (hh : A.handled = none) (z : En0 s.heap e it l items) (hei : e ≠ it) (hle : l ≠ e) (hli : l ≠ it) (S : Addr) (heS : e ≠ S) (hiS : it ≠ S) (hlS : l ≠ S) (hn : items.size ≤ sizeLine) (hS : s.heap.get? S = some { cls := .type "list", data := .seq #[] })
    (hR : ∀ h' tk acc c as, (∀ b o, b ≠ S → b ≠ e → b ≠ it → s.heap.get? b = some o → h'.get? b = some o) → h'.get? S = some { cls := .type "list", dict := none, data := .seq acc c, slots := #[] } → as.length = items.size → EnG items h' S as →
      acc.toList = as.map Value.ref → R (.ok (.ret .none)) { s with heap := h', toks := tk }) :
    wpAny (model prog w) A.in1 (Builtin.«list.__init__» ⟨[.ref S, .ref e], []⟩)
      (fun fin s' => match fin with | .done f => R (.ok f) s' | .again c' => c'.quiet = true ∧ codeAny (model prog w) A c' R s') (fun e s' => R (.error e) s') s := by
  show wpAny _ _ (do let old ← Builtin.List.listItems (.ref S); Builtin.List.listUpdate (.ref S) (fun _ => #[]); letGo old.toList.reverse; Builtin.List.listExtendWith (.ref S) (.ref e) .none) _ _ s
  refine wpAny_bind ?_
  unfold Builtin.List.listItems
  refine wpAny_bind (wpAny_seqItems hS rfl (wpAny_pure ?_))
  show wpAny _ _ (updateSeq S (fun _ => #[]) >>= fun _ => letGo (#[] : Array Value).toList.reverse >>= fun _ => Builtin.List.listExtendWith (.ref S) (.ref e) .none) _ _ s
  refine wpAny_bind (wpAny_updateSeq hS rfl ?_)
  have hS₂ := Heap.get?_update_self (Obj.mapSeq (fun _ => (#[] : Array Value))) hS rfl
  have oth : ∀ b o, b ≠ S → s.heap.get? b = some o → (s.heap.update S (Obj.mapSeq (fun _ => (#[] : Array Value)))).get? b = some o :=
    fun b o hb z => (Heap.get?_update_other _ _ (Ne.symm hb)).trans z
  refine wpAny_bind (wpAny_letGo ?_)
  refine en_extend hh (z.keep oth heS hiS hlS) hei hle hli S heS hiS hlS hn .none _ hS₂ fun h' tk acc c as hk hS' hl hG hacc => ?_
  exact hR h' tk acc c as (fun b o hb h2 h3 z => hk b o hb h2 h3 (oth b o hb z)) hS' hl hG hacc
theorem en_call {Q : Value → Shared → Prop} (hh : A.handled = none) (z : En0 s.heap e it l items) (hei : e ≠ it) (hle : l ≠ e) (hli : l ≠ it) (hn : items.size ≤ sizeLine)
    (hQ : ∀ h' tk acc c as, (∀ b o, b ≠ e → b ≠ it → s.heap.get? b = some o → h'.get? b = some o) → h'.get? s.heap.objs.size = some { cls := .type "list", dict := none, data := .seq acc c, slots := #[] } → as.length = items.size → EnG items h' s.heap.objs.size as →
      acc.toList = as.map Value.ref → Q (.ref s.heap.objs.size) { s with heap := h', toks := tk }) :
    wpAny (model prog w) A (call (.type "list") [.ref e]) Q E s := by
  refine callType_codes (Q₁ := fun obj s₁ => obj = .ref s.heap.objs.size ∧ s₁ = { s with heap := s.heap.push { cls := .type "list", data := .seq #[] } }) PySem.F.called_list (PySem.F.typeCall_list_1 _) PySem.F.entry_list_init
    (code_list_new _ ⟨rfl, rfl⟩) fun obj s₁ h₁ => ?_
  obtain ⟨rfl, rfl⟩ := h₁
  have hS : (s.heap.push { cls := .type "list", data := .seq #[] }).get? s.heap.objs.size = some { cls := .type "list", data := .seq #[] } := Heap.get?_push_size _ rfl
  obtain ⟨⟨o1, h1, q1⟩, ⟨o2, h2, q2⟩, old, h3⟩ := id z
  have z' : En0 (s.heap.push { cls := .type "list", data := .seq #[] }) e it l items := ⟨⟨o1, Heap.get?_push_of_some _ h1, q1⟩, ⟨o2, Heap.get?_push_of_some _ h2, q2⟩, old, Heap.get?_push_of_some _ h3⟩
  refine ⟨⟨_, hS, rfl⟩, PySem.F.args_list_init_2 _ _, en_init (A := A.in1) hh z' hei hle hli _ (Nat.ne_of_lt (Heap.lt_size h3)) (Nat.ne_of_lt (Heap.lt_size h1)) (Nat.ne_of_lt (Heap.lt_size h2)) hn hS fun h' tk acc c as hk hS' hl hG hacc => ?_⟩
  exact ⟨rfl, hQ h' tk acc c as (fun b o n1 n2 q => hk b o (Nat.ne_of_lt (Heap.lt_size q)) n1 n2 (Heap.get?_push_of_some _ q)) hS' hl hG hacc⟩
end
end EnL


set_option Elab.async false
set_option linter.all false
set_option maxRecDepth 100000
/-! The data layer, part 20: list(enumerate(..)), over what is tracked. -/
namespace DL
open PySem PySem.Spec PyProof.Rows L2
def putE : Hp → List Addr → List (List V) → Hp
  | H, a :: as, p :: ps => putE (upd H a (.tup p)) as ps
  | H, _, _ => H
theorem putE_off {b : Addr} : ∀ (as : List Addr) (ps : List (List V)) (H : Hp), b ∉ as → putE H as ps b = H b
  | [], _, _, _ => rfl
  | _ :: _, [], _, _ => rfl
  | a :: as, p :: ps, H, h => by
    show putE (upd H a (.tup p)) as ps b = H b
    rw [putE_off as ps _ (fun z => h (List.mem_cons_of_mem _ z)), upd_ne (fun z => h (by rw [z]; exact List.mem_cons_self))]
theorem putE_at : ∀ (as : List Addr) (ps : List (List V)) (H : Hp), as.length = ps.length → as.Nodup → ∀ (j : Nat) (a : Addr), as[j]? = some a → ∃ p, ps[j]? = some p ∧ putE H as ps a = some (.tup p)
  | [], _, _, _, _, j, a, e => by simp at e
  | a :: as, [], _, h, _, _, _, _ => by cases h
  | a :: as, p :: ps, H, h, hn, 0, b, e => by
    have hn' := List.nodup_cons.mp hn
    have e' : a = b := by simpa using e
    subst e'
    refine ⟨p, rfl, ?_⟩
    show putE (upd H a (.tup p)) as ps a = _
    rw [putE_off as ps _ hn'.1, upd_same]
  | a :: as, p :: ps, H, h, hn, j + 1, b, e => by
    have hn' := List.nodup_cons.mp hn
    obtain ⟨q, e1, e2⟩ := putE_at as ps (upd H a (.tup p)) (Nat.succ.inj h) hn'.2 j b (by simpa using e)
    exact ⟨q, by simpa using e1, e2⟩
def enumV (xs : List V) : List (List V) := xs.mapIdx fun j x => [.int (j : Int), x]
section
variable {X : Cx} {e : Expr} {ta : TA} {p p2 pos pos2 : Pos}
theorem enum_laid {pins : List (Addr × Obj)} {σ : L2.St} {H : Hp} {s : Shared} {h' : Heap} {tk : Nat} {xs : List V} {its : List Value} {acc : Array Value} {c S : Nat} {as : List Addr} (I : Inv X pins σ H s) (hz : xs.length ≤ sizeLine) (rv : Vals xs its)
    (hk : ∀ b o, s.heap.get? b = some o → h'.get? b = some o) (hSb : s.heap.objs.size ≤ S) (hS : h'.get? S = some { cls := .type "list", dict := none, data := .seq acc c, slots := #[] }) (hl : as.length = its.length) (hG : EnL.EnG its.toArray h' S as) (hacc : acc.toList = as.map Value.ref) :
    ∃ H' : Hp, (∀ b o, H b = some o → H' b = some o) ∧ H S = none ∧ (∀ t ∈ as, H t = none) ∧ S ∉ as ∧ H' S = some (.lst (as.map V.ref)) ∧ (∀ (j : Nat) (a : Addr), as[j]? = some a → ∃ q, (enumV xs)[j]? = some q ∧ H' a = some (.tup q)) ∧ Inv X pins σ H' { s with heap := h', toks := tk } := by
  have lk : xs.length = its.length := rv.length
  have hSn : S ∉ as := fun z => Nat.lt_irrefl _ (hG.above _ z)
  have nd : as.Nodup := List.Pairwise.imp (fun {a b} (h : a < b) => Nat.ne_of_lt h) hG.rise
  have new : ∀ t ∈ as, H t = none := fun t ht => I.hok.fresh (Nat.le_trans hSb (Nat.le_of_lt (hG.above t ht)))
  have newS : H S = none := I.hok.fresh hSb
  have el : (enumV xs).length = xs.length := by simp [enumV]
  have atP := putE_at as (enumV xs) (upd H S (.lst (as.map V.ref))) (by omega) nd
  have off : ∀ b, b ∉ as → b ≠ S → putE (upd H S (.lst (as.map V.ref))) as (enumV xs) b = H b := fun b h1 h2 => by rw [putE_off as _ _ h1, upd_ne h2]
  have low : ∀ b o, s.heap.get? b = some o → b ∉ as ∧ b ≠ S := fun b o e => ⟨fun z => absurd (Heap.lt_size e) (Nat.not_lt.mpr (Nat.le_trans hSb (Nat.le_of_lt (hG.above b z)))), Nat.ne_of_lt (Nat.lt_of_lt_of_le (Heap.lt_size e) hSb)⟩
  have kp : ∀ b u, H b = some u → (putE (upd H S (.lst (as.map V.ref))) as (enumV xs)) b = some u := fun b u e => by
    rw [off b (fun z => by rw [new b z] at e; cases e) (fun z => by rw [z, newS] at e; cases e)]
    exact e
  have eS : putE (upd H S (.lst (as.map V.ref))) as (enumV xs) S = some (.lst (as.map V.ref)) := by rw [putE_off as _ _ hSn, upd_same]
  refine ⟨putE (upd H S (.lst (as.map V.ref))) as (enumV xs), kp, newS, new, hSn, eS, atP, ?_⟩
  refine I.call' (ch := []) rfl ⟨fun b o q _ _ _ => hk b o q, fun b o q _ _ _ => ⟨o.slots, hk b o q⟩, fun b o q n _ => ?_, fun b o q _ => ⟨o, hk b o q⟩, fun b xs q => kp b _ q, fun b o u q => kp b _ q, fun b ps q => ⟨#[], by rw [kp b _ q]; simp⟩⟩ (fun b u q => ?_) I.bare fun b z => by simp at z
  · obtain ⟨z1, z2⟩ := low b o q
    rw [off b z1 z2]
    exact n
  · by_cases hb : b ∈ as
    · obtain ⟨j, hj⟩ := List.mem_iff_getElem?.mp hb
      obtain ⟨qv, e2, e3⟩ := atP j b hj
      rw [e3] at q
      cases q
      obtain ⟨t, x, f1, f3⟩ := hG.pairs j b hj
      have f1' : its[j]? = some x := by simpa using f1
      have hjl : j < xs.length := by
        obtain ⟨hj', _⟩ := List.getElem?_eq_some_iff.mp f1'
        omega
      obtain ⟨u, hu, ru⟩ := rv.get (List.getElem?_eq_getElem hjl)
      rw [f1'] at hu
      cases hu
      have eq : qv = [.int (j : Int), xs[j]] := by
        unfold enumV at e2
        rw [List.getElem?_mapIdx, List.getElem?_eq_getElem hjl] at e2
        exact (Option.some.inj e2).symm
      subst eq
      exact ⟨by show 2 ≤ sizeLine; decide, [.int (j : Int) t, x], .cons ⟨_, rfl⟩ (.cons ru .nil), ⟨_, f3, rfl, _, rfl⟩⟩
    · by_cases hb2 : b = S
      · rw [hb2] at q ⊢
        rw [eS] at q
        cases q
        refine ⟨by rw [List.length_map]; omega, acc.toList, c, by rw [hacc]; exact L2.vals_refs as, ?_⟩
        rw [Array.toArray_toList]
        exact hS
      · rw [off b hb hb2] at q
        exact (I.hok b u q).stay (fun d v _ y => hk d v y) (fun d y => kp d _ y) fun d xs y => kp d _ y
/-- list(enumerate(x)) -/
def tLstEnum (K : PySem.W.Frag) (ta : TA) : TE := fun σ H Q => ta σ H fun vs H1 => ∃ a xs, vs = [.ref a] ∧ SqL K H1 a xs ∧ ∀ (H' : Hp) (S : Addr) (as : List Addr), (∀ b o, H1 b = some o → H' b = some o) → H1 S = none → (∀ t ∈ as, H1 t = none) → S ∉ as → H' S = some (.lst (as.map V.ref)) → as.length = xs.length →
  (∀ (j : Nat) (a : Addr), as[j]? = some a → ∃ q, (enumV xs)[j]? = some q ∧ H' a = some (.tup q)) → Q (.ref S) H'
theorem pe_listEnum (hc : X.calm = true) (hgl : Gl X "list") (hml : X.mg "list" = none) (hg : Gl X "enumerate") (hm : X.mg "enumerate" = none) (ha : PA X [e] ta) (hs : starEach [e] X.env = [(false, eval e X.env)] := by rfl)
    (nb : starEach [.Call (.Name "enumerate" p2) [e] [] pos2] X.env = (false, eval (.Call (.Name "enumerate" p2) [e] [] pos2) X.env) :: starEach [] X.env := by rfl) : PE X (.Call (.Name "list" p) [.Call (.Name "enumerate" p2) [e] [] pos2] [] pos) (tLstEnum X.K ta) := by
  refine ⟨fun pins s σ H Q I h => ?_⟩
  refine Call_ (ld_blt I hgl hml boot_list (PyProof.Rows.callWith_type1 (args_cons (Call_ (ld_blt I hg hm boot_enumerate (PyProof.Rows.callWith_type1 (thn (ha.run pos2 pins s σ H _ I h) fun us s1 ⟨vs, H1, I1, r1, q1⟩ => ?_) hs rfl))) nb) nb))
  obtain ⟨a, xs, ex, hq, q⟩ := q1
  subst ex
  cases r1 with
  | cons r rr =>
    cases rr
    cases r
    obtain ⟨its, rv, p', hz⟩ := I1.list hq
    refine call_enumerate_list p'.isList fun h' he hit hsz hk => args_nil ?_
    have lt : a < s1.heap.objs.size := by obtain ⟨_, z, _⟩ := p'.isList; exact Heap.lt_size z
    refine EnL.en_call (A := X.A) (s := { s1 with heap := h' }) (e := s1.heap.objs.size + 1) (it := s1.heap.objs.size) (l := a) (items := its.toArray) (I1.ok.hd hc) ⟨hit, p'.isList.at fun o z => hk _ o z, _, he⟩ (Nat.succ_ne_self _) (Nat.ne_of_lt (Nat.lt_succ_of_lt lt)) (Nat.ne_of_lt lt) (by rw [List.size_toArray, ← rv.length]; exact hz) fun h2 tk acc c as hk2 hS hl hG hacc => ?_
    have hsz' : h'.objs.size = s1.heap.objs.size + 2 := hsz
    have hl' : as.length = its.length := by simpa using hl
    obtain ⟨H', k1, k2, k3, k4, k5, k6, J⟩ := enum_laid (tk := tk) I1 hz rv (fun b o z => hk2 b o (Nat.ne_of_lt (Nat.lt_succ_of_lt (Heap.lt_size z))) (Nat.ne_of_lt (Heap.lt_size z)) (hk b o z)) (show s1.heap.objs.size ≤ h'.objs.size by rw [hsz']; exact Nat.le_add_right _ _) hS hl' hG hacc
    exact ⟨.ref _, H', J, rfl, q H' _ as k1 k2 k3 k4 k5 (by rw [hl', rv.length]) k6⟩
/-- .. of what is never written -/
def gEnumL : List D → Option D
  | [.lst l] => if imms l = true then some (.lst (enumD l)) else none
  | _ => none
theorem enumD_get (l : List D) (j : Nat) : (enumD l)[j]? = (l[j]?).map fun x => .tup [.int (j : Int), x] := by
  cases q : l[j]? with
  | none =>
    have : l.length ≤ j := by simpa using q
    simp [enumD, this]
  | some x => simp [enumD, q]
theorem reps_of_get {K : PySem.W.Frag} {kl : Bool} {C : Str → Addr} {H : Hp} : ∀ {l : List D} {vs : List V}, vs.length = l.length → (∀ (j : Nat) (d : D), l[j]? = some d → ∃ v, vs[j]? = some v ∧ Rep K kl C H d v []) → Reps K kl C H l vs []
  | [], [], _, _ => reps_nil
  | [], _ :: _, h, _ => by cases h
  | _ :: _, [], h, _ => by cases h
  | d :: l, v :: vs, h, k => by
    obtain ⟨w, e, r⟩ := k 0 d rfl
    have e' : v = w := by simpa using e
    subst e'
    exact reps_cons (f1 := []) (f2 := []) r (reps_of_get (by simpa using h) fun j d q => by simpa using k (j + 1) d (by simpa using q))
theorem dn_listEnum {f : Env → Option (List D)} (hc : X.calm = true) (hgl : Gl X "list") (hml : X.mg "list" = none) (hg : Gl X "enumerate") (hm : X.mg "enumerate" = none) (ha : DA X [e] f) (hs : starEach [e] X.env = [(false, eval e X.env)] := by rfl)
    (nb : starEach [.Call (.Name "enumerate" p2) [e] [] pos2] X.env = (false, eval (.Call (.Name "enumerate" p2) [e] [] pos2) X.env) :: starEach [] X.env := by rfl) : DN X (.Call (.Name "list" p) [.Call (.Name "enumerate" p2) [e] [] pos2] [] pos) (fL gEnumL f) :=
  ⟨fun B hB => (pe_listEnum hc hgl hml hg hm (ha.pa B hB) hs nb).imp fun σ H Q ⟨env, φ, d, S, q, k⟩ => by
    unfold fL at q
    split at q
    · rename_i ds q1
      unfold gEnumL at q
      split at q
      · rename_i l
        split at q
        · rename_i c
          cases q
          refine ⟨env, φ, _, S, q1, fun vs H1 fps e1 r1 k1 => ?_⟩
          obtain ⟨v, rfl, r⟩ := reps1 r1
          obtain ⟨a, us, fs, rfl, hq, hr, _⟩ := rep_sql r
          refine ⟨a, us, rfl, hB ▸ hq, fun H' S' as k0 n1 n2 n3 hS hl hT => ?_⟩
          have ex : Ex H1 H' := fun b o z => k0 b o z
          have hr2 := reps_immK (reps_ex hr ex) c
          rw [reps_imm hr c] at hr2
          have hlu := reps_len hr
          have rr : Reps B.K false B.C H' (enumD l) (as.map V.ref) [] := by
            refine reps_of_get (by simp [enumD]; omega) fun j d hj => ?_
            rw [enumD_get] at hj
            obtain ⟨x, hx, rfl⟩ := Option.map_eq_some_iff.mp hj
            have hjl : j < l.length := (List.getElem?_eq_some_iff.mp hx).1
            have hja : as[j]? = some as[j] := List.getElem?_eq_getElem (by omega)
            obtain ⟨qv, e2, e3⟩ := hT j _ hja
            unfold enumV at e2
            rw [List.getElem?_mapIdx] at e2
            obtain ⟨u, hu, rfl⟩ := Option.map_eq_some_iff.mp e2
            obtain ⟨w, ew, rw'⟩ := reps_item hr2 c hx
            rw [hu] at ew
            cases ew
            refine ⟨.ref as[j], by rw [List.getElem?_map, hja]; rfl, rep_tup.mpr ⟨_, _, rfl, e3, ?_⟩⟩
            exact reps_cons (f1 := []) (f2 := []) fin_int (reps_one rw')
          exact k _ _ [S'] (e1.trans ex) (rep_lst.mpr ⟨S', _, [], rfl, rr, .inl ⟨.inl hS, rfl⟩⟩) ⟨(List.nodup_cons.mpr ⟨List.not_mem_nil, List.nodup_nil⟩ : [S'].Nodup), fun b hb => by
            obtain rfl := List.mem_singleton.mp hb
            exact ⟨by rw [hS]; trivial, fresh_back e1 n1⟩⟩
        · cases q
      · cases q
    · cases q⟩
end
end DL


set_option Elab.async false
set_option linter.all false
set_option maxRecDepth 100000
/-! The data layer, part 21: more built-ins. -/
namespace DL
open PySem PySem.Spec PyProof.Rows L2
section
variable {X : Cx} {W : WX} {a b e : Expr} {es : List Expr} {fa fb : DF} {pos p p1 p2 cpos apos : Pos}
/-! ### a value that does not raise -/
def fX (f : Env → Option (Except Str D)) : DF := fun env => match f env with
  | some (.ok d) => some d
  | _ => none
theorem DX.dn {f : Env → Option (Except Str D)} (h : DX X W e f) : DN X e (fX f) := ⟨fun B hB => (h.pe B hB).imp fun σ H Q ⟨env, φ, d, S, q, k⟩ => by
  unfold fX at q
  split at q
  · cases q
    rename_i q
    exact ⟨env, φ, _, S, q, k⟩
  · cases q⟩
/-! ### x in l -/
theorem toPys_map : ∀ l : List D, toPys l = l.map toPy
  | [] => rfl
  | d :: l => by unfold toPys; rw [toPys_map l]; rfl
def shD (d : D) : Bool := SeqAt.shaped (toPy d)
theorem shD_lay {d : D} (h : shD d = true) : (toPy d).canLay0 = true := SeqAt.canLay_of_shaped h
def gIn (neg : Bool) : D → D → Option D
  | x, .lst l => if shD x = true ∧ shD (.lst l) = true then some (.bl (if neg then !(l.any fun z => eqD z x) else l.any fun z => eqD z x)) else none
  | _, _ => none
theorem any_toPys (l : List D) (x : D) : ((toPys l).any fun z => PyData.eqv z (toPy x)) = l.any fun z => eqD z x := by
  rw [toPys_map, List.any_map]; rfl
theorem o_in {K : PySem.W.Frag} : Op2N K (rInD K) (gIn false) := by
  intro CC H x y d u v fu fv Q hx hy hg k
  unfold gIn at hg
  split at hg
  · split at hg
    · rename_i l h
      cases hg
      have hy' := rep_dp hy (shD_lay h.2)
      unfold toPy at hy'
      have h2 := h.2
      unfold shD toPy at h2
      refine ⟨_, _, rep_dp hx (shD_lay h.1), hy', h.1, h2, ?_⟩
      rw [any_toPys]
      exact k _ H [] (Evl.Ex.refl H) fin_bl New.nil
    · cases hg
  · cases hg
theorem o_notin {K : PySem.W.Frag} : Op2N K (rNotInD K) (gIn true) := by
  intro CC H x y d u v fu fv Q hx hy hg k
  unfold gIn at hg
  split at hg
  · split at hg
    · rename_i l h
      cases hg
      have hy' := rep_dp hy (shD_lay h.2)
      unfold toPy at hy'
      have h2 := h.2
      unfold shD toPy at h2
      refine ⟨_, _, rep_dp hx (shD_lay h.1), hy', h.1, h2, ?_⟩
      rw [any_toPys]
      exact k _ H [] (Evl.Ex.refl H) fin_bl New.nil
    · cases hg
  · cases hg
/-! ### methods that change nothing -/
def MthN (K : PySem.W.Frag) (r : V → List V → Hp → VK → Prop) (g : D → List D → Option D) : Prop := ∀ (C : Str → Addr) (H : Hp) (x : D) (ds : List D) (d : D) (u : V) (vs : List V) (fu fps : Fp) (Q : VK), Rep K true C H x u fu → Reps K true C H ds vs fps → g x ds = some d →
  (∀ w H' fp, Ex H H' → Rep K false C H' d w fp → New H H' fp → Q w H') → r u vs H Q
def fMth (T : String) (g : D → List D → Option D) (fo : DF) (f : Env → Option (List D)) : DF := fun env => match fo env with
  | some x => if tyD T x = true then (match f env with
    | some ds => g x ds
    | none => none) else none
  | none => none
theorem dn_meth {T id : String} {name : Str} {r : V → List V → Hp → VK → Prop} {g : D → List D → Option D} {f : Env → Option (List D)} (hr : MthN X.K r g) (pa : PlainAttrs T) (slot : PySem.Slot T name id) (hty : typeOf (.builtin id) = pure (.type "method_descriptor"))
    (hm : MtR X id r) (ho : DP X a fa) (ha : DA X (e :: es) f)
    (hbase : attributeBase a name X.env (eval a X.env) = eval a X.env := by rfl)
    (hfew : ((backTo cpos (starEach (e :: es) X.env)).all (fun x => !x.1) && (backToKw cpos (keywordEach [] X.env)).all (fun x => x.1.isSome)
      && decide ((e :: es).length + ([] : List Keyword).length + (if ([] : List Keyword).isEmpty then 0 else 1) < 30)) = true := by rfl)
    (hline : (apos.endLine == cpos.line) = true := by rfl) (hs : starEach (e :: es) X.env = (false, eval e X.env) :: starEach es X.env := by rfl) (hplain : (backTo cpos (starEach es X.env)).any (·.1) = false := by rfl) :
    DN X (.Call (.Attribute a name apos) (e :: es) [] cpos) (fMth T g fa f) := ⟨fun B hB => (pe_bm pa slot hty hm (ho.pe B hB) (ha.pa B hB) hbase hfew hline hs hplain).imp fun σ H Q ⟨env, φ, d, S, q, k⟩ => by
  unfold fMth at q
  split at q
  · rename_i x q1
    split at q
    · rename_i ht
      split at q
      · rename_i ds q2
        refine ⟨env, φ, x, S, q1, fun u H1 fu e1 r1 k1 => ⟨hB ▸ ty_of ht r1, env, φ, ds, S.ex e1, q2, fun vs H2 fps e2 r2 k2 => ?_⟩⟩
        exact hr B.C H2 x ds d u vs fu fps Q (hB ▸ rep_ex r1 e2) (hB ▸ r2) q fun w H3 fp e3 r3 n3 => k w H3 fp ((e1.trans e2).trans e3) (hB ▸ r3) (n3.ex (e1.trans e2))
      · cases q
    · cases q
  · cases q⟩
def gIndex : D → List D → Option D
  | .lst l, [x] => if shD x = true ∧ shD (.lst l) = true then (match l.findIdx? fun z => eqD z x with
    | some j => some (.int (j : Int))
    | none => none) else none
  | _, _ => none
theorem mt_ix {K : PySem.W.Frag} : MthN K (rIndexD K) gIndex := by
  intro C H x ds d u vs fu fps Q hx hs hg k
  unfold gIndex at hg
  split at hg
  · rename_i l y
    split at hg
    · rename_i h
      split at hg
      · rename_i j ej
        cases hg
        obtain ⟨v, rfl, r⟩ := reps1 hs
        obtain ⟨ad, us, fs, rfl, hl, hr, _⟩ := rep_sql hx
        have hy' := rep_dp hx (shD_lay h.2)
        unfold toPy at hy'
        have h2 := h.2
        unfold shD toPy at h2
        obtain ⟨hjl, p1, p2⟩ := List.findIdx?_eq_some_iff_getElem.mp ej
        refine ⟨ad, v, toPy y, toPys l, j, toPy l[j], rfl, rfl, hy', rep_dp r (shD_lay h.1), h2, h.1, ?_, p1, fun m z hm hz => ?_, k _ H [] (Evl.Ex.refl H) fin_int New.nil⟩
        · rw [toPys_map, List.getElem?_map, List.getElem?_eq_getElem hjl]; rfl
        · rw [toPys_map, List.getElem?_map, List.getElem?_eq_getElem (by omega)] at hz
          cases hz
          have := p2 m hm
          simpa [eqD] using this
      · cases hg
    · cases hg
  · cases hg
theorem dn_index {f : Env → Option (List D)} (hu : X.A.units + 65 < cLine) (ho : DP X a fa) (ha : DA X [e] f)
    (hbase : attributeBase a "index" X.env (eval a X.env) = eval a X.env := by rfl)
    (hfew : ((backTo cpos (starEach (e :: []) X.env)).all (fun x => !x.1) && (backToKw cpos (keywordEach [] X.env)).all (fun x => x.1.isSome)
      && decide ((e :: ([] : List Expr)).length + ([] : List Keyword).length + (if ([] : List Keyword).isEmpty then 0 else 1) < 30)) = true := by rfl)
    (hline : (apos.endLine == cpos.line) = true := by rfl) (hs : starEach (e :: []) X.env = (false, eval e X.env) :: starEach [] X.env := by rfl) :
    DN X (.Call (.Attribute a "index" apos) [e] [] cpos) (fMth "list" gIndex fa f) :=
  dn_meth mt_ix F.plainAttrs_list PySem.F.slot_list_index F.type_list_index (mt_indexD hu) ho ha hbase hfew hline hs rfl
/-! ### sorted of whole numbers -/
def intsD : List D → Option (List Int)
  | [] => some []
  | .int i :: l => (match intsD l with
    | some ns => some (i :: ns)
    | none => none)
  | _ :: _ => none
theorem intsD_of : ∀ {l : List D} {ns : List Int}, intsD l = some ns → l = ns.map D.int
  | [], ns, h => by cases h; rfl
  | .int i :: l, ns, h => by
    unfold intsD at h
    split at h
    · rename_i ms e
      cases h
      rw [List.map_cons, ← intsD_of e]
    · cases h
theorem intsD_map : ∀ ns : List Int, intsD (ns.map D.int) = some ns
  | [] => rfl
  | i :: ns => by show (match intsD (ns.map D.int) with | some ns => some (i :: ns) | none => none) = _; rw [intsD_map ns]
theorem reps_ints {K : PySem.W.Frag} {kl : Bool} {C : Str → Addr} {H : Hp} : ∀ {ns : List Int} {vs : List V} {fp : Fp}, Reps K kl C H (ns.map D.int) vs fp → vs = ns.map V.int
  | [], vs, fp, h => by unfold List.map Reps at h; exact h.1
  | i :: ns, vs, fp, h => by
    rw [List.map_cons] at h
    unfold Reps at h
    obtain ⟨v, vs', f1, f2, rfl, rfl, h1, h2⟩ := h
    rw [(rep_int.mp h1).1, reps_ints h2]
    rfl
theorem ints_reps {K : PySem.W.Frag} {kl : Bool} {C : Str → Addr} {H : Hp} : ∀ ns : List Int, Reps K kl C H (ns.map D.int) (ns.map V.int) []
  | [] => reps_nil
  | i :: ns => reps_cons (f1 := []) (f2 := []) fin_int (ints_reps ns)
def gSortI : List D → Option D
  | [.lst l] => (match intsD l with
    | some ns => some (.lst ((PySem.W.sortI ns).map D.int))
    | none => none)
  | _ => none
theorem c_sortI {K : PySem.W.Frag} : CallN K (rSortedI K) gSortI := by
  intro C H ds d vs fps Q hr hg k
  unfold gSortI at hg
  split at hg
  · split at hg
    · rename_i l ns e
      cases hg
      obtain ⟨v, rfl, r⟩ := reps1 hr
      obtain ⟨ad, us, fs, rfl, hl, hs, _⟩ := rep_sql r
      rw [intsD_of e] at hs
      have eu := reps_ints hs
      subst eu
      refine ⟨ad, ns, rfl, hl, fun ns' p hp hs' hn => ?_⟩
      rw [PySem.W.eq_sortI hp hs']
      exact k _ _ [p] (Evl.Ex.new hn) (rep_newL (ints_reps _) hn) (new_one hn)
    · cases hg
  · cases hg
/-! ### min of rows of whole numbers -/
def rowsD : List D → Option (List (List Int))
  | [] => some []
  | .lst l :: r => (match intsD l, rowsD r with
    | some ns, some m => some (ns :: m)
    | _, _ => none)
  | _ :: _ => none
theorem rowsD_of : ∀ {l : List D} {m : List (List Int)}, rowsD l = some m → l = m.map fun ns => D.lst (ns.map D.int)
  | [], m, h => by cases h; rfl
  | .lst x :: r, m, h => by
    unfold rowsD at h
    split at h
    · rename_i ns m' e1 e2
      cases h
      rw [List.map_cons, ← intsD_of e1, ← rowsD_of e2]
    · cases h
theorem rowsD_map : ∀ m : List (List Int), rowsD (m.map fun ns => D.lst (ns.map D.int)) = some m
  | [] => rfl
  | ns :: m => by
    show (match intsD (ns.map D.int), rowsD (m.map fun ns => D.lst (ns.map D.int)) with | some ns, some m => some (ns :: m) | _, _ => none) = _
    rw [intsD_map, rowsD_map m]
def rMinLL (K : PySem.W.Frag) : List V → Hp → VK → Prop := fun vs H Q => ∃ (a : Addr) (ws : List V) (x : List Int) (m : List (List Int)), vs = [V.ref a] ∧ SqL K H a ws ∧ DpAll K H ws ((x :: m).map fun ns => .list (ns.map .int)) ∧
  ∀ (i : Nat) (v : V), ws[i]? = some v → (x :: m)[i]? = some (PySem.W.minOf x m) → Q v H
theorem canLay_ints : ∀ ns : List Int, PyData.canLayAll0 (ns.map PyData.int) = true
  | [] => rfl
  | i :: ns => by show (PyData.canLay0 (.int i) && PyData.canLayAll0 (ns.map PyData.int)) = true; rw [canLay_ints ns]; rfl
theorem toD_row (ns : List Int) : PySem.W.Datum.toD ns = PyData.list (ns.map PyData.int) := rfl
theorem int_inj : ∀ {a b : List Int}, a.map PyData.int = b.map PyData.int → a = b
  | [], [], _ => rfl
  | [], _ :: _, h => by cases h
  | _ :: _, [], h => by cases h
  | x :: a, y :: b, h => by
    rw [List.map_cons, List.map_cons] at h
    injection h with h1 h2
    injection h1 with h1
    rw [h1, int_inj h2]
theorem cr_minLL (hc : X.calm = true) (hu : X.A.units + 65 < cLine) : CallR X (.builtin "min") (rMinLL X.K) := by
  intro pins s σ H vs us Q I r h
  obtain ⟨a, ws, x, m, rfl, hs, hd, q⟩ := h
  obtain ⟨its, rv, hl, _⟩ := I.list hs
  rw [Vals.ref1 r]
  obtain ⟨as, ra⟩ := Dp.readsAll I _ _ _ hd rv
  refine PySem.W.min_list_datum (α := List Int) (x := x) (xs := m) (I.ok.hd hc) hl.isList ⟨as, ra⟩ (by show X.A.units + 1 + 1 < _; omega) fun i v h' tk hi hh hk => ?_
  have hi' : its[i]? = some v := by simpa using hi
  obtain ⟨hil, _⟩ := List.getElem?_eq_some_iff.mp hi'
  have lw := rv.length
  have ew : ws[i]? = some ws[i] := List.getElem?_eq_getElem (by omega)
  obtain ⟨u, hu', ru⟩ := rv.get ew
  rw [hi'] at hu'
  cases hu'
  refine ⟨ws[i], H, I.kept hk, ru, q i _ ew ?_⟩
  obtain ⟨bs, rb⟩ := hh
  obtain ⟨cs, rc, hlt, _⟩ := PySem.W.readsAll_at ra i v hi'
  have hlt' : i < (x :: m).length := by simpa using hlt
  have e1 : ((x :: m).map fun ns => PyData.list (ns.map .int)).getD i .none = .list (((x :: m)[i]).map .int) := by
    rw [List.getD_eq_getElem?_getD, List.getElem?_map, List.getElem?_eq_getElem hlt']; rfl
  have rc' : Reads h' v (.list (((x :: m)[i]).map .int)) cs := by rw [← e1]; exact PySem.W.reads_keeps hk rc
  have f1 := SeqAt.readOf_eq (by show (PyData.list _).canLay0 = true; simp only [PyData.canLay0]; exact canLay_ints _) rc'
  have f2 := SeqAt.readOf_eq (by rw [toD_row]; simp only [PyData.canLay0]; exact canLay_ints _) rb
  rw [f1, toD_row] at f2
  injection f2 with f2
  rw [List.getElem?_eq_getElem hlt', int_inj f2]
end
end DL


set_option Elab.async false
set_option linter.all false
set_option maxRecDepth 100000
/-! The data layer, part 22: more built-ins, swaps. -/
namespace DL
open PySem PySem.Spec PyProof.Rows L2
section
variable {X : Cx} {W : WX} {a b e : Expr} {es : List Expr} {fa fb : DF} {pos p p1 p2 cpos apos : Pos}
/-! ### calls whose value lay there -/
def CallP (K : PySem.W.Frag) (r : List V → Hp → VK → Prop) (g : List D → Option D) : Prop := ∀ (C : Str → Addr) (H : Hp) (ds : List D) (d : D) (vs : List V) (fps : Fp) (Q : VK), Reps K true C H ds vs fps → g ds = some d →
  (∀ w H' fp, Ex H H' → Rep K true C H' d w fp → (∀ a ∈ fp, H a = none ∨ a ∈ fps) → Q w H') → r vs H Q
theorem call_p {r : List V → Hp → VK → Prop} {g : List D → Option D} {f : Env → Option (List D)} (hr : CallP X.K r g) (ha : DA X es f) (h : ∀ t, PA X es t → PE X e (tCB r t)) : DP X e (fL g f) :=
  ⟨fun B hB => (h _ (ha.pa B hB)).imp fun σ H Q ⟨env, φ, d, S, q, k⟩ => by
    unfold fL at q
    split at q
    · rename_i ds q1
      refine ⟨env, φ, ds, S, q1, fun vs H1 fps e1 r1 k1 => ?_⟩
      exact hr B.C H1 ds d vs fps Q (hB ▸ r1) q fun w H2 fp e2 r2 n2 => k w H2 fp (e1.trans e2) (hB ▸ r2) fun z hz => by
        rcases n2 z hz with n | n
        · exact .inl (fresh_back e1 n)
        · exact k1 z n
    · cases q⟩
theorem dp_callB {id : String} {x : Str} {r : List V → Hp → VK → Prop} {g : List D → Option D} {f : Env → Option (List D)} (hr : CallP X.K r g) (hc : CallR X (.builtin id) r) (hg : Gl X x) (hm : X.mg x = none) (hv : bootBuiltins x = some (.builtin id)) (ha : DA X (e :: es) f)
    (hn : x ≠ "__name__" := by decide) (hdb : (x == ("__debug__" : Str)) = false := by decide) (hs : starEach (e :: es) X.env = (false, eval e X.env) :: starEach es X.env := by rfl) (hpl : (backTo pos (starEach es X.env)).any (·.1) = false := by rfl) :
    DP X (.Call (.Name x p) (e :: es) [] pos) (fL g f) := call_p hr ha fun _ pa => pe_callB hc hg hm hv pa hn hdb hs hpl
def gMinLL : List D → Option D
  | [.lst l] => (match rowsD l with
    | some (x :: m) => some (.lst ((PySem.W.minOf x m).map D.int))
    | _ => none)
  | _ => none
theorem rows_dp {K : PySem.W.Frag} {C : Str → Addr} {H : Hp} : ∀ {m : List (List Int)} {vs : List V} {fp : Fp}, Reps K true C H (m.map fun ns => D.lst (ns.map D.int)) vs fp → DpAll K H vs (m.map fun ns => .list (ns.map .int))
  | [], vs, fp, h => by
    unfold List.map Reps at h
    obtain ⟨rfl, rfl⟩ := h
    exact .nil
  | ns :: m, vs, fp, h => by
    rw [List.map_cons] at h ⊢
    unfold Reps at h
    obtain ⟨v, vs', f1, f2, rfl, rfl, h1, h2⟩ := h
    refine .cons ?_ (rows_dp h2)
    have e : toPy (D.lst (ns.map D.int)) = .list (ns.map .int) := by
      unfold toPy
      rw [toPys_map, List.map_map]
      rfl
    rw [← e]
    exact rep_dp h1 (by rw [e]; simp only [PyData.canLay0]; exact canLay_ints _)
theorem c_minLL {K : PySem.W.Frag} : CallP K (rMinLL K) gMinLL := by
  intro C H ds d vs fps Q hr hg k
  unfold gMinLL at hg
  split at hg
  · rename_i l
    split at hg
    · rename_i x m e
      cases hg
      obtain ⟨v, rfl, r⟩ := reps1 hr
      obtain ⟨ad, us, fs, rfl, hl, hs, sub⟩ := rep_sql r
      have el := rowsD_of e
      subst el
      refine ⟨ad, us, x, m, rfl, hl, rows_dp hs, fun i v ev hi => ?_⟩
      have hi' : ((x :: m).map fun ns => D.lst (ns.map D.int))[i]? = some (.lst ((PySem.W.minOf x m).map D.int)) := by rw [List.getElem?_map, hi]; rfl
      obtain ⟨w, fx, ew, r2, s2⟩ := reps_at hs hi'
      rw [ev] at ew
      cases ew
      exact k _ H fx (Evl.Ex.refl H) r2 fun z hz => .inr (sub z (s2 z hz))
    · cases hg
  · cases hg
/-! ### a list so many times -/
def gRep : D → D → Option D
  | .lst l, .int k => if imms l = true ∧ k < (LIM : Int) ∧ -(LIM : Int) < k ∧ l.length * k.toNat ≤ LIM then some (.lst (List.replicate k.toNat l).flatten) else none
  | _, _ => none
theorem imms_rep {l : List D} (c : imms l = true) : ∀ n, imms (List.replicate n l).flatten = true
  | 0 => rfl
  | n + 1 => by rw [List.replicate_succ, List.flatten_cons, imms_append, c, imms_rep c n]; rfl
theorem reps_rep {K : PySem.W.Frag} {kl : Bool} {C : Str → Addr} {H : Hp} {l : List D} {vs : List V} (h : Reps K kl C H l vs []) : ∀ n, Reps K kl C H (List.replicate n l).flatten (List.replicate n vs).flatten []
  | 0 => reps_nil
  | n + 1 => by
    rw [List.replicate_succ, List.flatten_cons, List.replicate_succ, List.flatten_cons]
    exact reps_app (f := []) (g := []) h (reps_rep h n)
theorem dn_rep (ha : DN X a fa) (hb : DP X b fb) : DN X (.BinOp a .Mult b pos) (f2 gRep fa fb) :=
  ⟨fun B hB => (pe_op op_rep (ha.pe B hB) (hb.pe B hB)).imp fun σ H Q ⟨env, φ, d, S, q, k⟩ => by
    obtain ⟨x, y, q1, q2, q3⟩ := f2_of q
    unfold gRep at q3
    split at q3
    · rename_i l n
      split at q3
      · rename_i c
        cases q3
        refine ⟨env, φ, _, S, q1, fun u H1 fu e1 r1 n1 => ⟨env, φ, _, S.ex e1, q2, fun v H2 fv e2 r2 k2 => ?_⟩⟩
        obtain ⟨ad, us, fs, rfl, ef, ha, hr⟩ := own_list r1 fun z hz => (n1.2 z hz).1
        have hr2 := reps_ex hr e2
        have fs0 := reps_imm hr c.1
        subst fs0
        have c2 := c.2.1
        have c3 := c.2.2.1
        have c4 := c.2.2.2
        unfold LIM at c2 c3 c4
        refine ⟨ad, n, us, rfl, (rep_int.mp r2).1, e2 ad _ ha, by omega, by omega, ?_, fun p hp => ?_⟩
        · rw [reps_len hr]; exact lim_le (by unfold LIM; exact c4)
        · exact k _ _ [p] ((e1.trans e2).trans (Evl.Ex.new hp)) (rep_newL (reps_rep hr2 _) hp) ((new_one hp).ex (e1.trans e2))
      · cases q3
    · cases q3⟩
end
section
open PySem.Sem (wp)
variable {prog : Program} {w : World} {K : Type} [DecidableEq K] {knd : HeapKind prog w K} {A : Around} {E : Value → Shared → Prop} {s : Shared}
theorem dict_pairs {env : PySem.Env} {keys : List (Option Expr)} {values : List Expr} {pos : Pos} {pairs : List (Sem Value × Sem Value)} {Q : Value → Shared → Prop} (hu : knd.room A)
    (hshape : (evalEachOpt keys env).zip ((evalEach values env).map fun v => do let x ← v; standAt pos; pure x) = pairs.map fun p => (some p.1, p.2)) (h0 : pairs ≠ []) (hlen : pairs.length ≤ 15)
    (h : wpAny (model prog w) A (evalPairs pairs) (fun vs s₁ => ∃ ps, CarriesH knd s₁.heap vs ps ∧ s₁.heap.DictOfH knd s.heap.objs.size [] ∧
      ∀ h' tk, h'.DictOfH knd s.heap.objs.size (storedAllH [] ps) → Heap.SameBut s.heap.objs.size s₁.heap h' → Q (.ref s.heap.objs.size) { s₁ with heap := h', toks := tk }) E
      { s with heap := s.heap.push { cls := .type "dict", data := .dict #[] } }) :
    wpAny (model prog w) A (eval (.Dict keys values pos) env) Q E s := by
  rw [arm_eval_Dict, hshape, dictDisplay_pairs pairs h0 (by omega)]
  exact wpAny_bind (wpAny_standAt (wpAny_bind (wpAny_subDictH (knd := knd) (Q := fun d s' => wpAny (model prog w) A (pure (Value.ref d)) Q E s') hu hlen
    (wpAny_mono h (fun vs s₁ h₁ => by obtain ⟨ps, hc, hm, hq⟩ := h₁; exact ⟨ps, hc, hm, fun h' tk a b => wpAny_pure (hq h' tk a b)⟩) fun _ _ e => e))))
end
section
variable {X : Cx} {W : WX} {a b e : Expr} {es : List Expr} {fa fb : DF} {pos p p1 p2 cpos apos : Pos}
/-! ### {k: v}, k a tuple -/
def tDisp1T (tk tv : TE) : TE := fun σ H Q => ∀ p, H p = none → tk σ (upd H p (.dT [])) fun x H1 => tv σ H1 fun y H2 => H2 p = some (.dT []) ∧ ∃ b ks, x = .ref b ∧ H2 b = some (.tup (List.map kV ks)) ∧ Q (.ref p) (upd H2 p (.dT [(ks, y)]))
theorem pe_disp1T {k v : Expr} {tk tv : TE} (hu : X.A.units + 1 < cLine) (hk : PE X k tk) (hv : PE X v tv) : PE X (.Dict [some k] [v] pos) (tDisp1T tk tv) := by
  refine ⟨fun pins s σ H Q I q => ?_⟩
  have hn := I.hok.fresh (Nat.le_refl s.heap.objs.size)
  have I1 := I.laid (a := s.heap.objs.size) (o := .dT []) (h' := s.heap.push { cls := .type "dict", data := .dict #[] }) (t' := s.toks) (fun _ _ q => Heap.get?_push_of_some _ q) (Nat.le_refl _) (dt_empty s.heap I.big)
  refine dict_pairs (knd := tupleKind (mixKind X.prog X.w)) (by show X.A.units < cLine; omega) (zip_pairTrees [some k] [v] X.env pos rfl rfl) (by simp [pairTrees]) (by simp [pairTrees]) (pairTrees_cons_walk (thn (hk.run pins _ σ _ _ I1 (q _ hn)) fun w s2 ⟨x, H1, I2, rx, q1⟩ => thn (hv.run pins s2 σ H1 _ I2 q1) fun w2 s3 ⟨y, H2, I3, ry, q2⟩ => pairTrees_nil_walk ?_))
  obtain ⟨hp, b, ks, ex, hb, q3⟩ := q2
  subst ex
  obtain rfl : w = Value.ref b := rx
  obtain ⟨z, hd, xs, r0, dd⟩ := dt_of I3.hok hp
  cases r0
  refine ⟨[(ks, b, w2)], ⟨rfl, rfl, key_of I3.hok hb, trivial⟩, dd, fun h' tk' dd' hs => ?_⟩
  obtain ⟨o, es, ep, ho, hx, hdat, hes, his, hnd⟩ := dd'
  refine ⟨.ref s.heap.objs.size, _, ?_, rfl, q3⟩
  refine d_write I3 (by rw [hp]; exact True.intro) hs ⟨o, ho⟩ ⟨by show 1 ≤ sizeLine; decide, hd, [(ks, b, w2)], .cons ⟨rfl, ?_, ry⟩ .nil, o, es, ep, ho, hx, hdat, hes, hnd⟩
  rw [upd_ne (ne_of hb hp (fun z => nomatch z))]
  exact hb
def fD1 (fk fv : DF) : DF := fun env => match fk env, fv env with
  | some k, some v => (match conv true k with
    | some _ => if imm v = true then some (.dic true [k] [v]) else none
    | none => none)
  | _, _ => none
theorem dn_disp1T {k v : Expr} {fk fv : DF} (hu : X.A.units + 1 < cLine) (hk : DP X k fk) (hv : DP X v fv) : DN X (.Dict [some k] [v] pos) (fD1 fk fv) :=
  ⟨fun B hB => (pe_disp1T hu (hk.pe B hB) (hv.pe B hB)).imp fun σ H Q ⟨env, φ, d, S, q, k0⟩ => by
    unfold fD1 at q
    split at q
    · rename_i kd vd q1 q2
      split at q
      · rename_i ks ek
        split at q
        · rename_i c
          cases q
          intro p hp
          have e0 : Ex H (upd H p (.dT [])) := Evl.Ex.new hp
          refine ⟨env, φ, kd, S.ex e0, q1, fun x H1 fx e1 r1 k1 => ⟨env, φ, vd, (S.ex e0).ex e1, q2, fun y H2 fy e2 r2 k2 => ?_⟩⟩
          have hp2 : H2 p = some (.dT []) := e2 p _ (e1 p _ upd_same)
          have ekd := conv_t ek
          subst ekd
          obtain ⟨b, vs, rfl, hb, hr⟩ := rep_tup.mp r1
          have evs := keyDs_V hr
          subst evs
          have hb2 : H2 b = some (.tup (ks.map kV)) := e2 b _ hb
          refine ⟨hp2, b, ks, rfl, hb2, ?_⟩
          have e3 : Ex H (upd H2 p (.dT [(ks, y)])) := fun z o hz => by
            have hzp : z ≠ p := by rintro rfl; rw [hp] at hz; cases hz
            rw [upd_ne hzp]
            exact e2 z o (e1 z o (e0 z o hz))
          have rv := rep_immK r2 c
          have fy0 := rep_imm rv c
          subst fy0
          have mu : Mut (H2 p) := by rw [hp2]; trivial
          refine k0 _ _ [p] e3 (rep_dic.mpr ⟨p, [y], [], rfl, reps_one (rep_upd rv (fun h => nomatch h) mu), ?_, rfl⟩) ⟨(List.nodup_cons.mpr ⟨List.not_mem_nil, List.nodup_nil⟩ : [p].Nodup), fun z hz => ?_⟩
          · refine ⟨[(ks, y)], .inl upd_same, rfl, rfl, ?_⟩
            exact (List.nodup_cons.mpr ⟨List.not_mem_nil, List.nodup_nil⟩)
          · obtain rfl := List.mem_singleton.mp hz
            exact ⟨by rw [upd_same]; trivial, hp⟩
        · cases q
      · cases q
    · cases q⟩
/-! ### swaps: what stands on the left are items -/
theorem swapped_sub2 {a1 i1 a2 i2 v : Expr} {q1 q2 p : Pos} {k : Nat} {env : PySem.Env} : swappedStores [.Tuple [.Subscript a1 i1 q1, .Subscript a2 i2 q2] k p] v env = pure none := by
  unfold swappedStores
  cases v <;> first | rfl | (dsimp only; split <;> first | rfl | (split <;> rfl))
end
end DL


set_option Elab.async false
set_option linter.all false
set_option maxRecDepth 100000
/-! The data layer, part 23: what is short to say. -/
namespace DL
open PySem PySem.Spec PyProof.Rows L2
def noCh : Nat → Bool := fun _ => false
/-- worked out while nothing that stands may change -/
def fFrz (f : MF) : DF := fun env => match f (frz noCh env) with
  | some (.ok d _) => some d
  | _ => none
section
variable {X : Cx} {W : WX} {a b e : Expr} {es : List Expr} {fa fb : DF} {pos p p1 p2 cpos apos : Pos}
theorem DM.dn {f : MF} (h : DM X W e f) : DN X e (fFrz f) := ⟨fun B hB => ⟨fun pins s σ H Q I ⟨env, φ, d, S, q, k⟩ => by
  unfold fFrz at q
  split at q
  · rename_i d' env' q1
    cases q
    refine (h.pe (loopB B σ H env φ noCh) hB).run pins s σ H Q I ⟨[], [], frz noCh env, φ, _, by rw [frz_len]; exact S.len, by simpa using S.freeze, q1, fun v H' φ' S' hl => ?_⟩
    rw [List.append_nil, List.append_nil] at S'
    obtain ⟨r, nd, mu⟩ := S'.last
    have n1 : ∀ x, x ∉ moOf noCh env φ := fun x hx => by
      obtain ⟨j, d, c, _⟩ := mem_mo.mp hx
      cases c
    have n2 : ∀ x j, x ∉ mmOf noCh env φ j := fun x j hx => by
      obtain ⟨d, c, _⟩ := mem_mm.mp hx
      cases c
    refine k v H' _ (fun x o hx => S'.frame x o hx (n1 x) (n2 x)) r ⟨nd, fun x hx => ⟨(mu x hx).1, ?_⟩⟩
    rcases (mu x hx).2 with z | z
    · exact absurd z (n1 x)
    · exact z
  · cases q⟩⟩
/-! ### items of a row just laid -/
def mIx (f g : MF) : MF := fun env => match f env with
  | some (.ok (.lst l) env1) => (match g env1 with
    | some (.ok (.int i) env2) => (match atI l i with
      | some d => if imm d = true then some (.ok d env2) else none
      | none => none)
    | some (.exc c env2) => some (.exc c env2)
    | _ => none)
  | some (.exc c env1) => some (.exc c env1)
  | _ => none
theorem dm_ix {f g : MF} (ha : DM X W a f) (hb : DM X W b g) (hs : PlainIx b := by exact fun _ _ => rfl) : DM X W (.Subscript a b pos) (mIx f g) :=
  ⟨fun B hB => (pe_ix ix_seq (ha.pe B hB) (hb.pe B hB) hs).imp fun σ H Q ⟨τ, te, env, φ, r, hl, S, q, k⟩ => by
    have ht : τ.length = te.length := by have := S.len; simp at this; omega
    unfold mIx at q
    split at q
    · rename_i l env1 q1
      refine ⟨τ, te, env, φ, _, hl, S, q1, fun v H1 φ1 S1 l1 => ?_⟩
      split at q
      · rename_i i env2 q2
        split at q
        · rename_i d ed
          split at q
          · rename_i c
            cases q
            refine ⟨τ ++ [some v], te ++ [some ⟨.own, .lst l⟩], env1, φ1, _, by omega, by simpa using S1, q2, fun w H2 φ2 S2 l2 => ?_⟩
            rw [← List.append_assoc, ← List.append_assoc] at S2
            have r2 := S2.last.1
            have S3 := S2.pop
            obtain ⟨r1, nd1, mu1⟩ := S3.last
            obtain ⟨ad, us, fs, rfl, hq, hr, sub⟩ := rep_sql (rep_K r1 : Rep B.K true B.C H2 (.lst l) v _)
            obtain ⟨wv, fx, ew, rx, sx⟩ := atI_rep hr ed
            refine .inl ⟨ad, us, i, wv, rfl, (rep_int.mp r2).1, hB ▸ hq, ew, ?_⟩
            have rr := rep_immK rx c
            rw [rep_imm rx c] at rr
            exact k wv H2 _ (S3.pop.pushImm rr) (by omega)
          · cases q
        · cases q
      · rename_i c env2 q2
        cases q
        exact ⟨τ ++ [some v], te ++ [some ⟨.own, .lst l⟩], env1, φ1, _, by omega, by simpa using S1, q2, fun H2 φ2 S2 l2 => k H2 φ2 (S2.unlay (by omega) ht) (by omega)⟩
      · cases q
    · rename_i c env1 q1
      cases q
      exact ⟨τ, te, env, φ, _, hl, S, q1, k⟩
    · cases q⟩
end
/-! ### names -/
structure Nm (X : Cx) (i : Nat) (x : Str) : Prop where
  ix : X.N[i]? = some x
  vis : Vis X.env.scope x
  hd : (x == ("__debug__" : Str)) = false
  hc : (x == ("__classdict__" : Str)) = false
structure Lc (X : Cx) (i : Nat) (x : Str) : Prop extends Nm X i x where
  nd : X.N.Nodup
  loc : Loc X.env.scope x
  fn : X.fn x = true ∨ X.env.scope.names.lookup x = some .local
def nmB (N : List Str) (sc : Scope) (i : Nat) (x : Str) : Bool := decide (N[i]? = some x) && (match sc.names.lookup x with
  | some .local => true
  | some .cell => true
  | some .free => true
  | _ => false) && !(x == ("__debug__" : Str)) && !(x == ("__classdict__" : Str))
def lcB (sc : Scope) (x : Str) : Bool := match sc.names.lookup x with
  | some .local => true
  | some .cell => true
  | _ => false
def glB (sc : Scope) (x : Str) : Bool := match sc.names.lookup x with
  | some .globalImplicit => true
  | _ => false
section
variable {X : Cx} {W : WX} {P : Program} {w : World} {K : PySem.W.Frag} {mg : Str → Option Value} {base : Heap} {N : List Str} {sc : Scope} {k : Nat}
theorem BX.nm (h : BX X W P w K mg base N sc k) {i : Nat} {x : Str} (c : nmB N sc i x = true) : Nm X i x := by
  unfold nmB at c
  have c1 := Bool.and_eq_true_iff.mp c
  have c2 := Bool.and_eq_true_iff.mp c1.1
  have c3 := Bool.and_eq_true_iff.mp c2.1
  refine ⟨by rw [h.hN]; exact of_decide_eq_true c3.1, ?_, by simpa using c2.2, by simpa using c1.2⟩
  have c4 := c3.2
  rw [h.hsc]
  unfold Vis
  split at c4
  · rename_i e; exact .inl e
  · rename_i e; exact .inr (.inl e)
  · rename_i e; exact .inr (.inr e)
  · cases c4
theorem BX.lcl (h : BX X W P w K mg base N sc k) {i : Nat} {x : Str} (c : nmB N sc i x = true) (hx : sc.names.lookup x = some .local) : Lc X i x :=
  { h.nm c with nd := h.nd, loc := by rw [h.hsc]; exact .inl hx, fn := .inr (by rw [h.hsc]; exact hx) }
theorem BF.lc (h : BF X W P w K mg base N sc k) {i : Nat} {x : Str} (c : nmB N sc i x = true) (c2 : lcB sc x = true) : Lc X i x :=
  { h.toBX.nm c with
    nd := h.nd
    loc := by
      rw [h.hsc]
      unfold lcB at c2
      split at c2
      · rename_i e; exact .inl e
      · rename_i e; exact .inr e
      · cases c2
    fn := .inl (h.fn x) }
theorem BX.gl (h : BX X W P w K mg base N sc k) {x : Str} (c : glB sc x = true) : Gl X x := by
  show X.env.scope.names.lookup x = _
  rw [h.hsc]
  unfold glB at c
  split at c
  · assumption
  · cases c
theorem glB_of {sc : Scope} {x : Str} (c : glB sc x = true) : sc.names.lookup x = some .globalImplicit := by
  unfold glB at c
  split at c
  · assumption
  · cases c
theorem BX.mgn (h : BX X W P w K mg base N sc k) {x : Str} (c : mg x = none) : X.mg x = none := by rw [h.hmg]; exact c
theorem BX.u1 (h : BX X W P w K mg base N sc k) : X.A.units + 1 < cLine := by have := h.room.un; omega
theorem BX.u64 (h : BX X W P w K mg base N sc k) : X.A.units + 64 < cLine := by have := h.room.un; omega
theorem BX.u65 (h : BX X W P w K mg base N sc k) : X.A.units + 65 < cLine := by have := h.room.un; omega
end
section
variable {X : Cx} {W : WX} {a b e : Expr} {es : List Expr} {fa fb : DF} {pos pos' p p1 p2 cpos apos : Pos} {i : Nat} {x : Str}
theorem Nm.dp (n : Nm X i x) : DP X (.Name x pos) (fVar i) := dp_var i n.ix n.vis n.hd n.hc
theorem Nm.mv (n : Nm X i x) : DM X W (.Name x pos) (mMove i) := dm_move i n.ix n.vis n.hd n.hc
theorem Nm.nm (n : Nm X i x) {r : Env → Option (R (List Ag))} (h2 : DAM X W es r) (hs : starEach (.Name x p :: es) X.env = (false, eval (.Name x p) X.env) :: starEach es X.env := by rfl) : DAM X W (.Name x p :: es) (aNm i r) := dam_nm n.ix n.vis h2 hs n.hd n.hc
theorem Lc.set (n : Lc X i x) {f : MF} (he : DM X W e f) (hs : swapsWith e (some (.Name x pos')) pos.line X.env = pure false := by rfl) : DS X W (.Assign [.Name x pos'] e pos) (sSet i f) := ds_set n.nd n.ix n.loc he hs n.fn
theorem Lc.dg (n : Lc X i x) : DG X (.Name x pos) [i] (tgN i) := dg_name n.nd n.ix n.loc n.fn
theorem Lc.dto (n : Lc X i x) : DO X (.Name x pos) (toN i) := do_name n.nd n.ix n.loc n.fn
theorem Lc.aug (n : Lc X i x) {op : Operator} {g : Int → Int → Int} {f : MF} (he : DM X W e f) (ho : PIp X op (ipI g)) : DS X W (.AugAssign (.Name x pos') op e pos) (sAug i g f) := ds_aug n.nd n.ix n.loc he ho n.fn
theorem Nm.ixo (n : Nm X i x) (hb : DP X b fb) (ha : ∀ v, assign (.Subscript (.Name x p1) b pos) X.env v = (do
      let ov ← holding [v] (eval (.Name x p1) X.env)
      let iv ← holding [v, ov] (eval b X.env)
      standAt pos
      holding [v, ov, iv] (setItem ov iv v)
      release [v, ov, iv] []) := by intro _; rfl) : DO X (.Subscript (.Name x p1) b pos) (toIx i fb) := do_ix n.ix n.vis hb n.hd n.hc fun _ _ h1 h2 => pg_sub h1 h2 set_list ha
variable {r : Env → Option (R (List Ag))}
theorem Nm.append (n : Nm X i x) (ha : DAM X W [e] r)
    (hbase : attributeBase (.Name x p1) "append" X.env (eval (.Name x p1) X.env) = eval (.Name x p1) X.env := by rfl)
    (hfew : ((backTo cpos (starEach [e] X.env)).all (fun x => !x.1) && (backToKw cpos (keywordEach [] X.env)).all (fun x => x.1.isSome)
      && decide (([e] : List Expr).length + ([] : List Keyword).length + (if ([] : List Keyword).isEmpty then 0 else 1) < 30)) = true := by rfl)
    (hline : (apos.endLine == cpos.line) = true := by rfl) (hs : starEach [e] X.env = (false, eval e X.env) :: starEach [] X.env := by rfl)
    (hpl : (backTo cpos (starEach [] X.env)).any (·.1) = false := by rfl) : DM X W (.Call (.Attribute (.Name x p1) "append" apos) [e] [] cpos) (mMeth "list" hAppend i r) :=
  dm_meth m_append F.plainAttrs_list PySem.F.slot_list_append PySem.F.type_list_append mt_append n.ix n.vis ha hbase hfew hline hs hpl n.hd n.hc
theorem Nm.extend (n : Nm X i x) (ha : DAM X W [e] r)
    (hbase : attributeBase (.Name x p1) "extend" X.env (eval (.Name x p1) X.env) = eval (.Name x p1) X.env := by rfl)
    (hfew : ((backTo cpos (starEach [e] X.env)).all (fun x => !x.1) && (backToKw cpos (keywordEach [] X.env)).all (fun x => x.1.isSome)
      && decide (([e] : List Expr).length + ([] : List Keyword).length + (if ([] : List Keyword).isEmpty then 0 else 1) < 30)) = true := by rfl)
    (hline : (apos.endLine == cpos.line) = true := by rfl) (hs : starEach [e] X.env = (false, eval e X.env) :: starEach [] X.env := by rfl)
    (hpl : (backTo cpos (starEach [] X.env)).any (·.1) = false := by rfl) : DM X W (.Call (.Attribute (.Name x p1) "extend" apos) [e] [] cpos) (mMeth "list" hExtend i r) :=
  dm_meth m_extend F.plainAttrs_list PySem.F.slot_list_extend PySem.F.type_list_extend mt_extend n.ix n.vis ha hbase hfew hline hs hpl n.hd n.hc
theorem Nm.insert (n : Nm X i x) (ha : DAM X W [e, a] r)
    (hbase : attributeBase (.Name x p1) "insert" X.env (eval (.Name x p1) X.env) = eval (.Name x p1) X.env := by rfl)
    (hfew : ((backTo cpos (starEach [e, a] X.env)).all (fun x => !x.1) && (backToKw cpos (keywordEach [] X.env)).all (fun x => x.1.isSome)
      && decide (([e, a] : List Expr).length + ([] : List Keyword).length + (if ([] : List Keyword).isEmpty then 0 else 1) < 30)) = true := by rfl)
    (hline : (apos.endLine == cpos.line) = true := by rfl) (hs : starEach [e, a] X.env = (false, eval e X.env) :: starEach [a] X.env := by rfl)
    (hpl : (backTo cpos (starEach [a] X.env)).any (·.1) = false := by rfl) : DM X W (.Call (.Attribute (.Name x p1) "insert" apos) [e, a] [] cpos) (mMeth "list" hInsert i r) :=
  dm_meth m_insert F.plainAttrs_list PySem.F.slot_list_insert PySem.F.type_list_insert mt_insert n.ix n.vis ha hbase hfew hline hs hpl n.hd n.hc
theorem Nm.popAt (n : Nm X i x) (ha : DAM X W [e] r)
    (hbase : attributeBase (.Name x p1) "pop" X.env (eval (.Name x p1) X.env) = eval (.Name x p1) X.env := by rfl)
    (hfew : ((backTo cpos (starEach [e] X.env)).all (fun x => !x.1) && (backToKw cpos (keywordEach [] X.env)).all (fun x => x.1.isSome)
      && decide (([e] : List Expr).length + ([] : List Keyword).length + (if ([] : List Keyword).isEmpty then 0 else 1) < 30)) = true := by rfl)
    (hline : (apos.endLine == cpos.line) = true := by rfl) (hs : starEach [e] X.env = (false, eval e X.env) :: starEach [] X.env := by rfl)
    (hpl : (backTo cpos (starEach [] X.env)).any (·.1) = false := by rfl) : DM X W (.Call (.Attribute (.Name x p1) "pop" apos) [e] [] cpos) (mMeth "list" hPopAt i r) :=
  dm_meth m_popAt F.plainAttrs_list PySem.F.slot_list_pop PySem.F.type_list_pop mt_popAt n.ix n.vis ha hbase hfew hline hs hpl n.hd n.hc
theorem Nm.pop (n : Nm X i x)
    (hbase : attributeBase (.Name x p1) "pop" X.env (eval (.Name x p1) X.env) = eval (.Name x p1) X.env := by rfl)
    (hline : (apos.endLine == cpos.line) = true := by rfl) : DM X W (.Call (.Attribute (.Name x p1) "pop" apos) [] [] cpos) (mMeth "list" hPop i aNil) :=
  dm_meth0 m_pop F.plainAttrs_list PySem.F.slot_list_pop PySem.F.type_list_pop mt_pop n.ix n.vis hbase hline n.hd n.hc
theorem Nm.reverse (n : Nm X i x)
    (hbase : attributeBase (.Name x p1) "reverse" X.env (eval (.Name x p1) X.env) = eval (.Name x p1) X.env := by rfl)
    (hline : (apos.endLine == cpos.line) = true := by rfl) : DM X W (.Call (.Attribute (.Name x p1) "reverse" apos) [] [] cpos) (mMeth "list" hReverse i aNil) :=
  dm_meth0 m_reverse F.plainAttrs_list PySem.F.slot_list_reverse PySem.F.type_list_reverse mt_reverse n.ix n.vis hbase hline n.hd n.hc
theorem Nm.clear (n : Nm X i x)
    (hbase : attributeBase (.Name x p1) "clear" X.env (eval (.Name x p1) X.env) = eval (.Name x p1) X.env := by rfl)
    (hline : (apos.endLine == cpos.line) = true := by rfl) : DM X W (.Call (.Attribute (.Name x p1) "clear" apos) [] [] cpos) (mMeth "list" hClear i aNil) :=
  dm_meth0 m_clear F.plainAttrs_list PySem.F.slot_list_clear PySem.F.type_list_clear mt_clear n.ix n.vis hbase hline n.hd n.hc
theorem DN.fv {f : DF} (h : DN X e f) : DN X e (fV (fB f)) := ⟨fun B hB => (h.pe B hB).imp fun σ H Q ⟨env, φ, d, S, q, k⟩ => by
  obtain ⟨b, q1, rfl⟩ := fV_of q
  exact ⟨env, φ, _, S, fB_of q1, k⟩⟩
theorem Nm.dput (n : Nm X i x) {kx : Expr} {fk : DF} {fv : MF} (hu : X.A.units + 1 < cLine) (hk : DP X kx fk) (he : DM X W e fv) (hs : swapsWith e (some (.Subscript (.Name x p1) kx pos')) pos.line X.env = pure false := by rfl) : DS X W (.Assign [.Subscript (.Name x p1) kx pos'] e pos) (sDPut i fk fv) := ds_dput hu n.ix n.vis hk he hs n.hd n.hc fun _ _ _ h1 h2 h3 => ps_dput hu h1 h2 h3 hs
def chs (l : List Nat) : Nat → Bool := fun i => l.contains i
end
def swB (sc : Scope) (t : Str) (a b : Nat) (scope : Scope) : Bool := ((if sc.kind.isAnnotationScope then ScopeKind.function else sc.kind) == .function && sc.names.lookup t == some .local && a == b) && !(scope.names.any fun (n, k) => n == t && (k == .local || k == .cell))
section
variable {X : Cx} {W : WX} {P : Program} {w : World} {K : PySem.W.Frag} {mg : Str → Option Value} {base : Heap} {N : List Str} {sc : Scope} {k : Nat} {elt : Expr} {gs : List Comprehension} {scope : Scope} {pos py : Pos} {t : Str} {line : Nat}
theorem BX.sw (h : BX X W P w K mg base N sc k) (b : Bool) (c : swB sc t py.line pos.line scope = b) : swapsWith (.ListComp elt gs scope pos) (some (.Name t py)) line X.env = pure b := by
  subst c
  have e := h.hsc
  show (pure _ : Sem Bool) = pure _
  unfold swB Env.blockKind Env.kindOf
  rw [e]
  rfl
end
end DL


set_option Elab.async false
set_option linter.all false
set_option maxRecDepth 100000
/-! The data layer, part 24: a law's end. -/
namespace DL
open PySem PySem.Spec PyProof.Rows L2
theorem reps_one' {K : PySem.W.Frag} {C : Str → Addr} {H : Hp} {a : Addr} {ns : List Int} (h : SqL K H a (ns.map V.int)) : ∃ fps, Reps K true C H [.lst (ns.map D.int)] [.ref a] fps := by
  rcases h with h | h
  · exact ⟨_, reps_one (rep_lst.mpr ⟨a, _, [], rfl, ints_reps ns, .inl ⟨h, rfl⟩⟩)⟩
  · exact ⟨_, reps_one (rep_lst.mpr ⟨a, _, [], rfl, ints_reps ns, .inr ⟨rfl, h, rfl⟩⟩)⟩
theorem law_sp {K : PySem.W.Frag} {F : List D → Option (R D)} {H : Hp} {a : Addr} {ns : List Int} (hF : ∃ pe, F [.lst (ns.map D.int)] = some (.ok (.bl true) pe)) (h : SqL K H a (ns.map V.int)) :
    spD K [.shr] F [.ref a] H (fun v _ => v = .bl true) fun _ _ _ => False := by
  obtain ⟨pe, hF⟩ := hF
  obtain ⟨fps, r⟩ := reps_one' (C := He.ga K) h
  obtain ⟨φ, S⟩ := st_args (B := ⟨K, H, [], fun _ => [], fun _ => .non⟩) r
  refine ⟨_, φ, _, _, rfl, rfl, S, hF, fun _ v H' φ' S' => ?_⟩
  exact (rep_bl.mp S'.last.1).1
theorem law_end {l : PySem.W.OpenLaw} {n k : Nat} {q : Program} {loose : List Str} {XP : (Str → Option Value) → Heap → Prop} {YP : World → Heap → Prop} {d : DefRec} {x : Str} {Fd : List D → Option (R D)}
    (most : l.most = some n) (fits : n ≤ sizeLine) (noD : d.params.defaults = []) (room : Room k callerA) (hold : ∀ ns : List Int, ns.length ≤ n → ∃ pe, Fd [.lst (ns.map D.int)] = some (.ok (.bl true) pe))
    (Fc : ∀ (w : World) (mg : Str → Option Value) (fa : Addr) (h : Heap), YP w h → h.Ns mainGlobals mg → mg d.name = some (.ref fa) → ∃ (K : PySem.W.Frag) (fd : FuncData),
      K.In h ∧ (∀ (s : Shared) (u : Value), BindsTo s fd ⟨[u], []⟩ [(x, u)]) ∧ ∀ base : Heap, K.In base → base.Ns mainGlobals mg → FnOk l.prog w K mg base (L2.CX l.prog w) k fa fd [x] (spD K [.shr] Fd)) :
    PySem.W.WalkO q loose XP YP l.row.toRowW d [] (fun f vs => PySem.call f vs) := by
  refine Att.attach_call most noD fun w s0 s1 mg mb fa o pm cd doc a vs ns G Y ho hd hcd hmg hobj hints hlen hg => ?_
  obtain ⟨K, fd, KX, hb, hF⟩ := Fc w mg fa _ Y G.T.g hmg
  refine law_call KX G.T.g G.T.b G.T.builtins G.T.nolimit hg hobj hints (Nat.le_trans hlen fits) room hF hb (fun H _ hS => law_sp (hold ns hlen) hS) fun H e s' h => ?_
  obtain ⟨_, _, _, _, _, _, _, _, _, _, _, _, z⟩ := h
  exact z
end DL


set_option Elab.async false
set_option linter.all false
set_option maxRecDepth 100000
/-! The data layer, part 25: working out what a def computes. -/
namespace DL
open PySem L2
theorem log_small {i : Int} (h : i.natAbs < 2 ^ 400) : i.natAbs.log2 < 400 := by
  by_cases z : i.natAbs = 0
  · rw [z]; decide
  · exact (Nat.log2_lt z).mpr h
theorem mul_ok {i j : Int} (hi : i.natAbs < 2 ^ 400) (hj : j.natAbs < 2 ^ 400) : cMul i j = true := by
  unfold cMul
  have a := log_small hi
  have b := log_small hj
  exact decide_eq_true (by omega)
theorem small_pow {i : Int} {n : Nat} (h : i.natAbs < n) (hn : n ≤ 2 ^ 400 := by decide) : i.natAbs < 2 ^ 400 := Nat.lt_of_lt_of_le h hn
/-- items -/
theorem atI_nat {α : Type} (xs : List α) (j : Nat) : atI xs (j : Int) = xs[j]? := by
  unfold atI ixN
  by_cases h : j < xs.length
  · have h' : (j : Int) < (xs.length : Int) := by omega
    simp [h']
  · have h' : ¬ (j : Int) < (xs.length : Int) := by omega
    simp [h', List.getElem?_eq_none (by omega : xs.length ≤ j)]
theorem atI_ok {α : Type} {xs : List α} {i : Int} {x : α} (h0 : 0 ≤ i) (h : xs[i.toNat]? = some x) : atI xs i = some x := by
  have e : i = ((i.toNat : Nat) : Int) := by omega
  rw [e, atI_nat]
  exact h
theorem ixN_ok {n : Nat} {i : Int} (h0 : 0 ≤ i) (h : i < n) : ixN n i = some i.toNat := by
  unfold ixN
  rw [if_pos h0, if_pos h]
/-! ### loops -/
/-- a for whose body always goes on: R holds after each turn of what the step makes -/
theorem sLoop_rel {α β : Type} {tg : TgD} {g : SF} {R : β → Env → Prop} {enc : α → D} {step : β → α → β} {P : α → Prop}
    (h : ∀ b x env, P x → R b env → ∃ env1 env2, tg (enc x) env = some env1 ∧ g env1 = some (.nx env2) ∧ env2.length = env.length ∧ R (step b x) env2) :
    ∀ (xs : List α) (b : β) (env : Env), (∀ x ∈ xs, P x) → R b env → ∃ env', sLoop tg g (xs.map enc) env = some (.nx env') ∧ env'.length = env.length ∧ R (xs.foldl step b) env'
  | [], b, env, _, r => ⟨env, rfl, rfl, r⟩
  | x :: xs, b, env, hp, r => by
    obtain ⟨env1, env2, e1, e2, l2, r2⟩ := h b x env (hp x List.mem_cons_self) r
    obtain ⟨env', e3, l3, r3⟩ := sLoop_rel h xs (step b x) env2 (fun y hy => hp y (List.mem_cons_of_mem _ hy)) r2
    refine ⟨env', ?_, l3.trans l2, r3⟩
    rw [List.map_cons]
    unfold sLoop
    rw [e1]
    simp only [e2, l2, if_true]
    exact e3
/-- .. as long as the step says so -/
theorem sLoop_relM {α β : Type} {tg : TgD} {g : SF} {R : β → Env → Prop} {enc : α → D} {step : β → α → Option β}
    (h : ∀ b x b' env, R b env → step b x = some b' → ∃ env1 env2, tg (enc x) env = some env1 ∧ g env1 = some (.nx env2) ∧ env2.length = env.length ∧ R b' env2) :
    ∀ (xs : List α) (b b' : β) (env : Env), R b env → xs.foldlM step b = some b' → ∃ env', sLoop tg g (xs.map enc) env = some (.nx env') ∧ env'.length = env.length ∧ R b' env'
  | [], b, b', env, r, e => by
    have e' : b = b' := by simpa using e
    subst e'
    exact ⟨env, rfl, rfl, r⟩
  | x :: xs, b, b', env, r, e => by
    rw [List.foldlM_cons] at e
    cases e0 : step b x with
    | none => rw [e0] at e; cases e
    | some b1 =>
      rw [e0] at e
      obtain ⟨env1, env2, e1, e2, l2, r2⟩ := h b x b1 env r e0
      obtain ⟨env', e3, l3, r3⟩ := sLoop_relM h xs b1 b' env2 r2 e
      refine ⟨env', ?_, l3.trans l2, r3⟩
      rw [List.map_cons]
      unfold sLoop
      rw [e1]
      simp only [e2, l2, if_true]
      exact e3
theorem sFor_nx {ch : Nat → Bool} {f : Env → Option (List D)} {tg : TgD} {g : SF} {env env' : Env} {ds : List D} (hf : f (clr ch env) = some ds) (hl : sLoop tg g ds (frz ch env) = some (.nx env')) (he : env'.length = env.length) :
    sFor ch f tg g env = some (.nx (thaw ch env env')) := by
  unfold sFor
  rw [hf]
  simp only [hl, thawO, he, if_true]
theorem sSeq_nx {g h : SF} {env env' : Env} (hg : g env = some (.nx env')) : sSeq g h env = h env' := by unfold sSeq; rw [hg]
/-- a while, worked out -/
def iterM {β : Type} (c : β → Bool) (step : β → Option β) : Nat → β → Option β
  | 0, _ => none
  | n + 1, b => if c b = true then (match step b with
    | some b' => iterM c step n b'
    | none => none) else some b
theorem sWhile_relM {β : Type} {t : Env → Option (R Bool)} {g : SF} {R : β → Env → Prop} {c : β → Bool} {step : β → Option β}
    (hc : ∀ b env, R b env → t env = some (.ok (c b) env)) (hs : ∀ b b' env, R b env → c b = true → step b = some b' → ∃ env', g env = some (.nx env') ∧ R b' env') :
    ∀ (n : Nat) (b b' : β) (env : Env), R b env → iterM c step n b = some b' → ∃ env', sWhile t g n env = some (.nx env') ∧ R b' env'
  | 0, b, b', env, r, e => by cases e
  | n + 1, b, b', env, r, e => by
    unfold iterM at e
    unfold sWhile
    rw [hc b env r]
    cases hcb : c b with
    | false =>
      rw [hcb] at e
      have e' : b = b' := by simpa using e
      subst e'
      exact ⟨env, rfl, r⟩
    | true =>
      rw [hcb, if_pos rfl] at e
      split at e
      · rename_i b1 e1
        obtain ⟨env1, e2, r2⟩ := hs b b1 env r hcb e1
        simp only [e2]
        exact sWhile_relM hc hs n b1 b' env1 r2 e
      · cases e
/-- a comprehension, worked out: what is kept of each item -/
def compN {α β : Type} (p : α → Option (Option β)) : List α → Option (List β)
  | [] => some []
  | x :: xs => match p x with
    | some (some y) => (match compN p xs with
      | some r => some (y :: r)
      | none => none)
    | some none => compN p xs
    | none => none
theorem sComp_run {α β : Type} {vs : List Nat} {tg : TgD} {t : Env → Option (R Bool)} {f : MF} {enc : α → D} {out : β → D} {p : α → Option (Option β)} {E : Env}
    (h0 : ∀ x, p x = some none → ∃ e1 e2, tg (enc x) E = some e1 ∧ t e1 = some (.ok false e2) ∧ hideE vs e2 = E)
    (h1 : ∀ x y, p x = some (some y) → ∃ e1 e2 e3, tg (enc x) E = some e1 ∧ t e1 = some (.ok true e2) ∧ f e2 = some (.ok (out y) e3) ∧ hideE vs e3 = E) :
    ∀ (xs : List α) (acc r : List β), compN p xs = some r → acc.length + xs.length < LIM → sComp vs tg t f (xs.map enc) (acc.map out) E = some ((acc ++ r).map out, E)
  | [], acc, r, e, _ => by
    have e' : ([] : List β) = r := by simpa [compN] using e
    subst e'
    rw [List.append_nil]
    rfl
  | x :: xs, acc, r, e, hl => by
    rw [List.length_cons] at hl
    unfold compN at e
    rw [List.map_cons]
    unfold sComp
    split at e
    · rename_i y ep
      split at e
      · rename_i r' er
        cases e
        obtain ⟨e1, e2, e3, q1, q2, q3, q4⟩ := h1 x y ep
        simp only [q1, q2, q3, q4]
        rw [if_pos (by rw [List.length_map]; omega)]
        have := sComp_run h0 h1 xs (acc ++ [y]) r' er (by rw [List.length_append, List.length_singleton]; omega)
        rw [List.map_append] at this
        rw [show (acc.map out ++ [out y]) = acc.map out ++ [y].map out from rfl, this]
        simp
      · cases e
    · rename_i ep
      obtain ⟨e1, e2, q1, q2, q4⟩ := h0 x ep
      simp only [q1, q2, q4]
      exact sComp_run h0 h1 xs acc r e (by omega)
    · cases e
theorem frz_thaw (s : Option Slot) : thawS false s (frzS s) = s := by
  cases s with
  | none => rfl
  | some s => obtain ⟨m, d⟩ := s; cases m <;> rfl
theorem comp_env (vs : List Nat) (env : Env) : thaw (chx (fun _ => false) vs env.length) env (unhideE vs env (hideE vs (frz (chx (fun _ => false) vs env.length) env))) = env := by
  apply List.ext_getElem?
  intro j
  unfold thaw unhideE hideE frz chx
  simp only [List.getElem?_mapIdx]
  cases e : env[j]? with
  | none => rfl
  | some s =>
    simp only [Option.map_some, Bool.false_and]
    by_cases hj : j ∈ vs
    · simp [hj, frz_thaw]
    · simp [hj, frz_thaw]
theorem mComp_run {α β : Type} {ch : Nat → Bool} {vs : List Nat} {i : Env → Option (List D)} {tg : TgD} {t : Env → Option (R Bool)} {f : MF} {enc : α → D} {out : β → D} {p : α → Option (Option β)} {env E : Env} {xs : List α} {r : List β} (hch : ch = fun _ => false) (hi : i (clr (chx ch vs env.length) env) = some (xs.map enc)) (hE : hideE vs (frz (chx ch vs env.length) env) = E)
    (h0 : ∀ x, p x = some none → ∃ e1 e2, tg (enc x) E = some e1 ∧ t e1 = some (.ok false e2) ∧ hideE vs e2 = E)
    (h1 : ∀ x y, p x = some (some y) → ∃ e1 e2 e3, tg (enc x) E = some e1 ∧ t e1 = some (.ok true e2) ∧ f e2 = some (.ok (out y) e3) ∧ hideE vs e3 = E)
    (e : compN p xs = some r) (hl : xs.length < LIM) : mComp ch vs i tg t f env = some (.ok (.lst (r.map out)) env) := by
  have := sComp_run h0 h1 xs [] r e (by simpa using hl)
  unfold mComp
  rw [hi]
  simp only [hE]
  rw [show ([] : List D) = ([] : List β).map out from rfl, this]
  simp only [List.nil_append]
  rw [← hE]
  subst hch
  rw [comp_env]
theorem chs_nil : chs [] = fun _ => false := rfl
theorem cut_to {α : Type} (f : α → D) (l : List α) (k : Nat) : cutD (l.map f) none (some (k : Int)) = (l.take k).map f := by
  unfold cutD
  rw [show HT.sIx (l.map f).length 0 none = 0 from rfl, List.drop_zero, Nat.sub_zero, HT.sIx_nat, List.length_map, ← List.map_take]
  congr 1
  rcases Nat.le_total k l.length with h | h
  · rw [Nat.min_eq_left h]
  · rw [Nat.min_eq_right h, List.take_length, List.take_of_length_le h]
/-- may be set -/
def npo : Option (Option Slot) → Bool
  | some (some ⟨.pin, _⟩) => false
  | _ => true
@[simp] theorem npo_out : npo none = true := rfl
@[simp] theorem npo_none : npo (some none) = true := rfl
@[simp] theorem npo_own (d : D) : npo (some (some ⟨.own, d⟩)) = true := rfl
@[simp] theorem npo_shr (d : D) : npo (some (some ⟨.shr, d⟩)) = true := rfl
@[simp] theorem npo_chg (d : D) : npo (some (some ⟨.chg, d⟩)) = true := rfl
theorem canSet_np (env : Env) (i : Nat) : canSet env i = (decide (i < env.length) && npo env[i]?) := rfl
/-! ### data told in Lean -/
class Enc (α : Type) [DecidableEq α] where
  enc : α → D
  lay : ∀ a, (toPy (enc a)).canLay0 = true
  eq : ∀ a b, eqD (enc a) (enc b) = decide (a = b)
  dp : Nat
  dple : ∀ a, (toPy (enc a)).depth ≤ dp
open Enc
instance : Enc Int where
  enc := .int
  lay _ := rfl
  eq a b := by unfold eqD toPy; simp only [PyData.eqv]; exact PySem.W.beq_decide a b
  dp := 0
  dple _ := Nat.le_refl _
section
variable {α β : Type} [DecidableEq α] [Enc α] [DecidableEq β] [Enc β]
theorem lay_all : ∀ l : List α, PyData.canLayAll0 ((l.map enc).map toPy) = true
  | [] => rfl
  | x :: l => by
    show (PyData.canLay0 (toPy (enc x)) && PyData.canLayAll0 ((l.map enc).map toPy)) = true
    rw [lay x, lay_all l]; rfl
theorem dp_all : ∀ l : List α, PyData.depthAll ((l.map enc).map toPy) ≤ dp α
  | [] => Nat.zero_le _
  | x :: l => by
    rw [List.map_cons, List.map_cons, PyData.depthAll]
    exact Nat.max_le.mpr ⟨dple x, dp_all l⟩
theorem eq_all : ∀ l m : List α, PyData.eqvAll ((l.map enc).map toPy) ((m.map enc).map toPy) = decide (l = m)
  | [], [] => by simp only [List.map_nil, PyData.eqvAll, decide_true]
  | [], _ :: _ => by simp [PyData.eqvAll]
  | _ :: _, [] => by simp [PyData.eqvAll]
  | x :: l, y :: m => by
    rw [List.map_cons, List.map_cons, List.map_cons, List.map_cons, PyData.eqvAll, show PyData.eqv (toPy (enc x)) (toPy (enc y)) = decide (x = y) from eq x y, eq_all l m, ← Bool.decide_and]
    exact decide_eq_decide.mpr (by rw [List.cons.injEq])
instance : Enc (List α) where
  enc l := .lst (l.map enc)
  lay l := by show PyData.canLay0 (.list (toPys (l.map enc))) = true; rw [toPys_map]; simp only [PyData.canLay0]; exact lay_all l
  eq l m := by show PyData.eqv (.list (toPys (l.map enc))) (.list (toPys (m.map enc))) = _; rw [toPys_map, toPys_map]; simp only [PyData.eqv]; exact eq_all l m
  dp := dp α + 1
  dple l := by show PyData.depth (.list (toPys (l.map enc))) ≤ _; rw [toPys_map]; simp only [PyData.depth]; exact Nat.succ_le_succ (dp_all l)
instance : Enc (α × β) where
  enc p := .tup [enc p.1, enc p.2]
  lay p := by show PyData.canLay0 (.tuple [toPy (enc p.1), toPy (enc p.2)]) = true; simp only [PyData.canLay0, PyData.canLayAll0, lay, Bool.and_self]
  eq p q := by
    show PyData.eqv (.tuple [toPy (enc p.1), toPy (enc p.2)]) (.tuple [toPy (enc q.1), toPy (enc q.2)]) = _
    simp only [PyData.eqv, PyData.eqvAll]
    rw [show PyData.eqv (toPy (enc p.1)) (toPy (enc q.1)) = decide (p.1 = q.1) from eq p.1 q.1, show PyData.eqv (toPy (enc p.2)) (toPy (enc q.2)) = decide (p.2 = q.2) from eq p.2 q.2, Bool.and_true, ← Bool.decide_and]
    exact decide_eq_decide.mpr ⟨fun e => Prod.ext e.1 e.2, fun e => by rw [e]; exact ⟨rfl, rfl⟩⟩
  dp := max (dp α) (dp β) + 1
  dple p := by
    show PyData.depth (.tuple [toPy (enc p.1), toPy (enc p.2)]) ≤ _
    simp only [PyData.depth, PyData.depthAll]
    exact Nat.succ_le_succ (Nat.max_le.mpr ⟨Nat.le_trans (dple p.1) (Nat.le_max_left _ _), Nat.max_le.mpr ⟨Nat.le_trans (dple p.2) (Nat.le_max_right _ _), Nat.zero_le _⟩⟩)
theorem gEq_enc {neg : Bool} {a b : α} (h : dp α ≤ 60) : gEq neg (enc a) (enc b) = some (.bl (if neg then !decide (a = b) else decide (a = b))) := by
  have h1 := Nat.le_trans (dple a) h
  unfold gEq eqOk
  rw [lay a, lay b, eq a b]
  simp [h1]
end
end DL


set_option Elab.async false
set_option linter.all false
set_option maxRecDepth 100000
set_option maxHeartbeats 0
/-! The defs of this law, read. -/
namespace DL
open PySem PySem.Spec PyProof.Rows L2
def top (i : Nat) : Stmt := PySem.Challenge.pw_swapweb_k16_fewest_of_short_orders.main.body.getD i (.Pass ⟨0, 0, 0, 0⟩)
section
variable {P : Program} {w : World} {K : PySem.W.Frag} {mg : Str → Option Value} {base : Heap}
def G_rounds_between : SF := sSeq (sSet 2 (mN (fC (.dic false [] []))))
    (sSeq (sFor (chs [2, 3, 4]) (asE (fCons (fVar 0) (fNil))) (tgT 2 (tgCons (tgN 3) (tgCons (tgN 4) (tgNil)))) (sDPut 2 (fVar 3) (mN (fMth "list" gIndex (fVar 1) (fCons (fVar 4) (fNil))))))
    (sSeq (sSet 5 (mN (fLstI (fNil))))
    (sSeq (sSet 6 (mN (fC (.dic false [] []))))
    (sSeq (sFor (chs [3, 5, 6, 7]) (asR1 (fCons (fL gLen (fCons (fVar 0) (fNil))) (fNil))) (tgN 3) (sSeq (sSet 7 (mN (fLstI (fNil))))
    (sSeq (sWhile (mT (fB (f2 (gDIn true) (fVar 3) (fVar 6)))) (sSeq (sDPut 6 (fVar 3) (mN (fC (.bl true))))
    (sSeq (sDrop (mMeth "list" hAppend 7 (aVa (mMove 3) (aNil))))
    (sSet 3 (mN (fImm (f2 gDGet (fVar 2) (fVar 3))))))) 2000)
    (sIf (mT (fB (f2 (gEq true) (fVar 7) (fLstI (fNil))))) (sDrop (mMeth "list" hAppend 5 (aVa (mMove 7) (aNil))))
    (sNx)))))
    (sRet (mMove 5))))))
def F_rounds_between : List D → Option (R D) := fnD [.shr, .shr] 8 G_rounds_between
theorem d_rounds_between{X : Cx} {W : WX} (h : BF X W P w K mg base ["one", "other", "to", "place", "mark", "found", "seen", "some"] (defScope (top 1)) 0) (m_enumerate : mg "enumerate" = none) (m_len : mg "len" = none) (m_range : mg "range" = none) : DSs X W (defBody (top 1)) G_rounds_between := by
  have n_one : Lc X 0 "one" := h.lc (by decide +kernel) (by decide +kernel)
  have n_other : Lc X 1 "other" := h.lc (by decide +kernel) (by decide +kernel)
  have n_to : Lc X 2 "to" := h.lc (by decide +kernel) (by decide +kernel)
  have n_place : Lc X 3 "place" := h.lc (by decide +kernel) (by decide +kernel)
  have n_mark : Lc X 4 "mark" := h.lc (by decide +kernel) (by decide +kernel)
  have n_found : Lc X 5 "found" := h.lc (by decide +kernel) (by decide +kernel)
  have n_seen : Lc X 6 "seen" := h.lc (by decide +kernel) (by decide +kernel)
  have n_some : Lc X 7 "some" := h.lc (by decide +kernel) (by decide +kernel)
  have g_enumerate : Gl X "enumerate" := h.gl (by decide +kernel)
  have b_enumerate : X.mg "enumerate" = none := h.toBX.mgn m_enumerate
  have g_len : Gl X "len" := h.gl (by decide +kernel)
  have b_len : X.mg "len" = none := h.toBX.mgn m_len
  have g_range : Gl X "range" := h.gl (by decide +kernel)
  have b_range : X.mg "range" = none := h.toBX.mgn m_range
  exact dss_cons (by exact n_to.set (dn_dnewK.dm))
    (dss_cons (ds_for (chs [2, 3, 4]) h.po h.calm (by exact di_enum g_enumerate b_enumerate (da_cons (n_one.dp) da_nil)) (by exact dg_tup h.calm (dgs_cons (n_place.dg) (dgs_cons (n_mark.dg) dgs_nil))) (dss_one (by exact n_to.dput h.u1 (n_place.dp) ((dn_index h.u65 (n_other.dp) (da_cons (n_mark.dp) da_nil)).dm))))
    (dss_cons (by exact n_found.set ((dn_lst da_nil).dm))
    (dss_cons (by exact n_seen.set (dn_dnewK.dm))
    (dss_cons (ds_for (chs [3, 5, 6, 7]) h.po h.calm (by exact di_range1 g_range b_range (da_cons ((dn_callB c_len call_len g_len b_len boot_len (da_cons (n_one.dp) da_nil)).dp) da_nil)) (by exact n_place.dg) (dss_cons (by exact n_some.set ((dn_lst da_nil).dm))
    (dss_cons (ds_while 2000 h.po (by exact (dt_dnotin h.u1 (n_place.dp) (n_seen.dp)).dmt) (dss_cons (by exact n_seen.dput h.u1 (n_place.dp) ((dn_bl).dm))
    (dss_cons (by exact ds_expr (n_some.toNm.append (dam_va (n_place.mv) dam_nil)))
    (dss_one (by exact n_place.set (((dp_dget h.u1 (n_to.dp) (n_place.dp)).dn).dm))))))
    (dss_one (ds_if (by exact (dt_cmp (o_eq (neg := true)) (op_neM h.u64) (n_some.dp) ((dn_lst da_nil).dp) (by rfl)).dmt) (dss_one (by exact ds_expr (n_found.toNm.append (dam_va (n_some.mv) dam_nil))))
    (dss_nil))))))
    (dss_one (by exact ds_ret (n_found.mv)))))))
theorem fn_rounds_between {f : Addr} {fd : FuncData} (F : FunD K "rounds_between" "rounds_between" (defArgs (top 1)) (defBody (top 1)) (defScope (top 1)) [] [] f fd) (hm : mg "rounds_between" = some (.ref f)) (m_enumerate : mg "enumerate" = none) (m_len : mg "len" = none) (m_range : mg "range" = none) : Fn P w K mg base 1 "rounds_between" [.shr, .shr] F_rounds_between :=
  fn_mk (N := ["one", "other", "to", "place", "mark", "found", "seen", "some"]) (ps := ["one", "other"]) F hm ⟨rfl, rfl, rfl, by decide +kernel, rfl, by decide +kernel, by decide +kernel⟩ rfl (by decide) (fun _ _ _ _ _ _ us hl => match us, hl with | [_, _], _ => rfl) (fun X W h => d_rounds_between h m_enumerate m_len m_range)

def G_fewest_by_all : SF := sSeq (sSet 2 (mN (fL gList (fCons (fVar 0) (fNil)))))
    (sSeq (sSet 3 (mN (fLstI (fNil))))
    (sSeq (sWhile (mT (fB (f2 (gEq true) (fVar 2) (fVar 1)))) (sSeq (sSet 4 (mComp (chs []) [7] (asL (fX (fCall F_rounds_between (fCons (fVar 2) (fCons (fVar 1) (fNil)))))) (tgN 7) (mT (fB (f2 gGt (fL gLen (fCons (fVar 7) (fNil))) (fC (.int 1))))) (mN (fL gSortI (fCons (fVar 7) (fNil))))))
    (sSeq (sAsg (mN (fSl (fL gMinLL (fCons (fVar 4) (fNil))) (oNone) (oSome (fC (.int 2))))) (toL 2 (toCons (toN 5) (toCons (toN 6) (toNil)))))
    (sSeq (sAsg (mTup (aVa (mN (fImm (f2 gIx (fVar 2) (fVar 6)))) (aVa (mN (fImm (f2 gIx (fVar 2) (fVar 5)))) (aNil)))) (toT 2 (toCons (toIx 2 (fVar 5)) (toCons (toIx 2 (fVar 6)) (toNil)))))
    (sDrop (mMeth "list" hAppend 3 (aVa (mTup (aVa (mMove 5) (aVa (mMove 6) (aNil)))) (aNil))))))) 2000)
    (sRet (mMove 3))))
def F_fewest_by_all : List D → Option (R D) := fnD [.shr, .shr] 8 G_fewest_by_all
theorem d_fewest_by_all{X : Cx} {W : WX} (h : BF X W P w K mg base ["one", "other", "order", "row", "wide", "first", "second", "some"] (defScope (top 2)) 1) (m_len : mg "len" = none) (m_list : mg "list" = none) (m_min : mg "min" = none) (m_sorted : mg "sorted" = none) (c_rounds_between : Fn P w K mg base 1 "rounds_between" [.shr, .shr] F_rounds_between) : DSs X W (defBody (top 2)) G_fewest_by_all := by
  have n_one : Lc X 0 "one" := h.lc (by decide +kernel) (by decide +kernel)
  have n_other : Lc X 1 "other" := h.lc (by decide +kernel) (by decide +kernel)
  have n_order : Lc X 2 "order" := h.lc (by decide +kernel) (by decide +kernel)
  have n_row : Lc X 3 "row" := h.lc (by decide +kernel) (by decide +kernel)
  have n_wide : Lc X 4 "wide" := h.lc (by decide +kernel) (by decide +kernel)
  have n_first : Lc X 5 "first" := h.lc (by decide +kernel) (by decide +kernel)
  have n_second : Lc X 6 "second" := h.lc (by decide +kernel) (by decide +kernel)
  have g_list : Gl X "list" := h.gl (by decide +kernel)
  have b_list : X.mg "list" = none := h.toBX.mgn m_list
  have g_min : Gl X "min" := h.gl (by decide +kernel)
  have b_min : X.mg "min" = none := h.toBX.mgn m_min
  exact dss_cons (by exact n_order.set ((dn_callTy c_list call_list_of g_list b_list boot_list (da_cons (n_one.dp) da_nil)).dm))
    (dss_cons (by exact n_row.set ((dn_lst da_nil).dm))
    (dss_cons (ds_while 2000 h.po (by exact (dt_cmp (o_eq (neg := true)) (op_neM h.u64) (n_order.dp) (n_other.dp) (by rfl)).dmt) (dss_cons (by exact ds_setLc (y := "wide") (j := 4)  (own := [("some", 7)]) (chs []) h.toBX (by decide +kernel) (by decide +kernel) (h.toBX.sw true (by decide +kernel)) (di_list (((dx_call c_rounds_between h.toBX (by decide) (glB_of (by decide +kernel)) (da_cons (n_order.dp) (da_cons (n_other.dp) da_nil))).dn).dp)) (by decide +kernel) (by decide) (fun X' h' => have n_some : Lc X' 7 "some" := h'.lcl (by decide +kernel) (by decide +kernel); n_some.dg) (fun X' h' => have n_some : Lc X' 7 "some" := h'.lcl (by decide +kernel) (by decide +kernel); have g_len : Gl X' "len" := h'.gl (by decide +kernel); have b_len : X'.mg "len" = none := h'.mgn m_len; dts_one (dt_cmp o_gt op_gt ((dn_callB c_len call_len g_len b_len boot_len (da_cons (n_some.dp) da_nil)).dp) ((dn_int).dp) (by rfl)).dmt) (fun X' h' => have n_some : Lc X' 7 "some" := h'.lcl (by decide +kernel) (by decide +kernel); have g_sorted : Gl X' "sorted" := h'.gl (by decide +kernel); have b_sorted : X'.mg "sorted" = none := h'.mgn m_sorted; (dn_callB c_sortI cr_sortedI g_sorted b_sorted boot_sorted (da_cons (n_some.dp) da_nil)).dm))
    (dss_cons (by exact ds_asg ((dn_slice (dp_callB c_minLL (cr_minLL h.calm h.u65) g_min b_min boot_min (da_cons (n_wide.dp) da_nil)) dpo_none (dpo_some ((dn_int).dp))).dm) (do_unl h.calm (fun _ ht => pg_unl h.calm ht) (dos_cons (n_first.dto) (dos_cons (n_second.dto) dos_nil))))
    (dss_cons (by exact ds_asg (dm_tup (dam_va (((dp_ix (n_order.dp) (n_second.dp)).dn).dm) (dam_va (((dp_ix (n_order.dp) (n_first.dp)).dn).dm) dam_nil))) (do_tup h.calm (dos_cons (n_order.ixo (n_first.dp)) (dos_cons (n_order.ixo (n_second.dp)) dos_nil))) (hw := swapped_sub2))
    (dss_one (by exact ds_expr (n_row.toNm.append (dam_va (dm_tup (dam_va (n_first.mv) (dam_va (n_second.mv) dam_nil))) dam_nil))))))))
    (dss_one (by exact ds_ret (n_row.mv)))))
theorem fn_fewest_by_all {f : Addr} {fd : FuncData} (F : FunD K "fewest_by_all" "fewest_by_all" (defArgs (top 2)) (defBody (top 2)) (defScope (top 2)) [] [] f fd) (hm : mg "fewest_by_all" = some (.ref f)) (m_len : mg "len" = none) (m_list : mg "list" = none) (m_min : mg "min" = none) (m_sorted : mg "sorted" = none) (c_rounds_between : Fn P w K mg base 1 "rounds_between" [.shr, .shr] F_rounds_between) : Fn P w K mg base 2 "fewest_by_all" [.shr, .shr] F_fewest_by_all :=
  fn_mk (N := ["one", "other", "order", "row", "wide", "first", "second", "some"]) (ps := ["one", "other"]) F hm ⟨rfl, rfl, rfl, by decide +kernel, rfl, by decide +kernel, by decide +kernel⟩ rfl (by decide) (fun _ _ _ _ _ _ us hl => match us, hl with | [_, _], _ => rfl) (fun X W h => d_fewest_by_all h m_len m_list m_min m_sorted c_rounds_between)

def G_is_even : SF := sRet (mN (f2 (gEq false) (f2 gMod (f2 gSub (fL gLen (fCons (fVar 0) (fNil))) (fL gLen (fCons (fX (fCall F_rounds_between (fCons (fVar 0) (fCons (fVar 1) (fNil))))) (fNil)))) (fC (.int 2))) (fC (.int 0))))
def F_is_even : List D → Option (R D) := fnD [.shr, .shr] 2 G_is_even
theorem d_is_even{X : Cx} {W : WX} (h : BF X W P w K mg base ["one", "other"] (defScope (top 3)) 1) (m_len : mg "len" = none) (c_rounds_between : Fn P w K mg base 1 "rounds_between" [.shr, .shr] F_rounds_between) : DSs X W (defBody (top 3)) G_is_even := by
  have n_one : Lc X 0 "one" := h.lc (by decide +kernel) (by decide +kernel)
  have n_other : Lc X 1 "other" := h.lc (by decide +kernel) (by decide +kernel)
  have g_len : Gl X "len" := h.gl (by decide +kernel)
  have b_len : X.mg "len" = none := h.toBX.mgn m_len
  exact dss_one (by exact ds_ret ((dn_cmp (o_eq (neg := false)) (op_eqM h.u64) ((dn_bin o_mod op_mod ((dn_bin o_sub op_sub ((dn_callB c_len call_len g_len b_len boot_len (da_cons (n_one.dp) da_nil)).dp) ((dn_callB c_len call_len g_len b_len boot_len (da_cons (((dx_call c_rounds_between h.toBX (by decide) (glB_of (by decide +kernel)) (da_cons (n_one.dp) (da_cons (n_other.dp) da_nil))).dn).dp) da_nil)).dp)).dp) ((dn_int).dp)).dp) ((dn_int).dp) (by rfl)).dm))
theorem fn_is_even {f : Addr} {fd : FuncData} (F : FunD K "is_even" "is_even" (defArgs (top 3)) (defBody (top 3)) (defScope (top 3)) [] [] f fd) (hm : mg "is_even" = some (.ref f)) (m_len : mg "len" = none) (c_rounds_between : Fn P w K mg base 1 "rounds_between" [.shr, .shr] F_rounds_between) : Fn P w K mg base 2 "is_even" [.shr, .shr] F_is_even :=
  fn_mk (N := ["one", "other"]) (ps := ["one", "other"]) F hm ⟨rfl, rfl, rfl, by decide +kernel, rfl, by decide +kernel, by decide +kernel⟩ rfl (by decide) (fun _ _ _ _ _ _ us hl => match us, hl with | [_, _], _ => rfl) (fun X W h => d_is_even h m_len c_rounds_between)

def G_fewest_by_neighbours : SF := sSeq (sSet 2 (mComp (chs []) [5] (asL (fVar 0)) (tgN 5) (tYesD) (mN (fMth "list" gIndex (fVar 1) (fCons (fVar 5) (fNil))))))
    (sSeq (sSet 3 (mN (fLstI (fNil))))
    (sSeq (sSet 4 (mN (fC (.int 0))))
    (sSeq (sWhile (mT (fB (f2 gLt (f2 gAdd (fVar 4) (fC (.int 1))) (fL gLen (fCons (fVar 2) (fNil)))))) (sIf (mT (fB (f2 gGt (f2 gIx (fVar 2) (fVar 4)) (f2 gIx (fVar 2) (f2 gAdd (fVar 4) (fC (.int 1))))))) (sSeq (sAsg (mTup (aVa (mN (fImm (f2 gIx (fVar 2) (f2 gAdd (fVar 4) (fC (.int 1)))))) (aVa (mN (fImm (f2 gIx (fVar 2) (fVar 4)))) (aNil)))) (toT 2 (toCons (toIx 2 (fVar 4)) (toCons (toIx 2 (f2 gAdd (fVar 4) (fC (.int 1)))) (toNil)))))
    (sSeq (sDrop (mMeth "list" hAppend 3 (aVa (mTup (aVa (mMove 4) (aVa (mN (f2 gAdd (fVar 4) (fC (.int 1)))) (aNil)))) (aNil))))
    (sSet 4 (mN (fL gMax2 (fCons (fC (.int 0)) (fCons (f2 gSub (fVar 4) (fC (.int 1))) (fNil))))))))
    (sAug 4 (fun i j => i + j) (mN (fC (.int 1))))) 2000)
    (sRet (mMove 3)))))
def F_fewest_by_neighbours : List D → Option (R D) := fnD [.shr, .shr] 6 G_fewest_by_neighbours
theorem d_fewest_by_neighbours{X : Cx} {W : WX} (h : BF X W P w K mg base ["one", "other", "goals", "row", "place", "mark"] (defScope (top 4)) 0) (m_len : mg "len" = none) (m_max : mg "max" = none) : DSs X W (defBody (top 4)) G_fewest_by_neighbours := by
  have n_one : Lc X 0 "one" := h.lc (by decide +kernel) (by decide +kernel)
  have n_goals : Lc X 2 "goals" := h.lc (by decide +kernel) (by decide +kernel)
  have n_row : Lc X 3 "row" := h.lc (by decide +kernel) (by decide +kernel)
  have n_place : Lc X 4 "place" := h.lc (by decide +kernel) (by decide +kernel)
  have g_len : Gl X "len" := h.gl (by decide +kernel)
  have b_len : X.mg "len" = none := h.toBX.mgn m_len
  have g_max : Gl X "max" := h.gl (by decide +kernel)
  have b_max : X.mg "max" = none := h.toBX.mgn m_max
  exact dss_cons (by exact ds_setLc (y := "goals") (j := 2)  (own := [("mark", 5)]) (chs []) h.toBX (by decide +kernel) (by decide +kernel) (h.toBX.sw true (by decide +kernel)) (di_list (n_one.dp)) (by decide +kernel) (by decide) (fun X' h' => have n_mark : Lc X' 5 "mark" := h'.lcl (by decide +kernel) (by decide +kernel); n_mark.dg) (fun X' h' => dts_nil) (fun X' h' => have n_other : Nm X' 1 "other" := h'.nm (by decide +kernel); have n_mark : Lc X' 5 "mark" := h'.lcl (by decide +kernel) (by decide +kernel); (dn_index h'.u65 (n_other.dp) (da_cons (n_mark.dp) da_nil)).dm))
    (dss_cons (by exact n_row.set ((dn_lst da_nil).dm))
    (dss_cons (by exact n_place.set ((dn_int).dm))
    (dss_cons (ds_while 2000 h.po (by exact (dt_cmp o_lt op_lt ((dn_bin o_add op_add3 (n_place.dp) ((dn_int).dp)).dp) ((dn_callB c_len call_len g_len b_len boot_len (da_cons (n_goals.dp) da_nil)).dp) (by rfl)).dmt) (dss_one (ds_if (by exact (dt_cmp o_gt op_gt (dp_ix (n_goals.dp) (n_place.dp)) (dp_ix (n_goals.dp) ((dn_bin o_add op_add3 (n_place.dp) ((dn_int).dp)).dp)) (by rfl)).dmt) (dss_cons (by exact ds_asg (dm_tup (dam_va (((dp_ix (n_goals.dp) ((dn_bin o_add op_add3 (n_place.dp) ((dn_int).dp)).dp)).dn).dm) (dam_va (((dp_ix (n_goals.dp) (n_place.dp)).dn).dm) dam_nil))) (do_tup h.calm (dos_cons (n_goals.ixo (n_place.dp)) (dos_cons (n_goals.ixo ((dn_bin o_add op_add3 (n_place.dp) ((dn_int).dp)).dp)) dos_nil))) (hw := swapped_sub2))
    (dss_cons (by exact ds_expr (n_row.toNm.append (dam_va (dm_tup (dam_va (n_place.mv) (dam_va ((dn_bin o_add op_add3 (n_place.dp) ((dn_int).dp)).dm) dam_nil))) dam_nil)))
    (dss_one (by exact n_place.set ((dn_callB c_max2 (call_max2 h.calm) g_max b_max boot_max (da_cons ((dn_int).dp) (da_cons ((dn_bin o_sub op_sub (n_place.dp) ((dn_int).dp)).dp) da_nil))).dm)))))
    (dss_one (by exact n_place.aug ((dn_int).dm) ip_add)))))
    (dss_one (by exact ds_ret (n_row.mv))))))
theorem fn_fewest_by_neighbours {f : Addr} {fd : FuncData} (F : FunD K "fewest_by_neighbours" "fewest_by_neighbours" (defArgs (top 4)) (defBody (top 4)) (defScope (top 4)) [] [] f fd) (hm : mg "fewest_by_neighbours" = some (.ref f)) (m_len : mg "len" = none) (m_max : mg "max" = none) : Fn P w K mg base 1 "fewest_by_neighbours" [.shr, .shr] F_fewest_by_neighbours :=
  fn_mk (N := ["one", "other", "goals", "row", "place", "mark"]) (ps := ["one", "other"]) F hm ⟨rfl, rfl, rfl, by decide +kernel, rfl, by decide +kernel, by decide +kernel⟩ rfl (by decide) (fun _ _ _ _ _ _ us hl => match us, hl with | [_, _], _ => rfl) (fun X W h => d_fewest_by_neighbours h m_len m_max)

def G_law_hand : SF := sSeq (sSet 2 (mN (fC (.int 0))))
    (sSeq (sIf (mT (fB (f2 gGe (fVar 0) (f2 gPow (fC (.int 10)) (fC (.int 18)))))) (sSet 2 (mMove 0))
    (sNx))
    (sRet (mLst (aVa (mMove 2) (aVa (mN (f2 gMod (f2 gMul (f2 gAdd (f2 gAdd (f2 gMod (fVar 0) (fC (.int 2147483587))) (f2 gMul (fC (.int 7919)) (fVar 1))) (fC (.int 1))) (fC (.int 48271))) (fC (.int 2147483587)))) (aNil))))))
def F_law_hand : List D → Option (R D) := fnD [.shr, .shr] 3 G_law_hand
theorem d_law_hand{X : Cx} {W : WX} (h : BF X W P w K mg base ["cell", "k", "digits"] (defScope (top 6)) 0) : DSs X W (defBody (top 6)) G_law_hand := by
  have n_cell : Lc X 0 "cell" := h.lc (by decide +kernel) (by decide +kernel)
  have n_k : Lc X 1 "k" := h.lc (by decide +kernel) (by decide +kernel)
  have n_digits : Lc X 2 "digits" := h.lc (by decide +kernel) (by decide +kernel)
  exact dss_cons (by exact n_digits.set ((dn_int).dm))
    (dss_cons (ds_if (by exact (dt_cmp o_ge op_ge (n_cell.dp) ((dn_bin o_pow op_pow ((dn_int).dp) ((dn_int).dp)).dp) (by rfl)).dmt) (dss_one (by exact n_digits.set (n_cell.mv)))
    (dss_nil))
    (dss_one (by exact ds_ret (dm_lst (dam_va (n_digits.mv) (dam_va ((dn_bin o_mod op_mod ((dn_bin o_mul op_mulW ((dn_bin o_add op_add3 ((dn_bin o_add op_add3 ((dn_bin o_mod op_mod (n_cell.dp) ((dn_int).dp)).dp) ((dn_bin o_mul op_mulW ((dn_int).dp) (n_k.dp)).dp)).dp) ((dn_int).dp)).dp) ((dn_int).dp)).dp) ((dn_int).dp)).dm) dam_nil))))))
theorem fn_law_hand {f : Addr} {fd : FuncData} (F : FunD K "_law_hand" "_law_hand" (defArgs (top 6)) (defBody (top 6)) (defScope (top 6)) [] [] f fd) (hm : mg "_law_hand" = some (.ref f)) : Fn P w K mg base 1 "_law_hand" [.shr, .shr] F_law_hand :=
  fn_mk (N := ["cell", "k", "digits"]) (ps := ["cell", "k"]) F hm ⟨rfl, rfl, rfl, by decide +kernel, rfl, by decide +kernel, by decide +kernel⟩ rfl (by decide) (fun _ _ _ _ _ _ us hl => match us, hl with | [_, _], _ => rfl) (fun X W h => d_law_hand h)

def G_law_draw : SF := sSeq (sIf (mT (fB (f2 gGt (f2 gIx (fVar 0) (fC (.int 0))) (fC (.int 0))))) (sSeq (sSet 2 (mN (f2 gMod (f2 gIx (fVar 0) (fC (.int 0))) (fVar 1))))
    (sSeq (sAsg (mN (f2 gDiv (f2 gIx (fVar 0) (fC (.int 0))) (fVar 1))) (toIx 0 (fC (.int 0))))
    (sRet (mMove 2))))
    (sNx))
    (sSeq (sAsg (mN (f2 gMod (f2 gAdd (f2 gAdd (f2 gMul (f2 gIx (fVar 0) (fC (.int 1))) (f2 gIx (fVar 0) (fC (.int 1)))) (f2 gMul (fC (.int 69621)) (f2 gIx (fVar 0) (fC (.int 1))))) (fC (.int 12345))) (fC (.int 2147483587)))) (toIx 0 (fC (.int 1))))
    (sRet (mN (f2 gMod (f2 gDiv (f2 gIx (fVar 0) (fC (.int 1))) (fC (.int 8))) (fVar 1)))))
def F_law_draw : List D → Option (R D) := fnD [.chg, .shr] 3 G_law_draw
theorem d_law_draw{X : Cx} {W : WX} (h : BF X W P w K mg base ["hand", "limit", "got"] (defScope (top 7)) 0) : DSs X W (defBody (top 7)) G_law_draw := by
  have n_hand : Lc X 0 "hand" := h.lc (by decide +kernel) (by decide +kernel)
  have n_limit : Lc X 1 "limit" := h.lc (by decide +kernel) (by decide +kernel)
  have n_got : Lc X 2 "got" := h.lc (by decide +kernel) (by decide +kernel)
  exact dss_cons (ds_if (by exact (dt_cmp o_gt op_gt (dp_ix (n_hand.dp) ((dn_int).dp)) ((dn_int).dp) (by rfl)).dmt) (dss_cons (by exact n_got.set ((dn_bin o_mod op_mod (dp_ix (n_hand.dp) ((dn_int).dp)) (n_limit.dp)).dm))
    (dss_cons (by exact ds_asg ((dn_bin o_div op_fdivW (dp_ix (n_hand.dp) ((dn_int).dp)) (n_limit.dp)).dm) (n_hand.ixo ((dn_int).dp)))
    (dss_one (by exact ds_ret (n_got.mv)))))
    (dss_nil))
    (dss_cons (by exact ds_asg ((dn_bin o_mod op_mod ((dn_bin o_add op_add3 ((dn_bin o_add op_add3 ((dn_bin o_mul op_mulW (dp_ix (n_hand.dp) ((dn_int).dp)) (dp_ix (n_hand.dp) ((dn_int).dp))).dp) ((dn_bin o_mul op_mulW ((dn_int).dp) (dp_ix (n_hand.dp) ((dn_int).dp))).dp)).dp) ((dn_int).dp)).dp) ((dn_int).dp)).dm) (n_hand.ixo ((dn_int).dp)))
    (dss_one (by exact ds_ret ((dn_bin o_mod op_mod ((dn_bin o_div op_fdivW (dp_ix (n_hand.dp) ((dn_int).dp)) ((dn_int).dp)).dp) (n_limit.dp)).dm))))
theorem fn_law_draw {f : Addr} {fd : FuncData} (F : FunD K "_law_draw" "_law_draw" (defArgs (top 7)) (defBody (top 7)) (defScope (top 7)) [] [] f fd) (hm : mg "_law_draw" = some (.ref f)) : Fn P w K mg base 1 "_law_draw" [.chg, .shr] F_law_draw :=
  fn_mk (N := ["hand", "limit", "got"]) (ps := ["hand", "limit"]) F hm ⟨rfl, rfl, rfl, by decide +kernel, rfl, by decide +kernel, by decide +kernel⟩ rfl (by decide) (fun _ _ _ _ _ _ us hl => match us, hl with | [_, _], _ => rfl) (fun X W h => d_law_draw h)

def G_law_cells : SF := sRet (mN (fL gEnumL (fCons (f2 gAdd (fSl (fVar 0) (oNone) (oSome (fVar 1))) (f2 gRep (fLstI (fCons (fC (.int 0)) (fNil))) (fL gInt (fCons (f2 (gEq false) (fVar 0) (fLstI (fNil))) (fNil))))) (fNil))))
def F_law_cells : List D → Option (R D) := fnD [.shr, .shr] 2 G_law_cells
theorem d_law_cells{X : Cx} {W : WX} (h : BF X W P w K mg base ["script", "many"] (defScope (top 8)) 0) (m_enumerate : mg "enumerate" = none) (m_int : mg "int" = none) (m_list : mg "list" = none) : DSs X W (defBody (top 8)) G_law_cells := by
  have n_script : Lc X 0 "script" := h.lc (by decide +kernel) (by decide +kernel)
  have n_many : Lc X 1 "many" := h.lc (by decide +kernel) (by decide +kernel)
  have g_enumerate : Gl X "enumerate" := h.gl (by decide +kernel)
  have b_enumerate : X.mg "enumerate" = none := h.toBX.mgn m_enumerate
  have g_int : Gl X "int" := h.gl (by decide +kernel)
  have b_int : X.mg "int" = none := h.toBX.mgn m_int
  have g_list : Gl X "list" := h.gl (by decide +kernel)
  have b_list : X.mg "list" = none := h.toBX.mgn m_list
  exact dss_one (by exact ds_ret ((dn_listEnum h.calm g_list b_list g_enumerate b_enumerate (da_cons ((dn_bin o_add op_add3 ((dn_slice (n_script.dp) dpo_none (dpo_some (n_many.dp))).dp) ((dn_rep (dn_lst (da_cons ((dn_int).dp) da_nil)) ((dn_callTy c_int call_int1 g_int b_int boot_int (da_cons ((dn_cmp (o_eq (neg := false)) (op_eqM h.u64) (n_script.dp) ((dn_lst da_nil).dp) (by rfl)).dp) da_nil)).dp)).dp)).dp) da_nil)).dm))
theorem fn_law_cells {f : Addr} {fd : FuncData} (F : FunD K "_law_cells" "_law_cells" (defArgs (top 8)) (defBody (top 8)) (defScope (top 8)) [] [] f fd) (hm : mg "_law_cells" = some (.ref f)) (m_enumerate : mg "enumerate" = none) (m_int : mg "int" = none) (m_list : mg "list" = none) : Fn P w K mg base 1 "_law_cells" [.shr, .shr] F_law_cells :=
  fn_mk (N := ["script", "many"]) (ps := ["script", "many"]) F hm ⟨rfl, rfl, rfl, by decide +kernel, rfl, by decide +kernel, by decide +kernel⟩ rfl (by decide) (fun _ _ _ _ _ _ us hl => match us, hl with | [_, _], _ => rfl) (fun X W h => d_law_cells h m_enumerate m_int m_list)

def G_law_called : SF := sSeq (sSet 2 (mN (fLstI (fNil))))
    (sSeq (sFor (chs [0, 2, 3]) (asR1 (fCons (fVar 1) (fNil))) (tgN 3) (sDrop (mMeth "list" hInsert 2 (aVa (mCall [.chg, .shr] F_law_draw (aNm 0 (aVa (mN (f2 gAdd (fVar 3) (fC (.int 1)))) (aNil)))) (aVa (mMove 3) (aNil))))))
    (sRet (mMove 2)))
def F_law_called : List D → Option (R D) := fnD [.chg, .shr] 4 G_law_called
theorem d_law_called{X : Cx} {W : WX} (h : BF X W P w K mg base ["hand", "many", "found", "place"] (defScope (top 9)) 1) (m_range : mg "range" = none) (c_law_draw : Fn P w K mg base 1 "_law_draw" [.chg, .shr] F_law_draw) : DSs X W (defBody (top 9)) G_law_called := by
  have n_hand : Lc X 0 "hand" := h.lc (by decide +kernel) (by decide +kernel)
  have n_many : Lc X 1 "many" := h.lc (by decide +kernel) (by decide +kernel)
  have n_found : Lc X 2 "found" := h.lc (by decide +kernel) (by decide +kernel)
  have n_place : Lc X 3 "place" := h.lc (by decide +kernel) (by decide +kernel)
  have g_range : Gl X "range" := h.gl (by decide +kernel)
  have b_range : X.mg "range" = none := h.toBX.mgn m_range
  exact dss_cons (by exact n_found.set ((dn_lst da_nil).dm))
    (dss_cons (ds_for (chs [0, 2, 3]) h.po h.calm (by exact di_range1 g_range b_range (da_cons (n_many.dp) da_nil)) (by exact n_place.dg) (dss_one (by exact ds_expr (n_found.toNm.insert (dam_va (dm_call c_law_draw h.toBX (by decide) (glB_of (by decide +kernel)) (n_hand.toNm.nm (dam_va ((dn_bin o_add op_add3 (n_place.dp) ((dn_int).dp)).dm) dam_nil))) (dam_va (n_place.mv) dam_nil))))))
    (dss_one (by exact ds_ret (n_found.mv))))
theorem fn_law_called {f : Addr} {fd : FuncData} (F : FunD K "_law_called" "_law_called" (defArgs (top 9)) (defBody (top 9)) (defScope (top 9)) [] [] f fd) (hm : mg "_law_called" = some (.ref f)) (m_range : mg "range" = none) (c_law_draw : Fn P w K mg base 1 "_law_draw" [.chg, .shr] F_law_draw) : Fn P w K mg base 2 "_law_called" [.chg, .shr] F_law_called :=
  fn_mk (N := ["hand", "many", "found", "place"]) (ps := ["hand", "many"]) F hm ⟨rfl, rfl, rfl, by decide +kernel, rfl, by decide +kernel, by decide +kernel⟩ rfl (by decide) (fun _ _ _ _ _ _ us hl => match us, hl with | [_, _], _ => rfl) (fun X W h => d_law_called h m_range c_law_draw)

def G_law_order : SF := sSeq (sSet 2 (mCall [.chg, .shr] F_law_draw (aNm 0 (aVa (mN (fC (.int 6))) (aNil)))))
    (sSeq (sSet 3 (mN (fLR1 (fVar 1))))
    (sSeq (sIf (mT (fB (f2 (gEq false) (fVar 2) (fC (.int 0))))) (sSet 3 (mN (f1 gRev (fVar 3))))
    (sNx))
    (sSeq (sIf (mT (fB (f2 (gEq false) (fVar 2) (fC (.int 1))))) (sSeq (sSet 4 (mCall [.chg, .shr] F_law_draw (aNm 0 (aVa (mN (f2 gAdd (fVar 1) (fC (.int 1)))) (aNil)))))
    (sSet 3 (mN (f2 gAdd (fSl (fVar 3) (oSome (fVar 4)) (oNone)) (fSl (fVar 3) (oNone) (oSome (fVar 4)))))))
    (sNx))
    (sSeq (sIf (mT (fB (f2 gGt (fVar 2) (fC (.int 2))))) (sSet 3 (mCall [.chg, .shr] F_law_called (aNm 0 (aNm 1 (aNil)))))
    (sNx))
    (sSeq (sFor (chs [0, 3, 5, 6, 7]) (asR1 (fCons (f2 gMul (fC (.int 2)) (fL gInt (fCons (fV (fAnd (fB (f2 (gEq false) (fVar 2) (fC (.int 2)))) (fB (f2 gGt (fVar 1) (fC (.int 1)))))) (fNil)))) (fNil))) (tgN 5) (sSeq (sSet 6 (mCall [.chg, .shr] F_law_draw (aNm 0 (aNm 1 (aNil)))))
    (sSeq (sSet 7 (mCall [.chg, .shr] F_law_draw (aNm 0 (aNm 1 (aNil)))))
    (sAsg (mTup (aVa (mN (fImm (f2 gIx (fVar 3) (fVar 7)))) (aVa (mN (fImm (f2 gIx (fVar 3) (fVar 6)))) (aNil)))) (toT 2 (toCons (toIx 3 (fVar 6)) (toCons (toIx 3 (fVar 7)) (toNil))))))))
    (sRet (mMove 3)))))))
def F_law_order : List D → Option (R D) := fnD [.chg, .shr] 8 G_law_order
theorem d_law_order{X : Cx} {W : WX} (h : BF X W P w K mg base ["hand", "many", "kind", "found", "by", "turn", "at", "to"] (defScope (top 10)) 2) (m_int : mg "int" = none) (m_list : mg "list" = none) (m_range : mg "range" = none) (c_law_draw : Fn P w K mg base 1 "_law_draw" [.chg, .shr] F_law_draw) (c_law_called : Fn P w K mg base 2 "_law_called" [.chg, .shr] F_law_called) : DSs X W (defBody (top 10)) G_law_order := by
  have n_hand : Lc X 0 "hand" := h.lc (by decide +kernel) (by decide +kernel)
  have n_many : Lc X 1 "many" := h.lc (by decide +kernel) (by decide +kernel)
  have n_kind : Lc X 2 "kind" := h.lc (by decide +kernel) (by decide +kernel)
  have n_found : Lc X 3 "found" := h.lc (by decide +kernel) (by decide +kernel)
  have n_by : Lc X 4 "by" := h.lc (by decide +kernel) (by decide +kernel)
  have n_turn : Lc X 5 "turn" := h.lc (by decide +kernel) (by decide +kernel)
  have n_at : Lc X 6 "at" := h.lc (by decide +kernel) (by decide +kernel)
  have n_to : Lc X 7 "to" := h.lc (by decide +kernel) (by decide +kernel)
  have g_int : Gl X "int" := h.gl (by decide +kernel)
  have b_int : X.mg "int" = none := h.toBX.mgn m_int
  have g_list : Gl X "list" := h.gl (by decide +kernel)
  have b_list : X.mg "list" = none := h.toBX.mgn m_list
  have g_range : Gl X "range" := h.gl (by decide +kernel)
  have b_range : X.mg "range" = none := h.toBX.mgn m_range
  exact dss_cons (by exact n_kind.set (dm_call c_law_draw h.toBX (by decide) (glB_of (by decide +kernel)) (n_hand.toNm.nm (dam_va ((dn_int).dm) dam_nil))))
    (dss_cons (by exact n_found.set ((dn_listR1 h.calm g_list b_list g_range b_range (n_many.dp)).dm))
    (dss_cons (ds_if (by exact (dt_cmp (o_eq (neg := false)) (op_eqM h.u64) (n_kind.dp) ((dn_int).dp) (by rfl)).dmt) (dss_one (by exact n_found.set ((dn_rev (n_found.dp)).dm)))
    (dss_nil))
    (dss_cons (ds_if (by exact (dt_cmp (o_eq (neg := false)) (op_eqM h.u64) (n_kind.dp) ((dn_int).dp) (by rfl)).dmt) (dss_cons (by exact n_by.set (dm_call c_law_draw h.toBX (by decide) (glB_of (by decide +kernel)) (n_hand.toNm.nm (dam_va ((dn_bin o_add op_add3 (n_many.dp) ((dn_int).dp)).dm) dam_nil))))
    (dss_one (by exact n_found.set ((dn_bin o_add op_add3 ((dn_slice (n_found.dp) (dpo_some (n_by.dp)) dpo_none).dp) ((dn_slice (n_found.dp) dpo_none (dpo_some (n_by.dp))).dp)).dm))))
    (dss_nil))
    (dss_cons (ds_if (by exact (dt_cmp o_gt op_gt (n_kind.dp) ((dn_int).dp) (by rfl)).dmt) (dss_one (by exact n_found.set (dm_call c_law_called h.toBX (by decide) (glB_of (by decide +kernel)) (n_hand.toNm.nm (n_many.toNm.nm dam_nil)))))
    (dss_nil))
    (dss_cons (ds_for (chs [0, 3, 5, 6, 7]) h.po h.calm (by exact di_range1 g_range b_range (da_cons ((dn_bin o_mul op_mulW ((dn_int).dp) ((dn_callTy c_int call_int1 g_int b_int boot_int (da_cons ((dn_and ((dn_cmp (o_eq (neg := false)) (op_eqM h.u64) (n_kind.dp) ((dn_int).dp) (by rfl)).fv) (dn_one ((dn_cmp o_gt op_gt (n_many.dp) ((dn_int).dp) (by rfl)).fv))).dp) da_nil)).dp)).dp) da_nil)) (by exact n_turn.dg) (dss_cons (by exact n_at.set (dm_call c_law_draw h.toBX (by decide) (glB_of (by decide +kernel)) (n_hand.toNm.nm (n_many.toNm.nm dam_nil))))
    (dss_cons (by exact n_to.set (dm_call c_law_draw h.toBX (by decide) (glB_of (by decide +kernel)) (n_hand.toNm.nm (n_many.toNm.nm dam_nil))))
    (dss_one (by exact ds_asg (dm_tup (dam_va (((dp_ix (n_found.dp) (n_to.dp)).dn).dm) (dam_va (((dp_ix (n_found.dp) (n_at.dp)).dn).dm) dam_nil))) (do_tup h.calm (dos_cons (n_found.ixo (n_at.dp)) (dos_cons (n_found.ixo (n_to.dp)) dos_nil))) (hw := swapped_sub2))))))
    (dss_one (by exact ds_ret (n_found.mv))))))))
theorem fn_law_order {f : Addr} {fd : FuncData} (F : FunD K "_law_order" "_law_order" (defArgs (top 10)) (defBody (top 10)) (defScope (top 10)) [] [] f fd) (hm : mg "_law_order" = some (.ref f)) (m_int : mg "int" = none) (m_list : mg "list" = none) (m_range : mg "range" = none) (c_law_draw : Fn P w K mg base 1 "_law_draw" [.chg, .shr] F_law_draw) (c_law_called : Fn P w K mg base 2 "_law_called" [.chg, .shr] F_law_called) : Fn P w K mg base 3 "_law_order" [.chg, .shr] F_law_order :=
  fn_mk (N := ["hand", "many", "kind", "found", "by", "turn", "at", "to"]) (ps := ["hand", "many"]) F hm ⟨rfl, rfl, rfl, by decide +kernel, rfl, by decide +kernel, by decide +kernel⟩ rfl (by decide) (fun _ _ _ _ _ _ us hl => match us, hl with | [_, _], _ => rfl) (fun X W h => d_law_order h m_int m_list m_range c_law_draw c_law_called)

def G_law_behind : SF := sSeq (sSet 2 (mN (fL gList (fCons (fVar 0) (fNil)))))
    (sSeq (sFor (chs [2, 3, 4]) (asL (fVar 1)) (tgT 2 (tgCons (tgN 3) (tgCons (tgN 4) (tgNil)))) (sAsg (mTup (aVa (mN (fImm (f2 gIx (fVar 2) (fVar 4)))) (aVa (mN (fImm (f2 gIx (fVar 2) (fVar 3)))) (aNil)))) (toT 2 (toCons (toIx 2 (fVar 3)) (toCons (toIx 2 (fVar 4)) (toNil))))))
    (sRet (mMove 2)))
def F_law_behind : List D → Option (R D) := fnD [.shr, .shr] 5 G_law_behind
theorem d_law_behind{X : Cx} {W : WX} (h : BF X W P w K mg base ["order", "row", "found", "first", "second"] (defScope (top 11)) 0) (m_list : mg "list" = none) : DSs X W (defBody (top 11)) G_law_behind := by
  have n_order : Lc X 0 "order" := h.lc (by decide +kernel) (by decide +kernel)
  have n_row : Lc X 1 "row" := h.lc (by decide +kernel) (by decide +kernel)
  have n_found : Lc X 2 "found" := h.lc (by decide +kernel) (by decide +kernel)
  have n_first : Lc X 3 "first" := h.lc (by decide +kernel) (by decide +kernel)
  have n_second : Lc X 4 "second" := h.lc (by decide +kernel) (by decide +kernel)
  have g_list : Gl X "list" := h.gl (by decide +kernel)
  have b_list : X.mg "list" = none := h.toBX.mgn m_list
  exact dss_cons (by exact n_found.set ((dn_callTy c_list call_list_of g_list b_list boot_list (da_cons (n_order.dp) da_nil)).dm))
    (dss_cons (ds_for (chs [2, 3, 4]) h.po h.calm (by exact di_list (n_row.dp)) (by exact dg_tup h.calm (dgs_cons (n_first.dg) (dgs_cons (n_second.dg) dgs_nil))) (dss_one (by exact ds_asg (dm_tup (dam_va (((dp_ix (n_found.dp) (n_second.dp)).dn).dm) (dam_va (((dp_ix (n_found.dp) (n_first.dp)).dn).dm) dam_nil))) (do_tup h.calm (dos_cons (n_found.ixo (n_first.dp)) (dos_cons (n_found.ixo (n_second.dp)) dos_nil))) (hw := swapped_sub2))))
    (dss_one (by exact ds_ret (n_found.mv))))
theorem fn_law_behind {f : Addr} {fd : FuncData} (F : FunD K "_law_behind" "_law_behind" (defArgs (top 11)) (defBody (top 11)) (defScope (top 11)) [] [] f fd) (hm : mg "_law_behind" = some (.ref f)) (m_list : mg "list" = none) : Fn P w K mg base 1 "_law_behind" [.shr, .shr] F_law_behind :=
  fn_mk (N := ["order", "row", "found", "first", "second"]) (ps := ["order", "row"]) F hm ⟨rfl, rfl, rfl, by decide +kernel, rfl, by decide +kernel, by decide +kernel⟩ rfl (by decide) (fun _ _ _ _ _ _ us hl => match us, hl with | [_, _], _ => rfl) (fun X W h => d_law_behind h m_list)

def G_law_far : SF := sSeq (sSet 2 (mN (fD1 (fL gTuple (fCons (fVar 0) (fNil))) (fC (.int 0)))))
    (sSeq (sSet 3 (mLst (aVa (mN (fL gList (fCons (fVar 0) (fNil)))) (aNil))))
    (sSeq (sWhile (mT (fB (f2 (gEq true) (fVar 3) (fLstI (fNil))))) (sSeq (sSet 4 (mN (fLstI (fNil))))
    (sSeq (sFor (chs [2, 4, 5, 6, 7]) (asL (fVar 3)) (tgN 5) (sFor (chs [2, 4, 6, 7]) (asL (fVar 1)) (tgN 6) (sSeq (sSet 7 (mN (fX (fCall F_law_behind (fCons (fVar 5) (fCons (fLst (fCons (fVar 6) (fNil))) (fNil)))))))
    (sIf (mT (fB (f2 (gDIn true) (fL gTuple (fCons (fVar 7) (fNil))) (fVar 2)))) (sSeq (sDPut 2 (fL gTuple (fCons (fVar 7) (fNil))) (mN (f2 gAdd (f2 gDGet (fVar 2) (fL gTuple (fCons (fVar 5) (fNil)))) (fC (.int 1)))))
    (sDrop (mMeth "list" hAppend 4 (aVa (mMove 7) (aNil)))))
    (sNx)))))
    (sSet 3 (mMove 4)))) 2000)
    (sRet (mMove 2))))
def F_law_far : List D → Option (R D) := fnD [.shr, .shr] 8 G_law_far
theorem d_law_far{X : Cx} {W : WX} (h : BF X W P w K mg base ["other", "web", "far", "layer", "longer", "here", "swap", "further"] (defScope (top 12)) 1) (m_list : mg "list" = none) (m_tuple : mg "tuple" = none) (c_law_behind : Fn P w K mg base 1 "_law_behind" [.shr, .shr] F_law_behind) : DSs X W (defBody (top 12)) G_law_far := by
  have n_other : Lc X 0 "other" := h.lc (by decide +kernel) (by decide +kernel)
  have n_web : Lc X 1 "web" := h.lc (by decide +kernel) (by decide +kernel)
  have n_far : Lc X 2 "far" := h.lc (by decide +kernel) (by decide +kernel)
  have n_layer : Lc X 3 "layer" := h.lc (by decide +kernel) (by decide +kernel)
  have n_longer : Lc X 4 "longer" := h.lc (by decide +kernel) (by decide +kernel)
  have n_here : Lc X 5 "here" := h.lc (by decide +kernel) (by decide +kernel)
  have n_swap : Lc X 6 "swap" := h.lc (by decide +kernel) (by decide +kernel)
  have n_further : Lc X 7 "further" := h.lc (by decide +kernel) (by decide +kernel)
  have g_list : Gl X "list" := h.gl (by decide +kernel)
  have b_list : X.mg "list" = none := h.toBX.mgn m_list
  have g_tuple : Gl X "tuple" := h.gl (by decide +kernel)
  have b_tuple : X.mg "tuple" = none := h.toBX.mgn m_tuple
  exact dss_cons (by exact n_far.set ((dn_disp1T h.u1 ((dn_callTy c_tuple call_tuple_of g_tuple b_tuple boot_tuple (da_cons (n_other.dp) da_nil)).dp) ((dn_int).dp)).dm))
    (dss_cons (by exact n_layer.set (dm_lst (dam_va ((dn_callTy c_list call_list_of g_list b_list boot_list (da_cons (n_other.dp) da_nil)).dm) dam_nil)))
    (dss_cons (ds_while 2000 h.po (by exact (dt_cmp (o_eq (neg := true)) (op_neM h.u64) (n_layer.dp) ((dn_lst da_nil).dp) (by rfl)).dmt) (dss_cons (by exact n_longer.set ((dn_lst da_nil).dm))
    (dss_cons (ds_for (chs [2, 4, 5, 6, 7]) h.po h.calm (by exact di_list (n_layer.dp)) (by exact n_here.dg) (dss_one (ds_for (chs [2, 4, 6, 7]) h.po h.calm (by exact di_list (n_web.dp)) (by exact n_swap.dg) (dss_cons (by exact n_further.set (((dx_call c_law_behind h.toBX (by decide) (glB_of (by decide +kernel)) (da_cons (n_here.dp) (da_cons (dp_lst (da_cons (n_swap.dp) da_nil)) da_nil))).dn).dm))
    (dss_one (ds_if (by exact (dt_dnotin h.u1 ((dn_callTy c_tuple call_tuple_of g_tuple b_tuple boot_tuple (da_cons (n_further.dp) da_nil)).dp) (n_far.dp)).dmt) (dss_cons (by exact n_far.dput h.u1 ((dn_callTy c_tuple call_tuple_of g_tuple b_tuple boot_tuple (da_cons (n_further.dp) da_nil)).dp) ((dn_bin o_add op_add3 (dp_dget h.u1 (n_far.dp) ((dn_callTy c_tuple call_tuple_of g_tuple b_tuple boot_tuple (da_cons (n_here.dp) da_nil)).dp)) ((dn_int).dp)).dm))
    (dss_one (by exact ds_expr (n_longer.toNm.append (dam_va (n_further.mv) dam_nil)))))
    (dss_nil)))))))
    (dss_one (by exact n_layer.set (n_longer.mv))))))
    (dss_one (by exact ds_ret (n_far.mv)))))
theorem fn_law_far {f : Addr} {fd : FuncData} (F : FunD K "_law_far" "_law_far" (defArgs (top 12)) (defBody (top 12)) (defScope (top 12)) [] [] f fd) (hm : mg "_law_far" = some (.ref f)) (m_list : mg "list" = none) (m_tuple : mg "tuple" = none) (c_law_behind : Fn P w K mg base 1 "_law_behind" [.shr, .shr] F_law_behind) : Fn P w K mg base 2 "_law_far" [.shr, .shr] F_law_far :=
  fn_mk (N := ["other", "web", "far", "layer", "longer", "here", "swap", "further"]) (ps := ["other", "web"]) F hm ⟨rfl, rfl, rfl, by decide +kernel, rfl, by decide +kernel, by decide +kernel⟩ rfl (by decide) (fun _ _ _ _ _ _ us hl => match us, hl with | [_, _], _ => rfl) (fun X W h => d_law_far h m_list m_tuple c_law_behind)

def G_law_first : SF := sSeq (sSet 3 (mN (fLstI (fNil))))
    (sSeq (sSet 4 (mN (fL gList (fCons (fVar 0) (fNil)))))
    (sSeq (sWhile (mT (fB (f2 gGt (f2 gDGet (fVar 1) (fL gTuple (fCons (fVar 4) (fNil)))) (fC (.int 0))))) (sSeq (sSet 5 (mComp (chs []) [6] (asL (fVar 2)) (tgN 6) (mT (fB (f2 gLt (f2 gDGet (fVar 1) (fL gTuple (fCons (fX (fCall F_law_behind (fCons (fVar 4) (fCons (fLst (fCons (fVar 6) (fNil))) (fNil))))) (fNil)))) (f2 gDGet (fVar 1) (fL gTuple (fCons (fVar 4) (fNil))))))) (mMove 6)))
    (sSeq (sDrop (mMeth "list" hAppend 3 (aVa (mN (fImm (f2 gIx (fVar 5) (fC (.int 0))))) (aNil))))
    (sSet 4 (mN (fX (fCall F_law_behind (fCons (fVar 4) (fCons (fSl (fVar 5) (oNone) (oSome (fC (.int 1)))) (fNil))))))))) 2000)
    (sRet (mMove 3))))
def F_law_first : List D → Option (R D) := fnD [.shr, .shr, .shr] 7 G_law_first
theorem d_law_first{X : Cx} {W : WX} (h : BF X W P w K mg base ["one", "far", "web", "row", "here", "good", "swap"] (defScope (top 13)) 1) (m_list : mg "list" = none) (m_tuple : mg "tuple" = none) (c_law_behind : Fn P w K mg base 1 "_law_behind" [.shr, .shr] F_law_behind) : DSs X W (defBody (top 13)) G_law_first := by
  have n_one : Lc X 0 "one" := h.lc (by decide +kernel) (by decide +kernel)
  have n_far : Lc X 1 "far" := h.lc (by decide +kernel) (by decide +kernel)
  have n_web : Lc X 2 "web" := h.lc (by decide +kernel) (by decide +kernel)
  have n_row : Lc X 3 "row" := h.lc (by decide +kernel) (by decide +kernel)
  have n_here : Lc X 4 "here" := h.lc (by decide +kernel) (by decide +kernel)
  have n_good : Lc X 5 "good" := h.lc (by decide +kernel) (by decide +kernel)
  have g_list : Gl X "list" := h.gl (by decide +kernel)
  have b_list : X.mg "list" = none := h.toBX.mgn m_list
  have g_tuple : Gl X "tuple" := h.gl (by decide +kernel)
  have b_tuple : X.mg "tuple" = none := h.toBX.mgn m_tuple
  exact dss_cons (by exact n_row.set ((dn_lst da_nil).dm))
    (dss_cons (by exact n_here.set ((dn_callTy c_list call_list_of g_list b_list boot_list (da_cons (n_one.dp) da_nil)).dm))
    (dss_cons (ds_while 2000 h.po (by exact (dt_cmp o_gt op_gt (dp_dget h.u1 (n_far.dp) ((dn_callTy c_tuple call_tuple_of g_tuple b_tuple boot_tuple (da_cons (n_here.dp) da_nil)).dp)) ((dn_int).dp) (by rfl)).dmt) (dss_cons (by exact ds_setLc (y := "good") (j := 5)  (own := [("swap", 6)]) (chs []) h.toBX (by decide +kernel) (by decide +kernel) (h.toBX.sw true (by decide +kernel)) (di_list (n_web.dp)) (by decide +kernel) (by decide) (fun X' h' => have n_swap : Lc X' 6 "swap" := h'.lcl (by decide +kernel) (by decide +kernel); n_swap.dg) (fun X' h' => have n_far : Nm X' 1 "far" := h'.nm (by decide +kernel); have n_here : Nm X' 4 "here" := h'.nm (by decide +kernel); have n_swap : Lc X' 6 "swap" := h'.lcl (by decide +kernel) (by decide +kernel); have g_tuple : Gl X' "tuple" := h'.gl (by decide +kernel); have b_tuple : X'.mg "tuple" = none := h'.mgn m_tuple; dts_one (dt_cmp o_lt op_lt (dp_dget h'.u1 (n_far.dp) ((dn_callTy c_tuple call_tuple_of g_tuple b_tuple boot_tuple (da_cons (((dx_call c_law_behind h' (by decide) (glB_of (by decide +kernel)) (da_cons (n_here.dp) (da_cons (dp_lst (da_cons (n_swap.dp) da_nil)) da_nil))).dn).dp) da_nil)).dp)) (dp_dget h'.u1 (n_far.dp) ((dn_callTy c_tuple call_tuple_of g_tuple b_tuple boot_tuple (da_cons (n_here.dp) da_nil)).dp)) (by rfl)).dmt) (fun X' h' => have n_swap : Lc X' 6 "swap" := h'.lcl (by decide +kernel) (by decide +kernel); n_swap.mv))
    (dss_cons (by exact ds_expr (n_row.toNm.append (dam_va (((dp_ix (n_good.dp) ((dn_int).dp)).dn).dm) dam_nil)))
    (dss_one (by exact n_here.set (((dx_call c_law_behind h.toBX (by decide) (glB_of (by decide +kernel)) (da_cons (n_here.dp) (da_cons ((dn_slice (n_good.dp) dpo_none (dpo_some ((dn_int).dp))).dp) da_nil))).dn).dm))))))
    (dss_one (by exact ds_ret (n_row.mv)))))
theorem fn_law_first {f : Addr} {fd : FuncData} (F : FunD K "_law_first" "_law_first" (defArgs (top 13)) (defBody (top 13)) (defScope (top 13)) [] [] f fd) (hm : mg "_law_first" = some (.ref f)) (m_list : mg "list" = none) (m_tuple : mg "tuple" = none) (c_law_behind : Fn P w K mg base 1 "_law_behind" [.shr, .shr] F_law_behind) : Fn P w K mg base 2 "_law_first" [.shr, .shr, .shr] F_law_first :=
  fn_mk (N := ["one", "far", "web", "row", "here", "good", "swap"]) (ps := ["one", "far", "web"]) F hm ⟨rfl, rfl, rfl, by decide +kernel, rfl, by decide +kernel, by decide +kernel⟩ rfl (by decide) (fun _ _ _ _ _ _ us hl => match us, hl with | [_, _, _], _ => rfl) (fun X W h => d_law_first h m_list m_tuple c_law_behind)

def G_law : SF := sSeq (sFor (chs [1, 2, 3, 4, 5, 6, 7, 8, 9, 10]) (asL (fX (fCall F_law_cells (fCons (fVar 0) (fCons (fC (.int 10)) (fNil)))))) (tgT 2 (tgCons (tgN 1) (tgCons (tgN 2) (tgNil)))) (sSeq (sSet 3 (mN (fX (fCall F_law_hand (fCons (fVar 2) (fCons (fVar 1) (fNil)))))))
    (sSeq (sSet 4 (mIx (mLst (aVa (mCall [.chg, .shr] F_law_draw (aNm 3 (aVa (mN (fC (.int 6))) (aNil)))) (aVa (mN (fC (.int 5))) (aNil)))) (mCall [.chg, .shr] F_law_draw (aNm 3 (aVa (mN (fC (.int 2))) (aNil))))))
    (sSeq (sSet 5 (mCall [.chg, .shr] F_law_order (aNm 3 (aNm 4 (aNil)))))
    (sSeq (sSet 6 (mCall [.chg, .shr] F_law_order (aNm 3 (aNm 4 (aNil)))))
    (sSeq (sSet 7 (mN (fLstI (fNil))))
    (sSeq (sFor (chs [7, 8]) (asR1 (fCons (fVar 4) (fNil))) (tgN 8) (sSet 7 (mN (f2 gAdd (fVar 7) (fFrz (mComp (chs []) [12] (asR2 (fCons (f2 gAdd (fVar 8) (fC (.int 1))) (fCons (fVar 4) (fNil)))) (tgN 12) (tYesD) (mTup (aVa (mMove 8) (aVa (mMove 12) (aNil))))))))))
    (sSeq (sSet 9 (mComp (chs []) [11] (asL (fVar 7)) (tgN 11) (mT (fB (f2 (gEq false) (f2 gIx (fVar 11) (fC (.int 1))) (f2 gAdd (f2 gIx (fVar 11) (fC (.int 0))) (fC (.int 1)))))) (mMove 11)))
    (sSeq (sSet 10 (mLst (aVa (mN (fX (fCall F_law_first (fCons (fVar 5) (fCons (fX (fCall F_law_far (fCons (fVar 6) (fCons (fVar 7) (fNil))))) (fCons (fVar 7) (fNil))))))) (aVa (mN (fX (fCall F_law_first (fCons (fVar 5) (fCons (fX (fCall F_law_far (fCons (fVar 6) (fCons (fVar 9) (fNil))))) (fCons (fVar 9) (fNil))))))) (aNil)))))
    (sSeq (sIf (mT (fOr (fB (f2 (gEq true) (fX (fCall F_fewest_by_all (fCons (fVar 5) (fCons (fVar 6) (fNil))))) (f2 gIx (fVar 10) (fC (.int 0))))) (fB (f2 (gEq true) (fX (fCall F_fewest_by_neighbours (fCons (fVar 5) (fCons (fVar 6) (fNil))))) (f2 gIx (fVar 10) (fC (.int 1))))))) (sRet (mN (fC (.bl false))))
    (sNx))
    (sIf (mT (fOr (fB (f2 (gEq true) (fX (fCall F_is_even (fCons (fVar 5) (fCons (fVar 6) (fNil))))) (f2 (gEq false) (f2 gMod (fL gLen (fCons (f2 gIx (fVar 10) (fC (.int 0))) (fNil))) (fC (.int 2))) (fC (.int 0))))) (fB (f2 (gEq true) (f2 gMod (fL gLen (fCons (f2 gIx (fVar 10) (fC (.int 0))) (fNil))) (fC (.int 2))) (f2 gMod (fL gLen (fCons (f2 gIx (fVar 10) (fC (.int 1))) (fNil))) (fC (.int 2))))))) (sRet (mN (fC (.bl false))))
    (sNx))))))))))))
    (sRet (mN (fC (.bl true))))
def F_law : List D → Option (R D) := fnD [.shr] 13 G_law
theorem d_law{X : Cx} {W : WX} (h : BF X W P w K mg base ["script", "k", "cell", "hand", "size", "one", "other", "every", "first", "near", "due", "swap", "second"] (defScope (top 14)) 3) (m_len : mg "len" = none) (m_range : mg "range" = none) (c_fewest_by_all : Fn P w K mg base 2 "fewest_by_all" [.shr, .shr] F_fewest_by_all) (c_is_even : Fn P w K mg base 2 "is_even" [.shr, .shr] F_is_even) (c_fewest_by_neighbours : Fn P w K mg base 1 "fewest_by_neighbours" [.shr, .shr] F_fewest_by_neighbours) (c_law_hand : Fn P w K mg base 1 "_law_hand" [.shr, .shr] F_law_hand) (c_law_draw : Fn P w K mg base 1 "_law_draw" [.chg, .shr] F_law_draw) (c_law_cells : Fn P w K mg base 1 "_law_cells" [.shr, .shr] F_law_cells) (c_law_order : Fn P w K mg base 3 "_law_order" [.chg, .shr] F_law_order) (c_law_far : Fn P w K mg base 2 "_law_far" [.shr, .shr] F_law_far) (c_law_first : Fn P w K mg base 2 "_law_first" [.shr, .shr, .shr] F_law_first) : DSs X W (defBody (top 14)) G_law := by
  have n_script : Lc X 0 "script" := h.lc (by decide +kernel) (by decide +kernel)
  have n_k : Lc X 1 "k" := h.lc (by decide +kernel) (by decide +kernel)
  have n_cell : Lc X 2 "cell" := h.lc (by decide +kernel) (by decide +kernel)
  have n_hand : Lc X 3 "hand" := h.lc (by decide +kernel) (by decide +kernel)
  have n_size : Lc X 4 "size" := h.lc (by decide +kernel) (by decide +kernel)
  have n_one : Lc X 5 "one" := h.lc (by decide +kernel) (by decide +kernel)
  have n_other : Lc X 6 "other" := h.lc (by decide +kernel) (by decide +kernel)
  have n_every : Lc X 7 "every" := h.lc (by decide +kernel) (by decide +kernel)
  have n_first : Lc X 8 "first" := h.lc (by decide +kernel) (by decide +kernel)
  have n_near : Lc X 9 "near" := h.lc (by decide +kernel) (by decide +kernel)
  have n_due : Lc X 10 "due" := h.lc (by decide +kernel) (by decide +kernel)
  have g_len : Gl X "len" := h.gl (by decide +kernel)
  have b_len : X.mg "len" = none := h.toBX.mgn m_len
  have g_range : Gl X "range" := h.gl (by decide +kernel)
  have b_range : X.mg "range" = none := h.toBX.mgn m_range
  exact dss_cons (ds_for (chs [1, 2, 3, 4, 5, 6, 7, 8, 9, 10]) h.po h.calm (by exact di_list (((dx_call c_law_cells h.toBX (by decide) (glB_of (by decide +kernel)) (da_cons (n_script.dp) (da_cons ((dn_int).dp) da_nil))).dn).dp)) (by exact dg_tup h.calm (dgs_cons (n_k.dg) (dgs_cons (n_cell.dg) dgs_nil))) (dss_cons (by exact n_hand.set (((dx_call c_law_hand h.toBX (by decide) (glB_of (by decide +kernel)) (da_cons (n_cell.dp) (da_cons (n_k.dp) da_nil))).dn).dm))
    (dss_cons (by exact n_size.set (dm_ix (dm_lst (dam_va (dm_call c_law_draw h.toBX (by decide) (glB_of (by decide +kernel)) (n_hand.toNm.nm (dam_va ((dn_int).dm) dam_nil))) (dam_va ((dn_int).dm) dam_nil))) (dm_call c_law_draw h.toBX (by decide) (glB_of (by decide +kernel)) (n_hand.toNm.nm (dam_va ((dn_int).dm) dam_nil)))))
    (dss_cons (by exact n_one.set (dm_call c_law_order h.toBX (by decide) (glB_of (by decide +kernel)) (n_hand.toNm.nm (n_size.toNm.nm dam_nil))))
    (dss_cons (by exact n_other.set (dm_call c_law_order h.toBX (by decide) (glB_of (by decide +kernel)) (n_hand.toNm.nm (n_size.toNm.nm dam_nil))))
    (dss_cons (by exact n_every.set ((dn_lst da_nil).dm))
    (dss_cons (ds_for (chs [7, 8]) h.po h.calm (by exact di_range1 g_range b_range (da_cons (n_size.dp) da_nil)) (by exact n_first.dg) (dss_one (by exact n_every.set ((dn_bin o_add op_add3 (n_every.dp) (((dm_lc (own := [("second", 12)]) (chs []) h.toBX (di_range2 g_range b_range (da_cons ((dn_bin o_add op_add3 (n_first.dp) ((dn_int).dp)).dp) (da_cons (n_size.dp) da_nil))) (by decide +kernel) (by decide) (fun X' h' => have n_second : Lc X' 12 "second" := h'.lcl (by decide +kernel) (by decide +kernel); n_second.dg) (fun X' h' => dts_nil) (fun X' h' => have n_first : Nm X' 8 "first" := h'.nm (by decide +kernel); have n_second : Lc X' 12 "second" := h'.lcl (by decide +kernel) (by decide +kernel); dm_tup (dam_va (n_first.mv) (dam_va (n_second.mv) dam_nil)))).dn).dp)).dm))))
    (dss_cons (by exact ds_setLc (y := "near") (j := 9)  (own := [("swap", 11)]) (chs []) h.toBX (by decide +kernel) (by decide +kernel) (h.toBX.sw true (by decide +kernel)) (di_list (n_every.dp)) (by decide +kernel) (by decide) (fun X' h' => have n_swap : Lc X' 11 "swap" := h'.lcl (by decide +kernel) (by decide +kernel); n_swap.dg) (fun X' h' => have n_swap : Lc X' 11 "swap" := h'.lcl (by decide +kernel) (by decide +kernel); dts_one (dt_cmp (o_eq (neg := false)) (op_eqM h'.u64) (dp_ix (n_swap.dp) ((dn_int).dp)) ((dn_bin o_add op_add3 (dp_ix (n_swap.dp) ((dn_int).dp)) ((dn_int).dp)).dp) (by rfl)).dmt) (fun X' h' => have n_swap : Lc X' 11 "swap" := h'.lcl (by decide +kernel) (by decide +kernel); n_swap.mv))
    (dss_cons (by exact n_due.set (dm_lst (dam_va (((dx_call c_law_first h.toBX (by decide) (glB_of (by decide +kernel)) (da_cons (n_one.dp) (da_cons (((dx_call c_law_far h.toBX (by decide) (glB_of (by decide +kernel)) (da_cons (n_other.dp) (da_cons (n_every.dp) da_nil))).dn).dp) (da_cons (n_every.dp) da_nil)))).dn).dm) (dam_va (((dx_call c_law_first h.toBX (by decide) (glB_of (by decide +kernel)) (da_cons (n_one.dp) (da_cons (((dx_call c_law_far h.toBX (by decide) (glB_of (by decide +kernel)) (da_cons (n_other.dp) (da_cons (n_near.dp) da_nil))).dn).dp) (da_cons (n_near.dp) da_nil)))).dn).dm) dam_nil))))
    (dss_cons (ds_if (by exact ((dw_or (dt_cmp (o_eq (neg := true)) (op_neM h.u64) (((dx_call c_fewest_by_all h.toBX (by decide) (glB_of (by decide +kernel)) (da_cons (n_one.dp) (da_cons (n_other.dp) da_nil))).dn).dp) (dp_ix (n_due.dp) ((dn_int).dp)) (by rfl)) (dw_or1 (dt_cmp (o_eq (neg := true)) (op_neM h.u64) (((dx_call c_fewest_by_neighbours h.toBX (by decide) (glB_of (by decide +kernel)) (da_cons (n_one.dp) (da_cons (n_other.dp) da_nil))).dn).dp) (dp_ix (n_due.dp) ((dn_int).dp)) (by rfl)))).dt).dmt) (dss_one (by exact ds_ret ((dn_bl).dm)))
    (dss_nil))
    (dss_one (ds_if (by exact ((dw_or (dt_cmp (o_eq (neg := true)) (op_neM h.u64) (((dx_call c_is_even h.toBX (by decide) (glB_of (by decide +kernel)) (da_cons (n_one.dp) (da_cons (n_other.dp) da_nil))).dn).dp) ((dn_cmp (o_eq (neg := false)) (op_eqM h.u64) ((dn_bin o_mod op_mod ((dn_callB c_len call_len g_len b_len boot_len (da_cons (dp_ix (n_due.dp) ((dn_int).dp)) da_nil)).dp) ((dn_int).dp)).dp) ((dn_int).dp) (by rfl)).dp) (by rfl)) (dw_or1 (dt_cmp (o_eq (neg := true)) (op_neM h.u64) ((dn_bin o_mod op_mod ((dn_callB c_len call_len g_len b_len boot_len (da_cons (dp_ix (n_due.dp) ((dn_int).dp)) da_nil)).dp) ((dn_int).dp)).dp) ((dn_bin o_mod op_mod ((dn_callB c_len call_len g_len b_len boot_len (da_cons (dp_ix (n_due.dp) ((dn_int).dp)) da_nil)).dp) ((dn_int).dp)).dp) (by rfl)))).dt).dmt) (dss_one (by exact ds_ret ((dn_bl).dm)))
    (dss_nil)))))))))))))
    (dss_one (by exact ds_ret ((dn_bl).dm)))
theorem fn_law {f : Addr} {fd : FuncData} (F : FunD K "law" "law" (defArgs (top 14)) (defBody (top 14)) (defScope (top 14)) [] [] f fd) (hm : mg "law" = some (.ref f)) (m_len : mg "len" = none) (m_range : mg "range" = none) (c_fewest_by_all : Fn P w K mg base 2 "fewest_by_all" [.shr, .shr] F_fewest_by_all) (c_is_even : Fn P w K mg base 2 "is_even" [.shr, .shr] F_is_even) (c_fewest_by_neighbours : Fn P w K mg base 1 "fewest_by_neighbours" [.shr, .shr] F_fewest_by_neighbours) (c_law_hand : Fn P w K mg base 1 "_law_hand" [.shr, .shr] F_law_hand) (c_law_draw : Fn P w K mg base 1 "_law_draw" [.chg, .shr] F_law_draw) (c_law_cells : Fn P w K mg base 1 "_law_cells" [.shr, .shr] F_law_cells) (c_law_order : Fn P w K mg base 3 "_law_order" [.chg, .shr] F_law_order) (c_law_far : Fn P w K mg base 2 "_law_far" [.shr, .shr] F_law_far) (c_law_first : Fn P w K mg base 2 "_law_first" [.shr, .shr, .shr] F_law_first) : Fn P w K mg base 4 "law" [.shr] F_law :=
  fn_mk (N := ["script", "k", "cell", "hand", "size", "one", "other", "every", "first", "near", "due", "swap", "second"]) (ps := ["script"]) F hm ⟨rfl, rfl, rfl, by decide +kernel, rfl, by decide +kernel, by decide +kernel⟩ rfl (by decide) (fun _ _ _ _ _ _ us hl => match us, hl with | [_], _ => rfl) (fun X W h => d_law h m_len m_range c_fewest_by_all c_is_even c_fewest_by_neighbours c_law_hand c_law_draw c_law_cells c_law_order c_law_far c_law_first)

theorem ok_law {f : Addr} {fd : FuncData} (F : FunD K "law" "law" (defArgs (top 14)) (defBody (top 14)) (defScope (top 14)) [] [] f fd) (m_len : mg "len" = none) (m_range : mg "range" = none) (c_fewest_by_all : Fn P w K mg base 2 "fewest_by_all" [.shr, .shr] F_fewest_by_all) (c_is_even : Fn P w K mg base 2 "is_even" [.shr, .shr] F_is_even) (c_fewest_by_neighbours : Fn P w K mg base 1 "fewest_by_neighbours" [.shr, .shr] F_fewest_by_neighbours) (c_law_hand : Fn P w K mg base 1 "_law_hand" [.shr, .shr] F_law_hand) (c_law_draw : Fn P w K mg base 1 "_law_draw" [.chg, .shr] F_law_draw) (c_law_cells : Fn P w K mg base 1 "_law_cells" [.shr, .shr] F_law_cells) (c_law_order : Fn P w K mg base 3 "_law_order" [.chg, .shr] F_law_order) (c_law_far : Fn P w K mg base 2 "_law_far" [.shr, .shr] F_law_far) (c_law_first : Fn P w K mg base 2 "_law_first" [.shr, .shr, .shr] F_law_first) : FnOk P w K mg base (L2.CX P w) 4 f fd ["script"] (spD K [.shr] F_law) :=
  fn_ok (N := ["script", "k", "cell", "hand", "size", "one", "other", "every", "first", "near", "due", "swap", "second"]) (ms := [.shr]) F ⟨rfl, rfl, rfl, by decide +kernel, rfl, by decide +kernel, by decide +kernel⟩ rfl (by decide) (fun X W h => d_law h m_len m_range c_fewest_by_all c_is_even c_fewest_by_neighbours c_law_hand c_law_draw c_law_cells c_law_order c_law_far c_law_first)
end
end DL


set_option Elab.async false
set_option linter.all false
set_option maxRecDepth 100000
namespace DL
open PySem L2
def Hd (d s : Int) : D := .lst [.int d, .int s]
def HdOk (d s : Int) : Prop := 0 ≤ d ∧ 0 ≤ s ∧ s < 2147483587
theorem draw_spec {d s lim : Int} (h : HdOk d s) (hl : 0 < lim) (hl2 : lim < 1000000) :
    ∃ g d' s', F_law_draw [Hd d s, .int lim] = some (.ok (.int g) [some ⟨.chg, Hd d' s'⟩, none]) ∧ 0 ≤ g ∧ g < lim ∧ HdOk d' s' := by
  obtain ⟨h0, hs, hs2⟩ := h
  have c1 : lim.natAbs < 2 ^ 200 := Nat.lt_of_lt_of_le (show lim.natAbs < 1000000 by omega) (by decide)
  by_cases hd : 0 < d
  · refine ⟨d % lim, d / lim, s, ?_, Int.emod_nonneg _ (by omega), Int.emod_lt_of_pos _ hl, Int.ediv_nonneg h0 (by omega), hs, hs2⟩
    simp [F_law_draw, fnD, fnOut, G_law_draw, argEnv, sSeq, sIf, mT, fB, f2, gGt, gCmp, gIx, fVar, fC, Hd, atI, ixN, hd, hl, sSet, mN, gMod, gI, cPos, canSet, sAsg, gDiv, cDiv, c1, toIx, Md.ex, LIM, sRet, mMove, imm, outOf, outEnv, isChg]
  · have hd0 : ¬ (0 < d) := hd
    have m1 : cMul s s = true := mul_ok (small_pow (n := 2147483587) (by omega)) (small_pow (n := 2147483587) (by omega))
    have m2 : cMul 69621 s = true := mul_ok (small_pow (n := 2147483587) (by decide)) (small_pow (n := 2147483587) (by omega))
    let t := (s * s + 69621 * s + 12345) % 2147483587
    have t0 : 0 ≤ t := Int.emod_nonneg _ (by omega)
    have t1 : t < 2147483587 := Int.emod_lt_of_pos _ (by omega)
    refine ⟨t / 8 % lim, d, t, ?_, Int.emod_nonneg _ (by omega), Int.emod_lt_of_pos _ hl, h0, t0, t1⟩
    have c8 : (8 : Int).natAbs < 2 ^ 200 := by decide
    simp [F_law_draw, fnD, fnOut, G_law_draw, argEnv, sSeq, sIf, mT, fB, f2, gGt, gCmp, gIx, fVar, fC, Hd, atI, ixN, hd0, hl, sSet, mN, gMod, gI, cPos, canSet, sAsg, gDiv, cDiv, c1, toIx, Md.ex, LIM, sRet, mMove, imm, outOf, outEnv, isChg, gAdd, gMul, m1, m2, fImm, sNx, t]
end DL


set_option Elab.async false
set_option linter.all false
set_option maxRecDepth 100000
namespace DL
open PySem L2 Enc
/-- marks by a naming of the places -/
def mk (π : Nat → Int) (h : List Nat) : D := .lst (h.map fun i => .int (π i))
def swD (s : Nat × Nat) : D := .tup [.int s.1, .int s.2]
def swp (h : List Nat) (s : Nat × Nat) : Option (List Nat) := match h[s.1]?, h[s.2]? with
  | some x, some y => if h.length ≤ 1000 then some ((h.set s.1 y).set s.2 x) else none
  | _, _ => none
def behN (h : List Nat) (sw : List (Nat × Nat)) : Option (List Nat) := sw.foldlM swp h
theorem imms_mk (π : Nat → Int) : ∀ h : List Nat, imms (h.map fun i => D.int (π i)) = true
  | [] => rfl
  | x :: h => by show (true && imms _) = true; rw [imms_mk π h]; rfl
theorem foldlM_some {α β : Type} {f : β → α → Option β} : True := trivial
theorem beh_spec (π : Nat → Int) {h r : List Nat} {sw : List (Nat × Nat)} (e : behN h sw = some r) : F_law_behind [mk π h, .lst (sw.map swD)] = some (.ok (mk π r) [none, none]) := by
  let R : List Nat → Env → Prop := fun h' env => ∃ s3 s4, env = [some ⟨.pin, mk π h⟩, some ⟨.pin, .lst (sw.map swD)⟩, some ⟨.own, mk π h'⟩, s3, s4] ∧ npo (some s3) = true ∧ npo (some s4) = true
  have key := sLoop_relM (enc := swD) (step := swp) (R := R) (tg := tgT 2 (tgCons (tgN 3) (tgCons (tgN 4) (tgNil))))
    (g := sAsg (mTup (aVa (mN (fImm (f2 gIx (fVar 2) (fVar 4)))) (aVa (mN (fImm (f2 gIx (fVar 2) (fVar 3)))) (aNil)))) (toT 2 (toCons (toIx 2 (fVar 3)) (toCons (toIx 2 (fVar 4)) (toNil))))) (fun b x b' env => by
      rintro ⟨s3, s4, rfl, h3, h4⟩ e0
      unfold swp at e0
      split at e0
      · rename_i u v eu ev
        split at e0
        · rename_i hl
          cases e0
          have lu := (List.getElem?_eq_some_iff.mp eu).1
          have lv := (List.getElem?_eq_some_iff.mp ev).1
          refine ⟨[some ⟨.pin, mk π h⟩, some ⟨.pin, .lst (sw.map swD)⟩, some ⟨.own, mk π b⟩, some ⟨.own, .int x.1⟩, some ⟨.own, .int x.2⟩], [some ⟨.pin, mk π h⟩, some ⟨.pin, .lst (sw.map swD)⟩, some ⟨.own, mk π ((b.set x.1 v).set x.2 u)⟩, some ⟨.own, .int x.1⟩, some ⟨.own, .int x.2⟩], ?_, ?_, rfl, _, _, rfl, rfl, rfl⟩
          · simp [tgT, tgCons, tgN, tgNil, swD, canSet_np, h3, h4, immM, imm]
          · have i1 : ixN b.length (x.1 : Int) = some x.1 := by rw [ixN_ok (by omega) (by omega)]; rfl
            have i2 : ixN b.length (x.2 : Int) = some x.2 := by rw [ixN_ok (by omega) (by omega)]; rfl
            have hl' : b.length ≤ 1000000 := by omega
            have eu' : b[x.1] = u := (List.getElem?_eq_some_iff.mp eu).2
            have ev' : b[x.2] = v := (List.getElem?_eq_some_iff.mp ev).2
            simp [sAsg, mTup, aVa, mN, fImm, f2, gIx, fVar, mk, atI_nat, eu, ev, imm, aNil, vaL, LIM, toT, toCons, toIx, toNil, Md.ex, i1, i2, hl', List.map_set]
        · cases e0
      · cases e0) sw h r _ ⟨none, none, rfl, rfl, rfl⟩ e
  obtain ⟨env', e1, l1, s3, s4, rfl, h3, h4⟩ := key
  have f1 := sFor_nx (ch := chs [2, 3, 4]) (f := asL (fVar 1)) (env := [some ⟨.shr, mk π h⟩, some ⟨.shr, .lst (sw.map swD)⟩, some ⟨.own, mk π h⟩, none, none]) (ds := sw.map swD) rfl e1 rfl
  have g1 : gList [mk π h] = some (mk π h) := by simp [gList, mk, imms_mk]
  unfold F_law_behind fnD
  have : G_law_behind [some ⟨.shr, mk π h⟩, some ⟨.shr, .lst (sw.map swD)⟩, none, none, none] = some (.rt (mk π r) [some ⟨.shr, mk π h⟩, some ⟨.shr, .lst (sw.map swD)⟩, none, thawS true none s3, thawS true none s4]) := by
    unfold G_law_behind
    rw [sSeq_nx (env' := [some ⟨.shr, mk π h⟩, some ⟨.shr, .lst (sw.map swD)⟩, some ⟨.own, mk π h⟩, none, none]) (by simp [sSet, mN, fL, fCons, fVar, fNil, g1, canSet_np]), sSeq_nx f1]
    rfl
  show fnOut _ (G_law_behind [some ⟨.shr, mk π h⟩, some ⟨.shr, .lst (sw.map swD)⟩, none, none, none]) = _
  rw [this]
  rfl
end DL


set_option Elab.async false
set_option linter.all false
set_option maxRecDepth 100000
namespace DL
open PySem L2 Enc
theorem npo_thaw (s t : Option Slot) : npo (some (thawS true s t)) = true := by
  cases t with
  | none => cases s <;> rfl
  | some t =>
    obtain ⟨m, d⟩ := t
    cases m with
    | own => rfl
    | chg =>
      cases s with
      | none => rfl
      | some s =>
        obtain ⟨m', d'⟩ := s
        cases m' <;> rfl
    | shr =>
      show npo (some (if true = true ∧ imm d = true then some ⟨.shr, d⟩ else none)) = true
      split <;> rfl
    | pin => cases s <;> rfl
def tk (π : Nat → Int) (h : List Nat) : D := .tup (h.map fun i => .int (π i))
abbrev Far := List (List Nat × Nat)
def dk (π : Nat → Int) (far : Far) : D := .dic true (far.map fun p => tk π p.1) (far.map fun p => .int (p.2 : Int))
def fx (far : Far) (h : List Nat) : Option Nat := far.findIdx? fun p => decide (p.1 = h)
def getN (far : Far) (h : List Nat) : Option Nat := (fx far h).bind fun j => (far[j]?).map fun p => p.2
section
variable {π : Nat → Int} (inj : ∀ i j, π i = π j → i = j)
include inj
theorem map_inj {κ : Type} (f : Int → κ) (hf : ∀ x y, f x = f y → x = y) : ∀ a b : List Nat, a.map (fun i => f (π i)) = b.map (fun i => f (π i)) → a = b
  | [], [], _ => rfl
  | [], _ :: _, h => by cases h
  | _ :: _, [], h => by cases h
  | x :: a, y :: b, h => by
    rw [List.map_cons, List.map_cons] at h
    injection h with h1 h2
    rw [inj _ _ (hf _ _ h1), map_inj f hf a b h2]
omit inj in
theorem k1s_ints : ∀ h : List Nat, k1s (h.map fun i => D.int (π i)) = some (h.map fun i => (Sum.inl (π i) : Key))
  | [] => rfl
  | x :: h => by
    show (match k1 (D.int (π x)), k1s (h.map fun i => D.int (π i)) with | some k, some ks => some (k :: ks) | _, _ => none) = _
    rw [k1s_ints h]
    rfl
omit inj in
theorem conv_tk (h : List Nat) : conv true (tk π h) = some (h.map fun i => (Sum.inl (π i) : Key)) := k1s_ints h
theorem lk_tk (far : Far) (h : List Nat) : lkIx true (far.map fun p => tk π p.1) (h.map fun i => (Sum.inl (π i) : Key)) = fx far h := by
  unfold lkIx fx
  rw [List.findIdx?_map]
  congr 1
  funext p
  show decide (conv true (tk π p.1) = _) = _
  rw [conv_tk]
  refine decide_eq_decide.mpr ⟨fun e => ?_, fun e => by rw [e]⟩
  exact map_inj inj (fun x => (Sum.inl x : Key)) (fun x y q => Sum.inl.inj q) _ _ (Option.some.inj e)
theorem get_tk (far : Far) (h : List Nat) : dicGet true (far.map fun p => tk π p.1) (far.map fun p => .int (p.2 : Int)) (tk π h) = some ((fx far h).bind fun j => (far[j]?).map fun p => .int (p.2 : Int)) := by
  unfold dicGet
  rw [conv_tk]
  simp only [lk_tk inj far h, List.getElem?_map]
theorem fx_get {far : Far} {h : List Nat} {j : Nat} (e : fx far h = some j) : ∃ p, far[j]? = some p := by
  obtain ⟨hj, _⟩ := List.findIdx?_eq_some_iff_getElem.mp e
  exact ⟨_, List.getElem?_eq_getElem hj⟩
theorem din_tk (neg : Bool) (far : Far) (h : List Nat) : gDIn neg (tk π h) (dk π far) = some (.bl (if neg then !(fx far h).isSome else (fx far h).isSome)) := by
  show (match dicGet true (far.map fun p => tk π p.1) (far.map fun p => .int (p.2 : Int)) (tk π h) with | some o => some (D.bl (if neg then !o.isSome else o.isSome)) | none => none) = _
  rw [get_tk inj]
  cases e : fx far h with
  | none => rfl
  | some j =>
    obtain ⟨p, ep⟩ := fx_get inj e
    simp [ep]
theorem dget_tk {far : Far} {h : List Nat} {d : Nat} (e : getN far h = some d) : gDGet (dk π far) (tk π h) = some (.int (d : Int)) := by
  show (match dicGet true (far.map fun p => tk π p.1) (far.map fun p => .int (p.2 : Int)) (tk π h) with | some (some x) => some x | _ => none) = _
  rw [get_tk inj]
  unfold getN at e
  cases e1 : fx far h with
  | none => rw [e1] at e; cases e
  | some j =>
    rw [e1] at e
    obtain ⟨p, ep⟩ := fx_get inj e1
    simp [ep] at e
    simp [ep, e]
theorem put_tk {far : Far} {u : List Nat} {d : Nat} (e : fx far u = none) (hl : far.length < 1000) : hPut (dk π far) [tk π u, .int ((d : Int) + 1)] = some (.non, dk π (far ++ [(u, d + 1)])) := by
  have hl' : far.length < 1000000 := by omega
  simp [hPut, dk, dicPut, conv_tk, lk_tk inj, e, LIM, hl']
omit inj in
theorem gTuple_mk (h : List Nat) : gTuple [mk π h] = some (tk π h) := by simp [gTuple, mk, tk, imms_mk]
omit inj in
theorem gList_mk (h : List Nat) : gList [mk π h] = some (mk π h) := by simp [gList, mk, imms_mk]
omit inj in
theorem imm_mk (h : List Nat) : imm (mk π h) = false := rfl
omit inj in
theorem imm_tk (h : List Nat) : imm (tk π h) = true := imms_mk π h
omit inj in
theorem gEq_rows (neg : Bool) (L : List (List Nat)) : gEq neg (.lst (L.map (mk π))) (.lst []) = some (.bl (if neg then !decide (L = []) else decide (L = []))) := by
  have := gEq_enc (α := List (List Int)) (neg := neg) (a := L.map fun h => h.map π) (b := []) (by decide)
  have e1 : (enc (L.map fun h => h.map π) : D) = .lst (L.map (mk π)) := by
    show D.lst ((L.map fun h => h.map π).map fun l => .lst (l.map .int)) = _
    rw [List.map_map]
    congr 2
    funext h
    show D.lst ((h.map π).map .int) = _
    rw [List.map_map]; rfl
  rw [e1] at this
  rw [show (enc ([] : List (List Int)) : D) = .lst [] from rfl] at this
  rw [this]
  cases L <;> rfl
end
abbrev FS := Far × List (List Nat)
def stepS (here : List Nat) (st : FS) (sw : Nat × Nat) : Option FS := match behN here [sw] with
  | some u => (match fx st.1 u with
    | some _ => some st
    | none => (match getN st.1 here with
      | some d => if st.1.length < 1000 ∧ st.2.length < 1000 then some (st.1 ++ [(u, d + 1)], st.2 ++ [u]) else none
      | none => none))
  | none => none
def midS (web : List (Nat × Nat)) (st : FS) (here : List Nat) : Option FS := web.foldlM (stepS here) st
def outS (web : List (Nat × Nat)) (st : FS) : Option FS := st.2.foldlM (midS web) (st.1, [])
def farS (web : List (Nat × Nat)) (o : List Nat) : Option FS := iterM (fun st => !decide (st.2 = [])) (outS web) 2000 ([(o, 0)], [o])
end DL


set_option Elab.async false
set_option linter.all false
set_option maxRecDepth 100000
namespace DL
open PySem L2 Enc
/-- the parts of _law_far -/
def gf_in : SF := sSeq (sSet 7 (mN (fX (fCall F_law_behind (fCons (fVar 5) (fCons (fLst (fCons (fVar 6) (fNil))) (fNil)))))))
    (sIf (mT (fB (f2 (gDIn true) (fL gTuple (fCons (fVar 7) (fNil))) (fVar 2)))) (sSeq (sDPut 2 (fL gTuple (fCons (fVar 7) (fNil))) (mN (f2 gAdd (f2 gDGet (fVar 2) (fL gTuple (fCons (fVar 5) (fNil)))) (fC (.int 1)))))
    (sDrop (mMeth "list" hAppend 4 (aVa (mMove 7) (aNil)))))
    (sNx))
def gf_mid : SF := sFor (chs [2, 4, 6, 7]) (asL (fVar 1)) (tgN 6) gf_in
def gf_out : SF := sSeq (sSet 4 (mN (fLstI (fNil))))
    (sSeq (sFor (chs [2, 4, 5, 6, 7]) (asL (fVar 3)) (tgN 5) gf_mid)
    (sSet 3 (mMove 4)))
theorem gf_eq : G_law_far = sSeq (sSet 2 (mN (fD1 (fL gTuple (fCons (fVar 0) (fNil))) (fC (.int 0)))))
    (sSeq (sSet 3 (mLst (aVa (mN (fL gList (fCons (fVar 0) (fNil)))) (aNil))))
    (sSeq (sWhile (mT (fB (f2 (gEq true) (fVar 3) (fLstI (fNil))))) gf_out 2000)
    (sRet (mMove 2)))) := rfl
section
variable {π : Nat → Int} (inj : ∀ i j, π i = π j → i = j)
include inj
theorem in_step (o w l : D) (here : List Nat) (b : FS) (x : Nat × Nat) (b' : FS) (s6 s7 : Option Slot) (h6 : npo (some s6) = true) (h7 : npo (some s7) = true) (e : stepS here b x = some b') :
    ∃ env1 env2, tgN 6 (swD x) [some ⟨.pin, o⟩, some ⟨.pin, w⟩, some ⟨.own, dk π b.1⟩, some ⟨.pin, l⟩, some ⟨.own, .lst (b.2.map (mk π))⟩, some ⟨.pin, mk π here⟩, s6, s7] = some env1 ∧ gf_in env1 = some (.nx env2) ∧ env2.length = 8 ∧
      ∃ t6 t7, env2 = [some ⟨.pin, o⟩, some ⟨.pin, w⟩, some ⟨.own, dk π b'.1⟩, some ⟨.pin, l⟩, some ⟨.own, .lst (b'.2.map (mk π))⟩, some ⟨.pin, mk π here⟩, t6, t7] ∧ npo (some t6) = true ∧ npo (some t7) = true := by
  unfold stepS at e
  split at e
  · rename_i u eu
    have c0 : F_law_behind [mk π here, .lst [swD x]] = some (.ok (mk π u) [none, none]) := beh_spec π (sw := [x]) eu
    have q1 : tgN 6 (swD x) [some ⟨.pin, o⟩, some ⟨.pin, w⟩, some ⟨.own, dk π b.1⟩, some ⟨.pin, l⟩, some ⟨.own, .lst (b.2.map (mk π))⟩, some ⟨.pin, mk π here⟩, s6, s7] = some [some ⟨.pin, o⟩, some ⟨.pin, w⟩, some ⟨.own, dk π b.1⟩, some ⟨.pin, l⟩, some ⟨.own, .lst (b.2.map (mk π))⟩, some ⟨.pin, mk π here⟩, some ⟨.own, swD x⟩, s7] := by
      have im : immM (swD x) = .own := rfl
      simp [tgN, canSet_np, h6, im]
    have q2 : sSet 7 (mN (fX (fCall F_law_behind (fCons (fVar 5) (fCons (fLst (fCons (fVar 6) (fNil))) (fNil)))))) [some ⟨.pin, o⟩, some ⟨.pin, w⟩, some ⟨.own, dk π b.1⟩, some ⟨.pin, l⟩, some ⟨.own, .lst (b.2.map (mk π))⟩, some ⟨.pin, mk π here⟩, some ⟨.own, swD x⟩, s7]
        = some (.nx [some ⟨.pin, o⟩, some ⟨.pin, w⟩, some ⟨.own, dk π b.1⟩, some ⟨.pin, l⟩, some ⟨.own, .lst (b.2.map (mk π))⟩, some ⟨.pin, mk π here⟩, some ⟨.own, swD x⟩, some ⟨.own, mk π u⟩]) := by
      simp [sSet, mN, fX, fCall, fCons, fVar, fLst, fNil, LIM, c0, canSet_np, h7]
    split at e
    · rename_i j ej
      cases e
      refine ⟨_, [some ⟨.pin, o⟩, some ⟨.pin, w⟩, some ⟨.own, dk π b.1⟩, some ⟨.pin, l⟩, some ⟨.own, .lst (b.2.map (mk π))⟩, some ⟨.pin, mk π here⟩, some ⟨.own, swD x⟩, some ⟨.own, mk π u⟩], q1, ?_, rfl, _, _, rfl, rfl, rfl⟩
      unfold gf_in
      rw [sSeq_nx q2]
      simp [sIf, mT, fB, f2, fL, fCons, fVar, fNil, gTuple_mk, din_tk inj, ej, sNx]
    · rename_i ej
      split at e
      · rename_i d ed
        split at e
        · rename_i hl
          cases e
          have hl2 : b.2.length < 1000000 := by omega
          refine ⟨_, [some ⟨.pin, o⟩, some ⟨.pin, w⟩, some ⟨.own, dk π (b.1 ++ [(u, d + 1)])⟩, some ⟨.pin, l⟩, some ⟨.own, .lst ((b.2 ++ [u]).map (mk π))⟩, some ⟨.pin, mk π here⟩, some ⟨.own, swD x⟩, none], q1, ?_, rfl, _, _, rfl, rfl, rfl⟩
          unfold gf_in
          rw [sSeq_nx q2]
          have tyl : tyD "list" (D.lst (b.2.map (mk π))) = true := rfl
          have c3 := put_tk inj ej hl.1 (d := d)
          simp [sIf, mT, fB, f2, fL, fCons, fVar, fNil, gTuple_mk, din_tk inj, ej, sSeq, sDPut, mN, dget_tk inj ed, fC, gAdd, fImm, imm_tk, chgS, c3, Md.ex, imm, sDrop, mMeth, tyl, aVa, mMove, imm_mk, aNil, vaL, hAppend, LIM, hl2]
        · cases e
      · cases e
  · cases e
theorem mid_step (o l : D) (web : List (Nat × Nat)) (b : FS) (x : List Nat) (b' : FS) (s5 s6 s7 : Option Slot) (h5 : npo (some s5) = true) (h6 : npo (some s6) = true) (h7 : npo (some s7) = true) (e : midS web b x = some b') :
    ∃ env1 env2, tgN 5 (mk π x) [some ⟨.pin, o⟩, some ⟨.pin, .lst (web.map swD)⟩, some ⟨.own, dk π b.1⟩, some ⟨.pin, l⟩, some ⟨.own, .lst (b.2.map (mk π))⟩, s5, s6, s7] = some env1 ∧ gf_mid env1 = some (.nx env2) ∧ env2.length = 8 ∧
      ∃ t5 t6 t7, env2 = [some ⟨.pin, o⟩, some ⟨.pin, .lst (web.map swD)⟩, some ⟨.own, dk π b'.1⟩, some ⟨.pin, l⟩, some ⟨.own, .lst (b'.2.map (mk π))⟩, t5, t6, t7] ∧ npo (some t5) = true ∧ npo (some t6) = true ∧ npo (some t7) = true := by
  have q1 : tgN 5 (mk π x) [some ⟨.pin, o⟩, some ⟨.pin, .lst (web.map swD)⟩, some ⟨.own, dk π b.1⟩, some ⟨.pin, l⟩, some ⟨.own, .lst (b.2.map (mk π))⟩, s5, s6, s7] = some [some ⟨.pin, o⟩, some ⟨.pin, .lst (web.map swD)⟩, some ⟨.own, dk π b.1⟩, some ⟨.pin, l⟩, some ⟨.own, .lst (b.2.map (mk π))⟩, some ⟨.shr, mk π x⟩, s6, s7] := by
    have im : immM (mk π x) = .shr := rfl
    simp [tgN, canSet_np, h5, im]
  let R : FS → Env → Prop := fun b env => ∃ s6 s7, env = [some ⟨.pin, o⟩, some ⟨.pin, .lst (web.map swD)⟩, some ⟨.own, dk π b.1⟩, some ⟨.pin, l⟩, some ⟨.own, .lst (b.2.map (mk π))⟩, some ⟨.pin, mk π x⟩, s6, s7] ∧ npo (some s6) = true ∧ npo (some s7) = true
  obtain ⟨env', e1, l1, t6, t7, rfl, k6, k7⟩ := sLoop_relM (enc := swD) (step := stepS x) (R := R) (tg := tgN 6) (g := gf_in) (fun b x' b' env ⟨s6, s7, ee, h6, h7⟩ e0 => by
    subst ee
    exact in_step inj o _ l x b x' b' s6 s7 h6 h7 e0) web b b' [some ⟨.pin, o⟩, some ⟨.pin, .lst (web.map swD)⟩, some ⟨.own, dk π b.1⟩, some ⟨.pin, l⟩, some ⟨.own, .lst (b.2.map (mk π))⟩, some ⟨.pin, mk π x⟩, s6, s7] ⟨s6, s7, rfl, h6, h7⟩ e
  have f1 := sFor_nx (ch := chs [2, 4, 6, 7]) (f := asL (fVar 1)) (env := [some ⟨.pin, o⟩, some ⟨.pin, .lst (web.map swD)⟩, some ⟨.own, dk π b.1⟩, some ⟨.pin, l⟩, some ⟨.own, .lst (b.2.map (mk π))⟩, some ⟨.shr, mk π x⟩, s6, s7]) (ds := web.map swD) rfl e1 rfl
  exact ⟨_, _, q1, f1, rfl, some ⟨.shr, mk π x⟩, thawS true s6 t6, thawS true s7 t7, rfl, rfl, npo_thaw _ _, npo_thaw _ _⟩
/-- how the turns of the while stand -/
def RO (π : Nat → Int) (o : List Nat) (web : List (Nat × Nat)) (b : FS) (env : Env) : Prop := ∃ s4 s5 s6 s7, env = [some ⟨.shr, mk π o⟩, some ⟨.shr, .lst (web.map swD)⟩, some ⟨.own, dk π b.1⟩, some ⟨.own, .lst (b.2.map (mk π))⟩, s4, s5, s6, s7] ∧ npo (some s4) = true ∧ npo (some s5) = true ∧ npo (some s6) = true ∧ npo (some s7) = true
theorem out_step (o : List Nat) (web : List (Nat × Nat)) (b b' : FS) (env : Env) (r : RO π o web b env) (e : outS web b = some b') : ∃ env', gf_out env = some (.nx env') ∧ RO π o web b' env' := by
  obtain ⟨s4, s5, s6, s7, rfl, h4, h5, h6, h7⟩ := r
  let R : FS → Env → Prop := fun c env => ∃ s5 s6 s7, env = [some ⟨.pin, mk π o⟩, some ⟨.pin, .lst (web.map swD)⟩, some ⟨.own, dk π c.1⟩, some ⟨.pin, .lst (b.2.map (mk π))⟩, some ⟨.own, .lst (c.2.map (mk π))⟩, s5, s6, s7] ∧ npo (some s5) = true ∧ npo (some s6) = true ∧ npo (some s7) = true
  obtain ⟨env', e1, l1, t5, t6, t7, rfl, k5, k6, k7⟩ := sLoop_relM (enc := mk π) (step := midS web) (R := R) (tg := tgN 5) (g := gf_mid) (fun c x c' env ⟨s5, s6, s7, ee, h5, h6, h7⟩ e0 => by
    subst ee
    exact mid_step inj (mk π o) (.lst (b.2.map (mk π))) web c x c' s5 s6 s7 h5 h6 h7 e0) b.2 (b.1, []) b' [some ⟨.pin, mk π o⟩, some ⟨.pin, .lst (web.map swD)⟩, some ⟨.own, dk π b.1⟩, some ⟨.pin, .lst (b.2.map (mk π))⟩, some ⟨.own, .lst (([] : List (List Nat)).map (mk π))⟩, s5, s6, s7] ⟨s5, s6, s7, rfl, h5, h6, h7⟩ e
  have f1 := sFor_nx (ch := chs [2, 4, 5, 6, 7]) (f := asL (fVar 3)) (env := [some ⟨.shr, mk π o⟩, some ⟨.shr, .lst (web.map swD)⟩, some ⟨.own, dk π b.1⟩, some ⟨.own, .lst (b.2.map (mk π))⟩, some ⟨.own, .lst []⟩, s5, s6, s7]) (ds := b.2.map (mk π)) rfl e1 rfl
  refine ⟨[some ⟨.shr, mk π o⟩, some ⟨.shr, .lst (web.map swD)⟩, some ⟨.own, dk π b'.1⟩, some ⟨.own, .lst (b'.2.map (mk π))⟩, none, thawS true s5 t5, thawS true s6 t6, thawS true s7 t7], ?_, none, _, _, _, rfl, rfl, npo_thaw _ _, npo_thaw _ _, npo_thaw _ _⟩
  unfold gf_out
  rw [sSeq_nx (env' := [some ⟨.shr, mk π o⟩, some ⟨.shr, .lst (web.map swD)⟩, some ⟨.own, dk π b.1⟩, some ⟨.own, .lst (b.2.map (mk π))⟩, some ⟨.own, .lst []⟩, s5, s6, s7]) (by simp [sSet, mN, fLstI, fNil, LIM, imms, canSet_np, h4]), sSeq_nx f1]
  rfl
theorem far_spec {o : List Nat} {web : List (Nat × Nat)} {b : FS} (e : farS web o = some b) : F_law_far [mk π o, .lst (web.map swD)] = some (.ok (dk π b.1) [none, none]) := by
  obtain ⟨env', e1, s4, s5, s6, s7, rfl, h4, h5, h6, h7⟩ := sWhile_relM (t := mT (fB (f2 (gEq true) (fVar 3) (fLstI (fNil))))) (g := gf_out) (R := RO π o web) (c := fun st => !decide (st.2 = [])) (step := outS web)
    (fun b env ⟨s4, s5, s6, s7, ee, _⟩ => by
      subst ee
      have := gEq_rows (π := π) true b.2
      simp [mT, fB, f2, fVar, fLstI, fNil, LIM, imms, this])
    (fun b b' env r _ e0 => out_step inj o web b b' env r e0) 2000 ([(o, 0)], [o]) b
    [some ⟨.shr, mk π o⟩, some ⟨.shr, .lst (web.map swD)⟩, some ⟨.own, dk π [(o, 0)]⟩, some ⟨.own, .lst [mk π o]⟩, none, none, none, none] ⟨none, none, none, none, rfl, rfl, rfl, rfl, rfl⟩ e
  show fnOut [.shr, .shr] (G_law_far [some ⟨.shr, mk π o⟩, some ⟨.shr, .lst (web.map swD)⟩, none, none, none, none, none, none]) = _
  rw [gf_eq]
  have im : imm (tk π o) = true := imm_tk o
  rw [sSeq_nx (env' := [some ⟨.shr, mk π o⟩, some ⟨.shr, .lst (web.map swD)⟩, some ⟨.own, dk π [(o, 0)]⟩, none, none, none, none, none]) (by simp [sSet, mN, fD1, fL, fCons, fVar, fNil, gTuple_mk, fC, conv_tk, imm, canSet_np, dk]),
    sSeq_nx (env' := [some ⟨.shr, mk π o⟩, some ⟨.shr, .lst (web.map swD)⟩, some ⟨.own, dk π [(o, 0)]⟩, some ⟨.own, .lst [mk π o]⟩, none, none, none, none]) (by simp [sSet, mLst, aVa, mN, fL, fCons, fVar, fNil, gList_mk, aNil, vaL, LIM, canSet_np]), sSeq_nx e1]
  rfl
end
end DL


set_option Elab.async false
set_option linter.all false
set_option maxRecDepth 100000
namespace DL
open PySem L2 Enc
/-! ### _law_first -/
def keepF (far : Far) (here : List Nat) (x : Nat × Nat) : Option (Option (Nat × Nat)) := match behN here [x] with
  | some u => (match getN far u, getN far here with
    | some a, some b => if a < b then some (some x) else some none
    | _, _ => none)
  | none => none
abbrev FT := List (Nat × Nat) × List Nat
def firS (far : Far) (web : List (Nat × Nat)) (st : FT) : Option FT := match compN (keepF far st.2) web with
  | some good => (match good[0]?, behN st.2 (good.take 1) with
    | some g, some u => if st.1.length < 1000 ∧ web.length < 1000 ∧ (getN far u).isSome = true then some (st.1 ++ [g], u) else none
    | _, _ => none)
  | none => none
def firC (far : Far) (st : FT) : Bool := match getN far st.2 with
  | some d => decide (0 < d)
  | none => false
def firN (far : Far) (web : List (Nat × Nat)) (o : List Nat) : Option FT := if (getN far o).isSome = true then iterM (firC far) (firS far web) 2000 ([], o) else none
def c_cmp : Env → Option Bool := fB (f2 gLt (f2 gDGet (fVar 1) (fL gTuple (fCons (fX (fCall F_law_behind (fCons (fVar 4) (fCons (fLst (fCons (fVar 6) (fNil))) (fNil))))) (fNil)))) (f2 gDGet (fVar 1) (fL gTuple (fCons (fVar 4) (fNil)))))
def c_good : MF := mComp (chs []) [6] (asL (fVar 2)) (tgN 6) (mT c_cmp) (mMove 6)
def gi_body : SF := sSeq (sSet 5 c_good)
    (sSeq (sDrop (mMeth "list" hAppend 3 (aVa (mN (fImm (f2 gIx (fVar 5) (fC (.int 0))))) (aNil))))
    (sSet 4 (mN (fX (fCall F_law_behind (fCons (fVar 4) (fCons (fSl (fVar 5) (oNone) (oSome (fC (.int 1)))) (fNil))))))))
def gi_cond : Env → Option (R Bool) := mT (fB (f2 gGt (f2 gDGet (fVar 1) (fL gTuple (fCons (fVar 4) (fNil)))) (fC (.int 0))))
theorem gi_eq : G_law_first = sSeq (sSet 3 (mN (fLstI (fNil))))
    (sSeq (sSet 4 (mN (fL gList (fCons (fVar 0) (fNil)))))
    (sSeq (sWhile gi_cond gi_body 2000)
    (sRet (mMove 3)))) := rfl
theorem imms_sw : ∀ l : List (Nat × Nat), imms (l.map swD) = true
  | [] => rfl
  | x :: l => by show (true && imms _) = true; rw [imms_sw l]; rfl
section
variable {π : Nat → Int} (inj : ∀ i j, π i = π j → i = j)
include inj
theorem good_run (one : D) (far : Far) (web : List (Nat × Nat)) (row : D) (here : List Nat) (s5 : Option Slot) (good : List (Nat × Nat)) (e : compN (keepF far here) web = some good) (hl : web.length < 1000) :
    c_good [some ⟨.shr, one⟩, some ⟨.shr, dk π far⟩, some ⟨.shr, .lst (web.map swD)⟩, some ⟨.own, row⟩, some ⟨.own, mk π here⟩, s5, none] = some (.ok (.lst (good.map swD)) [some ⟨.shr, one⟩, some ⟨.shr, dk π far⟩, some ⟨.shr, .lst (web.map swD)⟩, some ⟨.own, row⟩, some ⟨.own, mk π here⟩, s5, none]) := by
  let E : Env := [some ⟨.pin, one⟩, some ⟨.pin, dk π far⟩, some ⟨.pin, .lst (web.map swD)⟩, some ⟨.pin, row⟩, some ⟨.pin, mk π here⟩, frzS s5, none]
  have tg (x : Nat × Nat) : tgN 6 (swD x) E = some [some ⟨.pin, one⟩, some ⟨.pin, dk π far⟩, some ⟨.pin, .lst (web.map swD)⟩, some ⟨.pin, row⟩, some ⟨.pin, mk π here⟩, frzS s5, some ⟨.own, swD x⟩] := by
    have im : immM (swD x) = .own := rfl
    simp [tgN, canSet_np, im, E]
  have ct (x : Nat × Nat) (u : List Nat) (a b : Nat) (eu : behN here [x] = some u) (ea : getN far u = some a) (eb : getN far here = some b) :
      mT c_cmp [some ⟨.pin, one⟩, some ⟨.pin, dk π far⟩, some ⟨.pin, .lst (web.map swD)⟩, some ⟨.pin, row⟩, some ⟨.pin, mk π here⟩, frzS s5, some ⟨.own, swD x⟩] = some (.ok (decide (a < b)) [some ⟨.pin, one⟩, some ⟨.pin, dk π far⟩, some ⟨.pin, .lst (web.map swD)⟩, some ⟨.pin, row⟩, some ⟨.pin, mk π here⟩, frzS s5, some ⟨.own, swD x⟩]) := by
    have c0 : F_law_behind [mk π here, .lst [swD x]] = some (.ok (mk π u) [none, none]) := beh_spec π (sw := [x]) eu
    simp [mT, c_cmp, fB, f2, fL, fCons, fVar, fNil, fX, fCall, fLst, LIM, c0, gTuple_mk, dget_tk inj ea, dget_tk inj eb, gLt, gCmp]
  refine mComp_run (out := swD) (enc := swD) (E := E) (p := keepF far here) chs_nil (by rfl) (by rfl) (fun x ex => ?_) (fun x y ex => ?_) e (by unfold LIM; omega)
  · unfold keepF at ex
    split at ex
    · rename_i u eu
      split at ex
      · rename_i a b ea eb
        split at ex
        · cases ex
        · rename_i hab
          have := ct x u a b eu ea eb
          rw [decide_eq_false hab] at this
          exact ⟨_, _, tg x, this, rfl⟩
      · cases ex
    · cases ex
  · unfold keepF at ex
    split at ex
    · rename_i u eu
      split at ex
      · rename_i a b ea eb
        split at ex
        · rename_i hab
          cases ex
          have := ct x u a b eu ea eb
          rw [decide_eq_true hab] at this
          exact ⟨_, _, [some ⟨.pin, one⟩, some ⟨.pin, dk π far⟩, some ⟨.pin, .lst (web.map swD)⟩, some ⟨.pin, row⟩, some ⟨.pin, mk π here⟩, frzS s5, some ⟨.own, swD x⟩], tg x, this, rfl, rfl⟩
        · cases ex
      · cases ex
    · cases ex
def RF (π : Nat → Int) (one : List Nat) (far : Far) (web : List (Nat × Nat)) (b : FT) (env : Env) : Prop := (getN far b.2).isSome = true ∧ ∃ s5, env = [some ⟨.shr, mk π one⟩, some ⟨.shr, dk π far⟩, some ⟨.shr, .lst (web.map swD)⟩, some ⟨.own, .lst (b.1.map swD)⟩, some ⟨.own, mk π b.2⟩, s5, none] ∧ npo (some s5) = true
theorem fir_step (one : List Nat) (far : Far) (web : List (Nat × Nat)) (b b' : FT) (env : Env) (r : RF π one far web b env) (e : firS far web b = some b') : ∃ env', gi_body env = some (.nx env') ∧ RF π one far web b' env' := by
  obtain ⟨hs, s5, rfl, h5⟩ := r
  unfold firS at e
  split at e
  · rename_i good eg
    split at e
    · rename_i g u e0 eu
      split at e
      · rename_i c
        cases e
        have g1 := good_run inj (mk π one) far web (.lst (b.1.map swD)) b.2 s5 good eg c.2.1
        refine ⟨[some ⟨.shr, mk π one⟩, some ⟨.shr, dk π far⟩, some ⟨.shr, .lst (web.map swD)⟩, some ⟨.own, .lst ((b.1 ++ [g]).map swD)⟩, some ⟨.own, mk π u⟩, some ⟨.own, .lst (good.map swD)⟩, none], ?_, c.2.2, _, rfl, rfl⟩
        have c0 : F_law_behind [mk π b.2, .lst ((good.take 1).map swD)] = some (.ok (mk π u) [none, none]) := beh_spec π eu
        rw [List.map_take] at c0
        have ct : cutD (good.map swD) none (some 1) = (good.take 1).map swD := cut_to swD good 1
        rw [List.map_take] at ct
        have hl : b.1.length < 1000000 := by omega
        have tyl : tyD "list" (D.lst (b.1.map swD)) = true := rfl
        have im : imm (swD g) = true := rfl
        have a0 : atI (good.map swD) 0 = some (swD g) := by
          have := atI_nat (good.map swD) 0
          rw [List.getElem?_map, e0] at this
          exact this
        unfold gi_body
        rw [sSeq_nx (env' := [some ⟨.shr, mk π one⟩, some ⟨.shr, dk π far⟩, some ⟨.shr, .lst (web.map swD)⟩, some ⟨.own, .lst (b.1.map swD)⟩, some ⟨.own, mk π b.2⟩, some ⟨.own, .lst (good.map swD)⟩, none]) (by simp [sSet, g1, canSet_np, h5])]
        simp [sSeq, sDrop, mMeth, fVar, tyl, aVa, mN, fImm, f2, gIx, fC, a0, im, aNil, vaL, chgS, hAppend, LIM, hl, Md.ex, imm, sSet, fX, fCall, fCons, fSl, oNone, oSome, gSl, imms_sw, ct, fNil, c0, canSet_np]
      · cases e
    · cases e
  · cases e
theorem fir_spec {o : List Nat} {far : Far} {web : List (Nat × Nat)} {b : FT} (e : firN far web o = some b) : F_law_first [mk π o, dk π far, .lst (web.map swD)] = some (.ok (.lst (b.1.map swD)) [none, none, none]) := by
  unfold firN at e
  split at e
  · rename_i hs
    obtain ⟨env', e1, _, s5, rfl, h5⟩ := sWhile_relM (t := gi_cond) (g := gi_body) (R := RF π o far web) (c := firC far) (step := firS far web)
      (fun b env ⟨hs, s5, ee, h5⟩ => by
        subst ee
        obtain ⟨d, ed⟩ := Option.isSome_iff_exists.mp hs
        simp [gi_cond, mT, fB, f2, fVar, fL, fCons, fNil, gTuple_mk, dget_tk inj ed, fC, gGt, gCmp, firC, ed])
      (fun b b' env r _ e0 => fir_step inj o far web b b' env r e0) 2000 ([], o) b
      [some ⟨.shr, mk π o⟩, some ⟨.shr, dk π far⟩, some ⟨.shr, .lst (web.map swD)⟩, some ⟨.own, .lst []⟩, some ⟨.own, mk π o⟩, none, none] ⟨hs, none, rfl, rfl⟩ e
    show fnOut [.shr, .shr, .shr] (G_law_first [some ⟨.shr, mk π o⟩, some ⟨.shr, dk π far⟩, some ⟨.shr, .lst (web.map swD)⟩, none, none, none, none]) = _
    rw [gi_eq, sSeq_nx (env' := [some ⟨.shr, mk π o⟩, some ⟨.shr, dk π far⟩, some ⟨.shr, .lst (web.map swD)⟩, some ⟨.own, .lst []⟩, none, none, none]) (by simp [sSet, mN, fLstI, fNil, LIM, imms, canSet_np]),
      sSeq_nx (env' := [some ⟨.shr, mk π o⟩, some ⟨.shr, dk π far⟩, some ⟨.shr, .lst (web.map swD)⟩, some ⟨.own, .lst []⟩, some ⟨.own, mk π o⟩, none, none]) (by simp [sSet, mN, fL, fCons, fVar, fNil, gList_mk, canSet_np]), sSeq_nx e1]
    rfl
  · cases e
end
end DL


set_option Elab.async false
set_option linter.all false
set_option maxRecDepth 100000
namespace DL
open PySem L2 Enc
/-! ### fewest_by_neighbours -/
def cst : Nat → Int := fun i => (i : Int)
theorem cst_inj : ∀ i j, cst i = cst j → i = j := fun i j h => by unfold cst at h; omega
abbrev NB := List Nat × List (Nat × Nat) × Nat
def nbC (st : NB) : Bool := decide (st.2.2 + 1 < st.1.length)
def nbS (st : NB) : Option NB := match st.1[st.2.2]?, st.1[st.2.2 + 1]? with
  | some x, some y => if st.1.length ≤ 1000 ∧ st.2.1.length < 1000 then (if y < x then some ((st.1.set st.2.2 y).set (st.2.2 + 1) x, st.2.1 ++ [(st.2.2, st.2.2 + 1)], st.2.2 - 1) else some (st.1, st.2.1, st.2.2 + 1)) else none
  | _, _ => none
def ixO (o : List Nat) (i : Nat) : Option Nat := o.findIdx? fun z => decide (z = i)
def goalsN (o p : List Nat) : Option (List Nat) := compN (fun i => (ixO o i).map some) p
def nbN (o p : List Nat) : Option NB := match goalsN o p with
  | some g => if p.length < 1000 then iterM nbC nbS 2000 (g, [], 0) else none
  | none => none
def nb_comp : MF := mComp (chs []) [5] (asL (fVar 0)) (tgN 5) (tYesD) (mN (fMth "list" gIndex (fVar 1) (fCons (fVar 5) (fNil))))
def nb_cond : Env → Option (R Bool) := mT (fB (f2 gLt (f2 gAdd (fVar 4) (fC (.int 1))) (fL gLen (fCons (fVar 2) (fNil)))))
def nb_body : SF := sIf (mT (fB (f2 gGt (f2 gIx (fVar 2) (fVar 4)) (f2 gIx (fVar 2) (f2 gAdd (fVar 4) (fC (.int 1))))))) (sSeq (sAsg (mTup (aVa (mN (fImm (f2 gIx (fVar 2) (f2 gAdd (fVar 4) (fC (.int 1)))))) (aVa (mN (fImm (f2 gIx (fVar 2) (fVar 4)))) (aNil)))) (toT 2 (toCons (toIx 2 (fVar 4)) (toCons (toIx 2 (f2 gAdd (fVar 4) (fC (.int 1)))) (toNil)))))
    (sSeq (sDrop (mMeth "list" hAppend 3 (aVa (mTup (aVa (mMove 4) (aVa (mN (f2 gAdd (fVar 4) (fC (.int 1)))) (aNil)))) (aNil))))
    (sSet 4 (mN (fL gMax2 (fCons (fC (.int 0)) (fCons (f2 gSub (fVar 4) (fC (.int 1))) (fNil))))))))
    (sAug 4 (fun i j => i + j) (mN (fC (.int 1))))
theorem nb_eq : G_fewest_by_neighbours = sSeq (sSet 2 nb_comp)
    (sSeq (sSet 3 (mN (fLstI (fNil))))
    (sSeq (sSet 4 (mN (fC (.int 0))))
    (sSeq (sWhile nb_cond nb_body 2000)
    (sRet (mMove 3))))) := rfl
theorem sh_ints (l : List Int) : shD (.lst (l.map D.int)) = true := by
  unfold shD SeqAt.shaped
  have a := lay (α := List Int) l
  have b := dple (α := List Int) l
  have e : (enc l : D) = .lst (l.map D.int) := rfl
  rw [e] at a b
  rw [a, Bool.true_and]
  exact decide_eq_true (Nat.le_trans b (by decide))
theorem mk_ints (π : Nat → Int) (h : List Nat) : mk π h = .lst ((h.map π).map D.int) := by unfold mk; rw [List.map_map]; rfl
section
variable {π : Nat → Int} (inj : ∀ i j, π i = π j → i = j)
include inj
theorem index_mk {o : List Nat} {i j : Nat} (e : ixO o i = some j) : gIndex (mk π o) [.int (π i)] = some (.int (j : Int)) := by
  have h1 : shD (.int (π i)) = true := rfl
  have h2 : shD (mk π o) = true := by rw [mk_ints]; exact sh_ints _
  have h3 : (o.map fun i => D.int (π i)).findIdx? (fun z => eqD z (.int (π i))) = ixO o i := by
    rw [List.findIdx?_map]
    unfold ixO
    congr 1
    funext z
    show eqD (.int (π z)) (.int (π i)) = _
    rw [show eqD (D.int (π z)) (.int (π i)) = decide (π z = π i) from Enc.eq (α := Int) _ _]
    exact decide_eq_decide.mpr ⟨inj _ _, fun q => by rw [q]⟩
  unfold mk at h2 ⊢
  unfold gIndex
  simp only [h1, h2, and_self, if_true, h3, e]
theorem goals_run {o p g : List Nat} (e : goalsN o p = some g) (hl : p.length < 1000) : nb_comp [some ⟨.shr, mk π p⟩, some ⟨.shr, mk π o⟩, none, none, none, none] = some (.ok (mk cst g) [some ⟨.shr, mk π p⟩, some ⟨.shr, mk π o⟩, none, none, none, none]) := by
  refine mComp_run (out := fun j => .int (cst j)) (enc := fun i => .int (π i)) (E := [some ⟨.pin, mk π p⟩, some ⟨.pin, mk π o⟩, none, none, none, none]) (p := fun i => (ixO o i).map some) chs_nil (by rfl) (by rfl) (fun x ex => ?_) (fun x y ex => ?_) e (by unfold LIM; omega)
  · cases q : ixO o x with
    | none => rw [q] at ex; cases ex
    | some j => rw [q] at ex; cases ex
  · cases q : ixO o x with
    | none => rw [q] at ex; cases ex
    | some j =>
      rw [q] at ex
      cases ex
      refine ⟨[some ⟨.pin, mk π p⟩, some ⟨.pin, mk π o⟩, none, none, none, some ⟨.own, .int (π x)⟩], [some ⟨.pin, mk π p⟩, some ⟨.pin, mk π o⟩, none, none, none, some ⟨.own, .int (π x)⟩], [some ⟨.pin, mk π p⟩, some ⟨.pin, mk π o⟩, none, none, none, some ⟨.own, .int (π x)⟩], rfl, rfl, ?_, rfl⟩
      have ty : tyD "list" (mk π o) = true := rfl
      simp [mN, fMth, fVar, ty, fCons, fNil, index_mk inj q, cst]
omit inj in
def RN (one other : D) (b : NB) (env : Env) : Prop := env = [some ⟨.shr, one⟩, some ⟨.shr, other⟩, some ⟨.own, mk cst b.1⟩, some ⟨.own, .lst (b.2.1.map swD)⟩, some ⟨.own, .int (b.2.2 : Int)⟩, none]
omit inj in
theorem len_mk (π : Nat → Int) (h : List Nat) : gLen [mk π h] = some (.int (h.length : Int)) := by simp [gLen, mk]
omit inj in
theorem ix_mk {π : Nat → Int} {h : List Nat} {i : Nat} {x : Nat} (e : h[i]? = some x) : gIx (mk π h) (.int (i : Int)) = some (.int (π x)) := by
  show atI (h.map fun i => D.int (π i)) (i : Int) = _
  rw [atI_nat, List.getElem?_map, e]; rfl
omit inj in
theorem nb_step (one other : D) (b b' : NB) (env : Env) (r : RN one other b env) (e : nbS b = some b') : ∃ env', nb_body env = some (.nx env') ∧ RN one other b' env' := by
  obtain ⟨g, row, pl⟩ := b
  unfold RN at r
  subst r
  unfold nbS at e
  simp only at e
  split at e
  · rename_i x y ex ey
    split at e
    · rename_i c
      have i1 : gIx (mk cst g) (.int (pl : Int)) = some (.int (cst x)) := ix_mk ex
      have i2 : gIx (mk cst g) (.int ((pl : Int) + 1)) = some (.int (cst y)) := ix_mk (i := pl + 1) ey
      have lx := (List.getElem?_eq_some_iff.mp ex).1
      have ly := (List.getElem?_eq_some_iff.mp ey).1
      split at e
      · rename_i hyx
        cases e
        have hc : cst y < cst x := by unfold cst; omega
        have k1 : ixN g.length (pl : Int) = some pl := by rw [ixN_ok (by omega) (by omega)]; rfl
        have k2 : ixN g.length ((pl : Int) + 1) = some (pl + 1) := by rw [ixN_ok (by omega) (by omega)]; congr 1
        have hl : g.length ≤ 1000000 := by omega
        have hr : row.length < 1000000 := by omega
        have tyl : tyD "list" (D.lst (row.map swD)) = true := rfl
        have mx : (if (pl : Int) - 1 > 0 then (pl : Int) - 1 else 0) = ((pl - 1 : Nat) : Int) := by split <;> omega
        refine ⟨[some ⟨.shr, one⟩, some ⟨.shr, other⟩, some ⟨.own, mk cst ((g.set pl y).set (pl + 1) x)⟩, some ⟨.own, .lst ((row ++ [(pl, pl + 1)]).map swD)⟩, some ⟨.own, .int ((pl - 1 : Nat) : Int)⟩, none], ?_, rfl⟩
        have mg : (some (⟨.own, mk cst g⟩ : Slot)) = some ⟨.own, .lst (g.map fun i => .int (cst i))⟩ := rfl
        have q1 : sAsg (mTup (aVa (mN (fImm (f2 gIx (fVar 2) (f2 gAdd (fVar 4) (fC (.int 1)))))) (aVa (mN (fImm (f2 gIx (fVar 2) (fVar 4)))) (aNil)))) (toT 2 (toCons (toIx 2 (fVar 4)) (toCons (toIx 2 (f2 gAdd (fVar 4) (fC (.int 1)))) (toNil)))) [some ⟨.shr, one⟩, some ⟨.shr, other⟩, some ⟨.own, mk cst g⟩, some ⟨.own, .lst (row.map swD)⟩, some ⟨.own, .int (pl : Int)⟩, none]
            = some (.nx [some ⟨.shr, one⟩, some ⟨.shr, other⟩, some ⟨.own, mk cst ((g.set pl y).set (pl + 1) x)⟩, some ⟨.own, .lst (row.map swD)⟩, some ⟨.own, .int (pl : Int)⟩, none]) := by
          simp [sAsg, mTup, aVa, mN, fImm, f2, fVar, gAdd, fC, i1, i2, imm, aNil, vaL, LIM, toT, toCons]
          simp [mk, toIx, Md.ex, LIM, hl, fVar, k1, k2, f2, gAdd, fC, toNil, List.map_set]
        have q0 : mT (fB (f2 gGt (f2 gIx (fVar 2) (fVar 4)) (f2 gIx (fVar 2) (f2 gAdd (fVar 4) (fC (.int 1)))))) [some ⟨.shr, one⟩, some ⟨.shr, other⟩, some ⟨.own, mk cst g⟩, some ⟨.own, .lst (row.map swD)⟩, some ⟨.own, .int (pl : Int)⟩, none]
            = some (.ok true [some ⟨.shr, one⟩, some ⟨.shr, other⟩, some ⟨.own, mk cst g⟩, some ⟨.own, .lst (row.map swD)⟩, some ⟨.own, .int (pl : Int)⟩, none]) := by
          simp [mT, fB, f2, fVar, gAdd, fC, i1, i2, gGt, gCmp, hc]
        unfold nb_body sIf
        rw [q0]
        simp only
        rw [sSeq_nx q1]
        simp [sSeq, sDrop, mMeth, fVar, tyl, aVa, mTup, mMove, imm, mN, f2, gAdd, fC, aNil, vaL, LIM, chgS, hAppend, hr, Md.ex, sSet, fL, fCons, gSub, fNil, gMax2, canSet_np, swD]
        split <;> omega
      · rename_i hyx
        cases e
        have hc : ¬ cst y < cst x := by unfold cst; omega
        refine ⟨[some ⟨.shr, one⟩, some ⟨.shr, other⟩, some ⟨.own, mk cst g⟩, some ⟨.own, .lst (row.map swD)⟩, some ⟨.own, .int ((pl + 1 : Nat) : Int)⟩, none], ?_, rfl⟩
        simp [nb_body, sIf, mT, fB, f2, fVar, gAdd, fC, i1, i2, gGt, gCmp, hc, sAug, mN, canSet_np]
    · cases e
  · cases e
theorem nb_spec {o p : List Nat} {b : NB} (e : nbN o p = some b) : F_fewest_by_neighbours [mk π p, mk π o] = some (.ok (.lst (b.2.1.map swD)) [none, none]) := by
  unfold nbN at e
  split at e
  · rename_i g eg
    split at e
    · rename_i hl
      have g1 := goals_run inj eg hl
      obtain ⟨env', e1, r⟩ := sWhile_relM (t := nb_cond) (g := nb_body) (R := RN (mk π p) (mk π o)) (c := nbC) (step := nbS)
        (fun b env r => by
          unfold RN at r
          subst r
          have : (decide ((b.2.2 : Int) + 1 < (b.1.length : Int))) = nbC b := decide_eq_decide.mpr (by omega)
          simp [nb_cond, mT, fB, f2, fVar, gAdd, fC, fL, fCons, fNil, len_mk, gLt, gCmp, ← this])
        (fun b b' env r _ e0 => nb_step _ _ b b' env r e0) 2000 (g, [], 0) b
        [some ⟨.shr, mk π p⟩, some ⟨.shr, mk π o⟩, some ⟨.own, mk cst g⟩, some ⟨.own, .lst []⟩, some ⟨.own, .int 0⟩, none] rfl e
      unfold RN at r
      subst r
      show fnOut [.shr, .shr] (G_fewest_by_neighbours [some ⟨.shr, mk π p⟩, some ⟨.shr, mk π o⟩, none, none, none, none]) = _
      rw [nb_eq, sSeq_nx (env' := [some ⟨.shr, mk π p⟩, some ⟨.shr, mk π o⟩, some ⟨.own, mk cst g⟩, none, none, none]) (by simp [sSet, g1, canSet_np]),
        sSeq_nx (env' := [some ⟨.shr, mk π p⟩, some ⟨.shr, mk π o⟩, some ⟨.own, mk cst g⟩, some ⟨.own, .lst []⟩, none, none]) (by simp [sSet, mN, fLstI, fNil, LIM, imms, canSet_np]),
        sSeq_nx (env' := [some ⟨.shr, mk π p⟩, some ⟨.shr, mk π o⟩, some ⟨.own, mk cst g⟩, some ⟨.own, .lst []⟩, some ⟨.own, .int 0⟩, none]) (by simp [sSet, mN, fC, canSet_np]), sSeq_nx e1]
      rfl
    · cases e
  · cases e
end
end DL


set_option Elab.async false
set_option linter.all false
set_option maxRecDepth 100000
namespace DL
open PySem L2 Enc
/-! ### dicts with whole keys -/
section
variable {β : Type} (f : β → D)
def dnat (t : List (Nat × β)) : D := .dic false (t.map fun p => .int (p.1 : Int)) (t.map fun p => f p.2)
def fn_ (t : List (Nat × β)) (k : Nat) : Option Nat := t.findIdx? fun p => decide (p.1 = k)
def gn_ (t : List (Nat × β)) (k : Nat) : Option β := (fn_ t k).bind fun j => (t[j]?).map fun p => p.2
theorem lk_nat (t : List (Nat × β)) (k : Nat) : lkIx false (t.map fun p => D.int (p.1 : Int)) [Sum.inl (k : Int)] = fn_ t k := by
  unfold lkIx fn_
  rw [List.findIdx?_map]
  congr 1
  funext p
  show decide (some [(Sum.inl (p.1 : Int) : Key)] = some [Sum.inl (k : Int)]) = _
  exact decide_eq_decide.mpr ⟨fun e => by injection e with e; injection e with e; injection e with e; omega, fun e => by rw [e]⟩
theorem get_nat (t : List (Nat × β)) (k : Nat) : dicGet false (t.map fun p => D.int (p.1 : Int)) (t.map fun p => f p.2) (.int (k : Int)) = some ((fn_ t k).bind fun j => (t[j]?).map fun p => f p.2) := by
  show some ((lkIx false (t.map fun p => D.int (p.1 : Int)) [Sum.inl (k : Int)]).bind fun j => (t.map fun p => f p.2)[j]?) = _
  rw [lk_nat]
  simp only [List.getElem?_map]
theorem fn_get {t : List (Nat × β)} {k j : Nat} (e : fn_ t k = some j) : ∃ p, t[j]? = some p := by
  obtain ⟨hj, _⟩ := List.findIdx?_eq_some_iff_getElem.mp e
  exact ⟨_, List.getElem?_eq_getElem hj⟩
theorem din_nat (neg : Bool) (t : List (Nat × β)) (k : Nat) : gDIn neg (.int (k : Int)) (dnat f t) = some (.bl (if neg then !(fn_ t k).isSome else (fn_ t k).isSome)) := by
  show (match dicGet false (t.map fun p => D.int (p.1 : Int)) (t.map fun p => f p.2) (.int (k : Int)) with | some o => some (D.bl (if neg then !o.isSome else o.isSome)) | none => none) = _
  rw [get_nat]
  cases e : fn_ t k with
  | none => rfl
  | some j =>
    obtain ⟨p, ep⟩ := fn_get e
    simp [ep]
theorem dget_nat {t : List (Nat × β)} {k : Nat} {x : β} (e : gn_ t k = some x) : gDGet (dnat f t) (.int (k : Int)) = some (f x) := by
  show (match dicGet false (t.map fun p => D.int (p.1 : Int)) (t.map fun p => f p.2) (.int (k : Int)) with | some (some x) => some x | _ => none) = _
  rw [get_nat]
  unfold gn_ at e
  cases e1 : fn_ t k with
  | none => rw [e1] at e; cases e
  | some j =>
    rw [e1] at e
    obtain ⟨p, ep⟩ := fn_get e1
    simp [ep] at e
    simp [ep, e]
theorem put_nat {t : List (Nat × β)} {k : Nat} {x : β} (e : fn_ t k = none) (hl : t.length < 1000) : hPut (dnat f t) [.int (k : Int), f x] = some (.non, dnat f (t ++ [(k, x)])) := by
  have hl' : t.length < 1000000 := by omega
  have l := lk_nat t k
  have c : conv false (.int (k : Int)) = some [Sum.inl (k : Int)] := rfl
  simp [hPut, dnat, dicPut, c, l, e, LIM, hl']
end
def dI (x : Nat) : D := .int (x : Int)
def dB (_ : Unit) : D := .bl true
/-! ### rounds_between -/
abbrev To := List (Nat × Nat)
abbrev Sn := List (Nat × Unit)
def toS (o : List Nat) (to : To) (x : Nat × Nat) : Option To := match ixO o x.1 with
  | some j => if fn_ to x.2 = none ∧ to.length < 1000 then some (to ++ [(x.2, j)]) else none
  | none => none
abbrev WS := Nat × Sn × List Nat
def wlC (st : WS) : Bool := !(fn_ st.2.1 st.1).isSome
def wlS (to : To) (st : WS) : Option WS := match gn_ to st.1 with
  | some j => if fn_ st.2.1 st.1 = none ∧ st.2.1.length < 1000 ∧ st.2.2.length < 1000 then some (j, st.2.1 ++ [(st.1, ())], st.2.2 ++ [st.1]) else none
  | none => none
abbrev RS := List (List Nat) × Sn
def rdS (to : To) (st : RS) (pl : Nat) : Option RS := match iterM wlC (wlS to) 2000 (pl, st.2, []) with
  | some w => if st.1.length < 1000 then some (if w.2.2 = [] then st.1 else st.1 ++ [w.2.2], w.2.1) else none
  | none => none
def rdN (o p : List Nat) : Option (List (List Nat)) := if p.length < 1000 then (match p.zipIdx.foldlM (toS o) [] with
  | some to => (match (List.range p.length).foldlM (rdS to) ([], []) with
    | some st => some st.1
    | none => none)
  | none => none) else none
def rd_b1 : SF := sDPut 2 (fVar 3) (mN (fMth "list" gIndex (fVar 1) (fCons (fVar 4) (fNil))))
def rd_c : Env → Option (R Bool) := mT (fB (f2 (gDIn true) (fVar 3) (fVar 6)))
def rd_w : SF := sSeq (sDPut 6 (fVar 3) (mN (fC (.bl true))))
    (sSeq (sDrop (mMeth "list" hAppend 7 (aVa (mMove 3) (aNil))))
    (sSet 3 (mN (fImm (f2 gDGet (fVar 2) (fVar 3))))))
def rd_if : SF := sIf (mT (fB (f2 (gEq true) (fVar 7) (fLstI (fNil))))) (sDrop (mMeth "list" hAppend 5 (aVa (mMove 7) (aNil))))
    (sNx)
def rd_b2 : SF := sSeq (sSet 7 (mN (fLstI (fNil))))
    (sSeq (sWhile rd_c rd_w 2000)
    rd_if)
theorem rd_eq : G_rounds_between = sSeq (sSet 2 (mN (fC (.dic false [] []))))
    (sSeq (sFor (chs [2, 3, 4]) (asE (fCons (fVar 0) (fNil))) (tgT 2 (tgCons (tgN 3) (tgCons (tgN 4) (tgNil)))) rd_b1)
    (sSeq (sSet 5 (mN (fLstI (fNil))))
    (sSeq (sSet 6 (mN (fC (.dic false [] []))))
    (sSeq (sFor (chs [3, 5, 6, 7]) (asR1 (fCons (fL gLen (fCons (fVar 0) (fNil))) (fNil))) (tgN 3) rd_b2)
    (sRet (mMove 5)))))) := rfl
def encE (π : Nat → Int) (x : Nat × Nat) : D := .tup [.int (x.2 : Int), .int (π x.1)]
theorem enum_mk (π : Nat → Int) (p : List Nat) : enumD (p.map fun i => D.int (π i)) = p.zipIdx.map (encE π) := by
  unfold enumD
  rw [List.mapIdx_eq_zipIdx_map, List.zipIdx_map, List.map_map]
  rfl
theorem gEq_nils (neg : Bool) (l : List Nat) : gEq neg (mk cst l) (.lst []) = some (.bl (if neg then !decide (l = []) else decide (l = []))) := by
  have := gEq_enc (α := List Int) (neg := neg) (a := l.map cst) (b := []) (by decide)
  rw [show (enc (l.map cst) : D) = mk cst l from (mk_ints cst l).symm, show (enc ([] : List Int) : D) = .lst [] from rfl] at this
  rw [this]
  cases l <;> rfl
section
variable {π : Nat → Int} (inj : ∀ i j, π i = π j → i = j)
include inj
theorem to_step (one : D) (o : List Nat) (r5 r6 r7 : Option Slot) (b : To) (x : Nat × Nat) (b' : To) (s3 s4 : Option Slot) (h3 : npo (some s3) = true) (h4 : npo (some s4) = true) (e : toS o b x = some b') :
    ∃ env1 env2, tgT 2 (tgCons (tgN 3) (tgCons (tgN 4) (tgNil))) (encE π x) [some ⟨.pin, one⟩, some ⟨.pin, mk π o⟩, some ⟨.own, dnat dI b⟩, s3, s4, r5, r6, r7] = some env1 ∧ rd_b1 env1 = some (.nx env2) ∧ env2.length = 8 ∧
      ∃ t3 t4, env2 = [some ⟨.pin, one⟩, some ⟨.pin, mk π o⟩, some ⟨.own, dnat dI b'⟩, t3, t4, r5, r6, r7] ∧ npo (some t3) = true ∧ npo (some t4) = true := by
  unfold toS at e
  split at e
  · rename_i j ej
    split at e
    · rename_i c
      cases e
      have i1 : immM (.int (x.2 : Int)) = .own := rfl
      have i2 : immM (.int (π x.1)) = .own := rfl
      refine ⟨[some ⟨.pin, one⟩, some ⟨.pin, mk π o⟩, some ⟨.own, dnat dI b⟩, some ⟨.own, .int (x.2 : Int)⟩, some ⟨.own, .int (π x.1)⟩, r5, r6, r7], [some ⟨.pin, one⟩, some ⟨.pin, mk π o⟩, some ⟨.own, dnat dI (b ++ [(x.2, j)])⟩, some ⟨.own, .int (x.2 : Int)⟩, some ⟨.own, .int (π x.1)⟩, r5, r6, r7], ?_, ?_, rfl, _, _, rfl, rfl, rfl⟩
      · simp [tgT, tgCons, tgN, tgNil, encE, canSet_np, h3, h4, i1, i2]
      · have ty : tyD "list" (mk π o) = true := rfl
        have pp : hPut (dnat dI b) [.int (x.2 : Int), .int (j : Int)] = some (.non, dnat dI (b ++ [(x.2, j)])) := put_nat dI c.1 c.2
        simp [rd_b1, sDPut, mN, fMth, fVar, ty, fCons, fNil, index_mk inj ej, fImm, imm, chgS, pp, Md.ex]
    · cases e
  · cases e
omit inj in
def RW_ (one other : D) (to : To) (r4 r5 : Option Slot) (b : WS) (env : Env) : Prop := env = [some ⟨.pin, one⟩, some ⟨.pin, other⟩, some ⟨.pin, dnat dI to⟩, some ⟨.own, .int (b.1 : Int)⟩, r4, r5, some ⟨.own, dnat dB b.2.1⟩, some ⟨.own, mk cst b.2.2⟩]
omit inj in
theorem wl_step (one other : D) (to : To) (r4 r5 : Option Slot) (b b' : WS) (env : Env) (r : RW_ one other to r4 r5 b env) (e : wlS to b = some b') : ∃ env', rd_w env = some (.nx env') ∧ RW_ one other to r4 r5 b' env' := by
  unfold RW_ at r
  subst r
  unfold wlS at e
  split at e
  · rename_i j ej
    split at e
    · rename_i c
      cases e
      refine ⟨_, ?_, rfl⟩
      have pp : hPut (dnat dB b.2.1) [.int (b.1 : Int), .bl true] = some (.non, dnat dB (b.2.1 ++ [(b.1, ())])) := put_nat dB c.1 c.2.1
      have gg : gDGet (dnat dI to) (.int (b.1 : Int)) = some (.int (j : Int)) := dget_nat dI ej
      have tyl : tyD "list" (mk cst b.2.2) = true := rfl
      have ap : hAppend (mk cst b.2.2) [.int (b.1 : Int)] = some (.non, mk cst (b.2.2 ++ [b.1])) := by
        have hl : b.2.2.length < 1000000 := by omega
        simp [hAppend, mk, LIM, hl, cst]
      simp [rd_w, sSeq, sDPut, mN, fC, fImm, fVar, imm, chgS, pp, Md.ex, sDrop, mMeth, tyl, aVa, mMove, aNil, vaL, ap, sSet, f2, gg, canSet_np]
    · cases e
  · cases e
omit inj in
theorem rd_step (one other : D) (to : To) (r4 : Option Slot) (b : RS) (pl : Nat) (b' : RS) (s3 s7 : Option Slot) (h3 : npo (some s3) = true) (h7 : npo (some s7) = true) (e : rdS to b pl = some b') :
    ∃ env1 env2, tgN 3 (.int (pl : Int)) [some ⟨.pin, one⟩, some ⟨.pin, other⟩, some ⟨.pin, dnat dI to⟩, s3, r4, some ⟨.own, .lst (b.1.map (mk cst))⟩, some ⟨.own, dnat dB b.2⟩, s7] = some env1 ∧ rd_b2 env1 = some (.nx env2) ∧ env2.length = 8 ∧
      ∃ t3 t7, env2 = [some ⟨.pin, one⟩, some ⟨.pin, other⟩, some ⟨.pin, dnat dI to⟩, t3, r4, some ⟨.own, .lst (b'.1.map (mk cst))⟩, some ⟨.own, dnat dB b'.2⟩, t7] ∧ npo (some t3) = true ∧ npo (some t7) = true := by
  unfold rdS at e
  split at e
  · rename_i w ew
    split at e
    · rename_i c
      cases e
      have i1 : immM (.int (pl : Int)) = .own := rfl
      obtain ⟨env', e1, r⟩ := sWhile_relM (t := rd_c) (g := rd_w) (R := RW_ one other to r4 (some ⟨.own, .lst (b.1.map (mk cst))⟩)) (c := wlC) (step := wlS to)
        (fun b env r => by
          unfold RW_ at r
          subst r
          have := din_nat dB true b.2.1 b.1
          simp [rd_c, mT, fB, f2, fVar, this, wlC])
        (fun b b' env r _ e0 => wl_step one other to r4 _ b b' env r e0) 2000 (pl, b.2, []) w
        [some ⟨.pin, one⟩, some ⟨.pin, other⟩, some ⟨.pin, dnat dI to⟩, some ⟨.own, .int (pl : Int)⟩, r4, some ⟨.own, .lst (b.1.map (mk cst))⟩, some ⟨.own, dnat dB b.2⟩, some ⟨.own, mk cst []⟩] rfl ew
      unfold RW_ at r
      subst r
      refine ⟨[some ⟨.pin, one⟩, some ⟨.pin, other⟩, some ⟨.pin, dnat dI to⟩, some ⟨.own, .int (pl : Int)⟩, r4, some ⟨.own, .lst (b.1.map (mk cst))⟩, some ⟨.own, dnat dB b.2⟩, s7],
        [some ⟨.pin, one⟩, some ⟨.pin, other⟩, some ⟨.pin, dnat dI to⟩, some ⟨.own, .int (w.1 : Int)⟩, r4, some ⟨.own, .lst ((if w.2.2 = [] then b.1 else b.1 ++ [w.2.2]).map (mk cst))⟩, some ⟨.own, dnat dB w.2.1⟩, if w.2.2 = [] then some ⟨.own, mk cst w.2.2⟩ else none], ?_, ?_, rfl, _, _, rfl, rfl, ?_⟩
      · simp [tgN, canSet_np, h3, i1]
      · unfold rd_b2
        rw [sSeq_nx (env' := [some ⟨.pin, one⟩, some ⟨.pin, other⟩, some ⟨.pin, dnat dI to⟩, some ⟨.own, .int (pl : Int)⟩, r4, some ⟨.own, .lst (b.1.map (mk cst))⟩, some ⟨.own, dnat dB b.2⟩, some ⟨.own, mk cst []⟩]) (by simp [sSet, mN, fLstI, fNil, LIM, imms, canSet_np, h7, mk]), sSeq_nx e1]
        have ge := gEq_nils true w.2.2
        have hl : b.1.length < 1000000 := by omega
        have tyl : tyD "list" (D.lst (b.1.map (mk cst))) = true := rfl
        by_cases hw : w.2.2 = []
        · rw [if_pos hw, if_pos hw]
          have ge' : gEq true (mk cst w.2.2) (.lst []) = some (.bl false) := by rw [ge, decide_eq_true hw]; rfl
          simp [rd_if, sIf, mT, fB, f2, fVar, fLstI, fNil, LIM, imms, ge', sNx]
        · rw [if_neg hw, if_neg hw]
          have ge' : gEq true (mk cst w.2.2) (.lst []) = some (.bl true) := by rw [ge, decide_eq_false hw]; rfl
          simp [rd_if, sIf, mT, fB, f2, fVar, fLstI, fNil, LIM, imms, ge', sDrop, mMeth, tyl, aVa, mMove, imm_mk, aNil, vaL, chgS, hAppend, hl, Md.ex, imm]
      · split <;> rfl
    · cases e
  · cases e
end
end DL


set_option Elab.async false
set_option linter.all false
set_option maxRecDepth 100000
namespace DL
open PySem L2 Enc
theorem range_dI (n : Nat) : rangeD 0 n = (List.range n).map fun (i : Nat) => D.int (i : Int) := by
  unfold rangeD
  simp
section
variable {π : Nat → Int} (inj : ∀ i j, π i = π j → i = j)
include inj
theorem rd_spec {o p : List Nat} {f : List (List Nat)} (e : rdN o p = some f) : F_rounds_between [mk π p, mk π o] = some (.ok (.lst (f.map (mk cst))) [none, none]) := by
  unfold rdN at e
  split at e
  · rename_i hl
    split at e
    · rename_i to eto
      split at e
      · rename_i st est
        cases e
        show fnOut [.shr, .shr] (G_rounds_between [some ⟨.shr, mk π p⟩, some ⟨.shr, mk π o⟩, none, none, none, none, none, none]) = _
        -- the first loop
        obtain ⟨env1, e1, l1, t3, t4, rfl, k3, k4⟩ := sLoop_relM (enc := encE π) (step := toS o) (tg := tgT 2 (tgCons (tgN 3) (tgCons (tgN 4) (tgNil)))) (g := rd_b1)
          (R := fun b env => ∃ s3 s4, env = [some ⟨.pin, mk π p⟩, some ⟨.pin, mk π o⟩, some ⟨.own, dnat dI b⟩, s3, s4, none, none, none] ∧ npo (some s3) = true ∧ npo (some s4) = true)
          (fun b x b' env ⟨s3, s4, ee, h3, h4⟩ e0 => by
            subst ee
            exact to_step inj (mk π p) o none none none b x b' s3 s4 h3 h4 e0) p.zipIdx [] to [some ⟨.pin, mk π p⟩, some ⟨.pin, mk π o⟩, some ⟨.own, dnat dI []⟩, none, none, none, none, none] ⟨none, none, rfl, rfl, rfl⟩ eto
        have f1 := sFor_nx (ch := chs [2, 3, 4]) (f := asE (fCons (fVar 0) (fNil))) (env := [some ⟨.shr, mk π p⟩, some ⟨.shr, mk π o⟩, some ⟨.own, dnat dI []⟩, none, none, none, none, none]) (ds := p.zipIdx.map (encE π)) (by rw [← enum_mk]; rfl) e1 rfl
        -- the second
        have est' : (List.range p.length).foldlM (rdS to) ([], []) = some st := est
        obtain ⟨env2, e2, l2, u3, u7, rfl, m3, m7⟩ := sLoop_relM (enc := fun i : Nat => D.int (i : Int)) (step := rdS to) (tg := tgN 3) (g := rd_b2)
          (R := fun b env => ∃ s3 s7, env = [some ⟨.pin, mk π p⟩, some ⟨.pin, mk π o⟩, some ⟨.pin, dnat dI to⟩, s3, frzS (thawS true none t4), some ⟨.own, .lst (b.1.map (mk cst))⟩, some ⟨.own, dnat dB b.2⟩, s7] ∧ npo (some s3) = true ∧ npo (some s7) = true)
          (fun b x b' env ⟨s3, s7, ee, h3, h7⟩ e0 => by
            subst ee
            exact rd_step (mk π p) (mk π o) to (frzS (thawS true none t4)) b x b' s3 s7 h3 h7 e0) (List.range p.length) ([], []) st
          [some ⟨.pin, mk π p⟩, some ⟨.pin, mk π o⟩, some ⟨.pin, dnat dI to⟩, thawS true none t3, frzS (thawS true none t4), some ⟨.own, .lst []⟩, some ⟨.own, dnat dB []⟩, none] ⟨_, none, rfl, npo_thaw _ _, rfl⟩ est'
        have hr : asR1 (fCons (fL gLen (fCons (fVar 0) (fNil))) (fNil)) (clr (chs [3, 5, 6, 7]) [some ⟨.shr, mk π p⟩, some ⟨.shr, mk π o⟩, some ⟨.own, dnat dI to⟩, thawS true none t3, thawS true none t4, some ⟨.own, .lst []⟩, some ⟨.own, dnat dB []⟩, none]) = some ((List.range p.length).map fun i : Nat => D.int (i : Int)) := by
          have c1 : fCons (fL gLen (fCons (fVar 0) (fNil))) (fNil) (clr (chs [3, 5, 6, 7]) [some ⟨.shr, mk π p⟩, some ⟨.shr, mk π o⟩, some ⟨.own, dnat dI to⟩, thawS true none t3, thawS true none t4, some ⟨.own, .lst []⟩, some ⟨.own, dnat dB []⟩, none]) = some [.int (p.length : Int)] := by
            have c2 : fVar 0 (clr (chs [3, 5, 6, 7]) [some ⟨.shr, mk π p⟩, some ⟨.shr, mk π o⟩, some ⟨.own, dnat dI to⟩, thawS true none t3, thawS true none t4, some ⟨.own, .lst []⟩, some ⟨.own, dnat dB []⟩, none]) = some (mk π p) := rfl
            simp [fCons, fL, c2, fNil, len_mk]
          have c3 : (p.length : Int) ≤ 1000000 := by omega
          have c4 : -1000000 ≤ (p.length : Int) := by omega
          simp [asR1, c1, LIM, c3, c4, range_dI]
        have f2 := sFor_nx (ch := chs [3, 5, 6, 7]) (env := [some ⟨.shr, mk π p⟩, some ⟨.shr, mk π o⟩, some ⟨.own, dnat dI to⟩, thawS true none t3, thawS true none t4, some ⟨.own, .lst []⟩, some ⟨.own, dnat dB []⟩, none]) hr e2 rfl
        rw [rd_eq, sSeq_nx (env' := [some ⟨.shr, mk π p⟩, some ⟨.shr, mk π o⟩, some ⟨.own, dnat dI []⟩, none, none, none, none, none]) (by simp [sSet, mN, fC, canSet_np, dnat]), sSeq_nx f1]
        have g3 : sSet 5 (mN (fLstI (fNil))) (thaw (chs [2, 3, 4]) [some ⟨.shr, mk π p⟩, some ⟨.shr, mk π o⟩, some ⟨.own, dnat dI []⟩, none, none, none, none, none] [some ⟨.pin, mk π p⟩, some ⟨.pin, mk π o⟩, some ⟨.own, dnat dI to⟩, t3, t4, none, none, none])
            = some (.nx [some ⟨.shr, mk π p⟩, some ⟨.shr, mk π o⟩, some ⟨.own, dnat dI to⟩, thawS true none t3, thawS true none t4, some ⟨.own, .lst []⟩, none, none]) := rfl
        rw [sSeq_nx g3, sSeq_nx (env' := [some ⟨.shr, mk π p⟩, some ⟨.shr, mk π o⟩, some ⟨.own, dnat dI to⟩, thawS true none t3, thawS true none t4, some ⟨.own, .lst []⟩, some ⟨.own, dnat dB []⟩, none]) rfl, sSeq_nx f2]
        rfl
      · cases e
    · cases e
  · cases e
/-! ### is_even -/
theorem even_spec {o p : List Nat} {f : List (List Nat)} (e : rdN o p = some f) : F_is_even [mk π p, mk π o] = some (.ok (.bl (decide (((p.length : Int) - (f.length : Int)) % 2 = 0))) [none, none]) := by
  have c := rd_spec inj e
  have l2 : gLen [D.lst (f.map (mk cst))] = some (.int (f.length : Int)) := by simp [gLen]
  have ge (a : Int) : gEq false (.int a) (.int 0) = some (.bl (decide (a = 0))) := gEq_enc (α := Int) (neg := false) (a := a) (b := 0) (by decide)
  simp [F_is_even, fnD, fnOut, G_is_even, argEnv, sRet, mN, f2, fL, fCons, fVar, fNil, len_mk, fX, fCall, c, l2, gSub, fC, gMod, gI, cPos, ge, outOf, outEnv]
end
end DL


set_option Elab.async false
set_option linter.all false
set_option maxRecDepth 100000
namespace DL
open PySem L2 Enc
/-! ### fewest_by_all -/
abbrev BA := List Nat × List (Nat × Nat)
def keepW (r : List Nat) : Option (Option (List Int)) := if 1 < r.length then some (some (PySem.W.sortI (r.map cst))) else some none
def baC (o : List Nat) (st : BA) : Bool := !decide (st.1 = o)
def baS (o : List Nat) (st : BA) : Option BA := match rdN o st.1 with
  | some f => (match compN keepW f with
    | some (x :: m) => (match (PySem.W.minOf x m).take 2 with
      | [a, b] => if 0 ≤ a ∧ 0 ≤ b ∧ f.length < 1000 ∧ st.2.length < 1000 then (match swp st.1 (a.toNat, b.toNat) with
        | some h => some (h, st.2 ++ [(a.toNat, b.toNat)])
        | none => none) else none
      | _ => none)
    | _ => none)
  | none => none
def baN (o p : List Nat) : Option BA := iterM (baC o) (baS o) 2000 (p, [])
def ba_comp : MF := mComp (chs []) [7] (asL (fX (fCall F_rounds_between (fCons (fVar 2) (fCons (fVar 1) (fNil)))))) (tgN 7) (mT (fB (f2 gGt (fL gLen (fCons (fVar 7) (fNil))) (fC (.int 1))))) (mN (fL gSortI (fCons (fVar 7) (fNil))))
def ba_s2 : SF := sAsg (mN (fSl (fL gMinLL (fCons (fVar 4) (fNil))) (oNone) (oSome (fC (.int 2))))) (toL 2 (toCons (toN 5) (toCons (toN 6) (toNil))))
def ba_s3 : SF := sAsg (mTup (aVa (mN (fImm (f2 gIx (fVar 2) (fVar 6)))) (aVa (mN (fImm (f2 gIx (fVar 2) (fVar 5)))) (aNil)))) (toT 2 (toCons (toIx 2 (fVar 5)) (toCons (toIx 2 (fVar 6)) (toNil))))
def ba_s4 : SF := sDrop (mMeth "list" hAppend 3 (aVa (mTup (aVa (mMove 5) (aVa (mMove 6) (aNil)))) (aNil)))
def ba_body : SF := sSeq (sSet 4 ba_comp) (sSeq ba_s2 (sSeq ba_s3 ba_s4))
def ba_cond : Env → Option (R Bool) := mT (fB (f2 (gEq true) (fVar 2) (fVar 1)))
theorem ba_eq : G_fewest_by_all = sSeq (sSet 2 (mN (fL gList (fCons (fVar 0) (fNil)))))
    (sSeq (sSet 3 (mN (fLstI (fNil))))
    (sSeq (sWhile ba_cond ba_body 2000)
    (sRet (mMove 3)))) := rfl
theorem sort_mk (r : List Nat) : gSortI [mk cst r] = some (.lst ((PySem.W.sortI (r.map cst)).map D.int)) := by
  rw [mk_ints]
  unfold gSortI
  simp only [intsD_map]
theorem imms_ints : ∀ l : List Int, imms (l.map D.int) = true
  | [] => rfl
  | x :: l => by show (true && imms _) = true; rw [imms_ints l]; rfl
section
variable {π : Nat → Int} (inj : ∀ i j, π i = π j → i = j)
include inj
theorem eq_mk (neg : Bool) (h o : List Nat) : gEq neg (mk π h) (mk π o) = some (.bl (if neg then !decide (h = o) else decide (h = o))) := by
  have := gEq_enc (α := List Int) (neg := neg) (a := h.map π) (b := o.map π) (by decide)
  rw [show (enc (h.map π) : D) = mk π h from (mk_ints π h).symm, show (enc (o.map π) : D) = mk π o from (mk_ints π o).symm] at this
  rw [this]
  have e : decide (h.map π = o.map π) = decide (h = o) := decide_eq_decide.mpr ⟨fun q => map_inj inj (fun x => x) (fun _ _ z => z) h o q, fun q => by rw [q]⟩
  rw [e]
theorem wide_run (one : D) (o h : List Nat) (row : D) (s4 s5 s6 : Option Slot) {f : List (List Nat)} {m : List (List Int)} (ef : rdN o h = some f) (em : compN keepW f = some m) (hl : f.length < 1000) :
    ba_comp [some ⟨.shr, one⟩, some ⟨.shr, mk π o⟩, some ⟨.own, mk π h⟩, some ⟨.own, row⟩, s4, s5, s6, none] = some (.ok (.lst (m.map fun ns => D.lst (ns.map D.int))) [some ⟨.shr, one⟩, some ⟨.shr, mk π o⟩, some ⟨.own, mk π h⟩, some ⟨.own, row⟩, s4, s5, s6, none]) := by
  have c := rd_spec inj ef
  have hi : asL (fX (fCall F_rounds_between (fCons (fVar 2) (fCons (fVar 1) (fNil))))) (clr (chx (chs []) [7] 8) [some ⟨.shr, one⟩, some ⟨.shr, mk π o⟩, some ⟨.own, mk π h⟩, some ⟨.own, row⟩, s4, s5, s6, none]) = some (f.map (mk cst)) := by
    have q1 : fVar 2 (clr (chx (chs []) [7] 8) [some ⟨.shr, one⟩, some ⟨.shr, mk π o⟩, some ⟨.own, mk π h⟩, some ⟨.own, row⟩, s4, s5, s6, none]) = some (mk π h) := rfl
    have q2 : fVar 1 (clr (chx (chs []) [7] 8) [some ⟨.shr, one⟩, some ⟨.shr, mk π o⟩, some ⟨.own, mk π h⟩, some ⟨.own, row⟩, s4, s5, s6, none]) = some (mk π o) := rfl
    simp [asL, fX, fCall, fCons, q1, q2, fNil, c]
  refine mComp_run (out := fun ns : List Int => D.lst (ns.map D.int)) (enc := mk cst) (E := [some ⟨.pin, one⟩, some ⟨.pin, mk π o⟩, some ⟨.pin, mk π h⟩, some ⟨.pin, row⟩, frzS s4, frzS s5, frzS s6, none]) (p := keepW) chs_nil hi (by rfl) (fun x ex => ?_) (fun x y ex => ?_) em (by unfold LIM; omega)
  · unfold keepW at ex
    split at ex
    · cases ex
    · rename_i hx
      have hd : ¬ (1 : Int) < (x.length : Int) := by omega
      refine ⟨[some ⟨.pin, one⟩, some ⟨.pin, mk π o⟩, some ⟨.pin, mk π h⟩, some ⟨.pin, row⟩, frzS s4, frzS s5, frzS s6, some ⟨.shr, mk cst x⟩], [some ⟨.pin, one⟩, some ⟨.pin, mk π o⟩, some ⟨.pin, mk π h⟩, some ⟨.pin, row⟩, frzS s4, frzS s5, frzS s6, some ⟨.shr, mk cst x⟩], rfl, ?_, rfl⟩
      simp [mT, fB, f2, fL, fCons, fVar, fNil, len_mk, fC, gGt, gCmp, hd]
  · unfold keepW at ex
    split at ex
    · rename_i hx
      cases ex
      have hd : (1 : Int) < (x.length : Int) := by omega
      refine ⟨[some ⟨.pin, one⟩, some ⟨.pin, mk π o⟩, some ⟨.pin, mk π h⟩, some ⟨.pin, row⟩, frzS s4, frzS s5, frzS s6, some ⟨.shr, mk cst x⟩], [some ⟨.pin, one⟩, some ⟨.pin, mk π o⟩, some ⟨.pin, mk π h⟩, some ⟨.pin, row⟩, frzS s4, frzS s5, frzS s6, some ⟨.shr, mk cst x⟩], [some ⟨.pin, one⟩, some ⟨.pin, mk π o⟩, some ⟨.pin, mk π h⟩, some ⟨.pin, row⟩, frzS s4, frzS s5, frzS s6, some ⟨.shr, mk cst x⟩], rfl, ?_, ?_, rfl⟩
      · simp [mT, fB, f2, fL, fCons, fVar, fNil, len_mk, fC, gGt, gCmp, hd]
      · simp [mN, fL, fCons, fVar, fNil, sort_mk]
    · cases ex
omit inj in
def RBA (π : Nat → Int) (one : D) (o : List Nat) (b : BA) (env : Env) : Prop := ∃ s4 s5 s6, env = [some ⟨.shr, one⟩, some ⟨.shr, mk π o⟩, some ⟨.own, mk π b.1⟩, some ⟨.own, .lst (b.2.map swD)⟩, s4, s5, s6, none] ∧ npo (some s4) = true ∧ npo (some s5) = true ∧ npo (some s6) = true
theorem ba_step (one : D) (o : List Nat) (b b' : BA) (env : Env) (r : RBA π one o b env) (e : baS o b = some b') : ∃ env', ba_body env = some (.nx env') ∧ RBA π one o b' env' := by
  obtain ⟨s4, s5, s6, rfl, h4, h5, h6⟩ := r
  unfold baS at e
  split at e
  · rename_i f ef
    split at e
    · rename_i x m em
      split at e
      · rename_i a c eac
        split at e
        · rename_i k
          split at e
          · rename_i h eh
            cases e
            unfold swp at eh
            split at eh
            · rename_i u v eu ev
              split at eh
              · rename_i hl
                cases eh
                simp only at eu ev
                have lu := (List.getElem?_eq_some_iff.mp eu).1
                have lv := (List.getElem?_eq_some_iff.mp ev).1
                have q1 := wide_run inj one o b.1 (.lst (b.2.map swD)) s4 s5 s6 ef em k.2.2.1
                have gm : gMinLL [D.lst ((x :: m).map fun ns => D.lst (ns.map D.int))] = some (.lst ((PySem.W.minOf x m).map D.int)) := by
                  unfold gMinLL
                  simp only [rowsD_map]
                obtain ⟨wl, hwl⟩ : ∃ wl, wl = D.lst ((x :: m).map fun ns => D.lst (ns.map D.int)) := ⟨_, rfl⟩
                rw [← hwl] at gm q1
                have ct : cutD ((PySem.W.minOf x m).map D.int) none (some 2) = [.int a, .int c] := by
                  have := cut_to D.int (PySem.W.minOf x m) 2
                  rw [eac] at this
                  exact this
                have ea : a = ((a.toNat : Nat) : Int) := by omega
                have ec : c = ((c.toNat : Nat) : Int) := by omega
                have z1 : sSet 4 ba_comp [some ⟨.shr, one⟩, some ⟨.shr, mk π o⟩, some ⟨.own, mk π b.1⟩, some ⟨.own, .lst (b.2.map swD)⟩, s4, s5, s6, none] = some (.nx [some ⟨.shr, one⟩, some ⟨.shr, mk π o⟩, some ⟨.own, mk π b.1⟩, some ⟨.own, .lst (b.2.map swD)⟩, some ⟨.own, wl⟩, s5, s6, none]) := by
                  simp only [sSet, q1]
                  simp [canSet_np, h4]
                have z2 : ba_s2 [some ⟨.shr, one⟩, some ⟨.shr, mk π o⟩, some ⟨.own, mk π b.1⟩, some ⟨.own, .lst (b.2.map swD)⟩, some ⟨.own, wl⟩, s5, s6, none] = some (.nx [some ⟨.shr, one⟩, some ⟨.shr, mk π o⟩, some ⟨.own, mk π b.1⟩, some ⟨.own, .lst (b.2.map swD)⟩, some ⟨.own, wl⟩, some ⟨.own, .int a⟩, some ⟨.own, .int c⟩, none]) := by
                  have y1 : fL gMinLL (fCons (fVar 4) (fNil)) [some ⟨.shr, one⟩, some ⟨.shr, mk π o⟩, some ⟨.own, mk π b.1⟩, some ⟨.own, .lst (b.2.map swD)⟩, some ⟨.own, wl⟩, s5, s6, none] = some (.lst ((PySem.W.minOf x m).map D.int)) := gm
                  simp [ba_s2, sAsg, mN, fSl, y1, oNone, oSome, fC, gSl, imms_ints, ct, toL, toCons, toN, canSet_np, h5, h6, toNil]
                have i1 : gIx (mk π b.1) (.int a) = some (.int (π u)) := by rw [ea]; exact ix_mk eu
                have i2 : gIx (mk π b.1) (.int c) = some (.int (π v)) := by rw [ec]; exact ix_mk ev
                have k1 : ixN b.1.length a = some a.toNat := ixN_ok k.1 (by omega)
                have k2 : ixN b.1.length c = some c.toNat := ixN_ok k.2.1 (by omega)
                have hl' : b.1.length ≤ 1000000 := by omega
                have z3 : ba_s3 [some ⟨.shr, one⟩, some ⟨.shr, mk π o⟩, some ⟨.own, mk π b.1⟩, some ⟨.own, .lst (b.2.map swD)⟩, some ⟨.own, wl⟩, some ⟨.own, .int a⟩, some ⟨.own, .int c⟩, none] = some (.nx [some ⟨.shr, one⟩, some ⟨.shr, mk π o⟩, some ⟨.own, mk π ((b.1.set a.toNat v).set c.toNat u)⟩, some ⟨.own, .lst (b.2.map swD)⟩, some ⟨.own, wl⟩, some ⟨.own, .int a⟩, some ⟨.own, .int c⟩, none]) := by
                  simp [ba_s3, sAsg, mTup, aVa, mN, fImm, f2, fVar, i1, i2, imm, aNil, vaL, LIM, toT, toCons]
                  simp [mk, toIx, Md.ex, LIM, hl', fVar, k1, k2, toNil, List.map_set]
                have hr : b.2.length < 1000000 := by omega
                have tyl : tyD "list" (D.lst (b.2.map swD)) = true := rfl
                refine ⟨[some ⟨.shr, one⟩, some ⟨.shr, mk π o⟩, some ⟨.own, mk π ((b.1.set a.toNat v).set c.toNat u)⟩, some ⟨.own, .lst ((b.2 ++ [(a.toNat, c.toNat)]).map swD)⟩, some ⟨.own, wl⟩, some ⟨.own, .int a⟩, some ⟨.own, .int c⟩, none], ?_, _, _, _, rfl, rfl, rfl, rfl⟩
                unfold ba_body
                rw [sSeq_nx z1, sSeq_nx z2, sSeq_nx z3]
                have sw : swD (a.toNat, c.toNat) = .tup [.int a, .int c] := by unfold swD; rw [← ea, ← ec]
                rw [List.map_append, List.map_singleton, sw]
                simp [ba_s4, sDrop, mMeth, fVar, tyl, aVa, mTup, mMove, imm, aNil, vaL, LIM, chgS, hAppend, hr, Md.ex]
              · cases eh
            · cases eh
          · cases e
        · cases e
      · cases e
    · cases e
  · cases e
theorem ba_spec {o p : List Nat} {b : BA} (e : baN o p = some b) : F_fewest_by_all [mk π p, mk π o] = some (.ok (.lst (b.2.map swD)) [none, none]) := by
  obtain ⟨env', e1, s4, s5, s6, rfl, h4, h5, h6⟩ := sWhile_relM (t := ba_cond) (g := ba_body) (R := RBA π (mk π p) o) (c := baC o) (step := baS o)
    (fun b env ⟨s4, s5, s6, ee, _⟩ => by
      subst ee
      have := eq_mk inj true b.1 o
      simp [ba_cond, mT, fB, f2, fVar, this, baC])
    (fun b b' env r _ e0 => ba_step inj _ o b b' env r e0) 2000 (p, []) b
    [some ⟨.shr, mk π p⟩, some ⟨.shr, mk π o⟩, some ⟨.own, mk π p⟩, some ⟨.own, .lst []⟩, none, none, none, none] ⟨none, none, none, rfl, rfl, rfl, rfl⟩ e
  show fnOut [.shr, .shr] (G_fewest_by_all [some ⟨.shr, mk π p⟩, some ⟨.shr, mk π o⟩, none, none, none, none, none, none]) = _
  rw [ba_eq, sSeq_nx (env' := [some ⟨.shr, mk π p⟩, some ⟨.shr, mk π o⟩, some ⟨.own, mk π p⟩, none, none, none, none, none]) (by simp [sSet, mN, fL, fCons, fVar, fNil, gList_mk, canSet_np]),
    sSeq_nx (env' := [some ⟨.shr, mk π p⟩, some ⟨.shr, mk π o⟩, some ⟨.own, mk π p⟩, some ⟨.own, .lst []⟩, none, none, none, none]) (by simp [sSet, mN, fLstI, fNil, LIM, imms, canSet_np]), sSeq_nx e1]
  rfl
end
end DL


set_option Elab.async false
set_option linter.all false
set_option maxRecDepth 100000
set_option maxHeartbeats 0
namespace DL
open PySem L2 Enc
def everyN (n : Nat) : List (Nat × Nat) := (List.range n).flatMap fun a => ((List.range n).filter fun b => decide (a < b)).map fun b => (a, b)
def nearN (n : Nat) : List (Nat × Nat) := (everyN n).filter fun s => decide (s.2 = s.1 + 1)
def tabE0 : Far := [([], 0)]
theorem farE0 : farS (everyN 0) (List.range 0) = some (tabE0, []) := by decide +kernel
def tabN0 : Far := [([], 0)]
theorem farN0 : farS (nearN 0) (List.range 0) = some (tabN0, []) := by decide +kernel
def tabE1 : Far := [([0], 0)]
theorem farE1 : farS (everyN 1) (List.range 1) = some (tabE1, []) := by decide +kernel
def tabN1 : Far := [([0], 0)]
theorem farN1 : farS (nearN 1) (List.range 1) = some (tabN1, []) := by decide +kernel
def tabE2 : Far := [([0, 1], 0), ([1, 0], 1)]
theorem farE2 : farS (everyN 2) (List.range 2) = some (tabE2, []) := by decide +kernel
def tabN2 : Far := [([0, 1], 0), ([1, 0], 1)]
theorem farN2 : farS (nearN 2) (List.range 2) = some (tabN2, []) := by decide +kernel
def tabE3 : Far := [([0, 1, 2], 0), ([1, 0, 2], 1), ([2, 1, 0], 1), ([0, 2, 1], 1), ([2, 0, 1], 2), ([1, 2, 0], 2)]
theorem farE3 : farS (everyN 3) (List.range 3) = some (tabE3, []) := by decide +kernel
def tabN3 : Far := [([0, 1, 2], 0), ([1, 0, 2], 1), ([0, 2, 1], 1), ([1, 2, 0], 2), ([2, 0, 1], 2), ([2, 1, 0], 3)]
theorem farN3 : farS (nearN 3) (List.range 3) = some (tabN3, []) := by decide +kernel
def tabE4 : Far := [([0, 1, 2, 3], 0), ([1, 0, 2, 3], 1), ([2, 1, 0, 3], 1), ([3, 1, 2, 0], 1), ([0, 2, 1, 3], 1), ([0, 3, 2, 1], 1), ([0, 1, 3, 2], 1), ([2, 0, 1, 3], 2), ([3, 0, 2, 1], 2), ([1, 2, 0, 3], 2), ([1, 3, 2, 0], 2), ([1, 0, 3, 2], 2), ([3, 1, 0, 2], 2), ([2, 3, 0, 1], 2), ([2, 1, 3, 0], 2), ([3, 2, 1, 0], 2), ([0, 3, 1, 2], 2), ([0, 2, 3, 1], 2), ([3, 0, 1, 2], 3), ([2, 3, 1, 0], 3), ([2, 0, 3, 1], 3), ([3, 2, 0, 1], 3), ([1, 3, 0, 2], 3), ([1, 2, 3, 0], 3)]
theorem farE4 : farS (everyN 4) (List.range 4) = some (tabE4, []) := by decide +kernel
def tabN4 : Far := [([0, 1, 2, 3], 0), ([1, 0, 2, 3], 1), ([0, 2, 1, 3], 1), ([0, 1, 3, 2], 1), ([1, 2, 0, 3], 2), ([1, 0, 3, 2], 2), ([2, 0, 1, 3], 2), ([0, 2, 3, 1], 2), ([0, 3, 1, 2], 2), ([2, 1, 0, 3], 3), ([1, 2, 3, 0], 3), ([1, 3, 0, 2], 3), ([2, 0, 3, 1], 3), ([0, 3, 2, 1], 3), ([3, 0, 1, 2], 3), ([2, 1, 3, 0], 4), ([1, 3, 2, 0], 4), ([3, 1, 0, 2], 4), ([2, 3, 0, 1], 4), ([3, 0, 2, 1], 4), ([2, 3, 1, 0], 5), ([3, 1, 2, 0], 5), ([3, 2, 0, 1], 5), ([3, 2, 1, 0], 6)]
theorem farN4 : farS (nearN 4) (List.range 4) = some (tabN4, []) := by decide +kernel
def tabE5 : Far := [([0, 1, 2, 3, 4], 0), ([1, 0, 2, 3, 4], 1), ([2, 1, 0, 3, 4], 1), ([3, 1, 2, 0, 4], 1), ([4, 1, 2, 3, 0], 1), ([0, 2, 1, 3, 4], 1), ([0, 3, 2, 1, 4], 1), ([0, 4, 2, 3, 1], 1), ([0, 1, 3, 2, 4], 1), ([0, 1, 4, 3, 2], 1), ([0, 1, 2, 4, 3], 1), ([2, 0, 1, 3, 4], 2), ([3, 0, 2, 1, 4], 2), ([4, 0, 2, 3, 1], 2), ([1, 2, 0, 3, 4], 2), ([1, 3, 2, 0, 4], 2), ([1, 4, 2, 3, 0], 2), ([1, 0, 3, 2, 4], 2), ([1, 0, 4, 3, 2], 2), ([1, 0, 2, 4, 3], 2), ([3, 1, 0, 2, 4], 2), ([4, 1, 0, 3, 2], 2), ([2, 3, 0, 1, 4], 2), ([2, 4, 0, 3, 1], 2), ([2, 1, 3, 0, 4], 2), ([2, 1, 4, 3, 0], 2), ([2, 1, 0, 4, 3], 2), ([4, 1, 2, 0, 3], 2), ([3, 2, 1, 0, 4], 2), ([3, 4, 2, 0, 1], 2), ([3, 1, 4, 0, 2], 2), ([3, 1, 2, 4, 0], 2), ([4, 2, 1, 3, 0], 2), ([4, 3, 2, 1, 0], 2), ([4, 1, 3, 2, 0], 2), ([0, 3, 1, 2, 4], 2), ([0, 4, 1, 3, 2], 2), ([0, 2, 3, 1, 4], 2), ([0, 2, 4, 3, 1], 2), ([0, 2, 1, 4, 3], 2), ([0, 4, 2, 1, 3], 2), ([0, 3, 4, 1, 2], 2), ([0, 3, 2, 4, 1], 2), ([0, 4, 3, 2, 1], 2), ([0, 1, 4, 2, 3], 2), ([0, 1, 3, 4, 2], 2), ([3, 0, 1, 2, 4], 3), ([4, 0, 1, 3, 2], 3), ([2, 3, 1, 0, 4], 3), ([2, 4, 1, 3, 0], 3), ([2, 0, 3, 1, 4], 3), ([2, 0, 4, 3, 1], 3), ([2, 0, 1, 4, 3], 3), ([4, 0, 2, 1, 3], 3), ([3, 2, 0, 1, 4], 3), ([3, 4, 2, 1, 0], 3), ([3, 0, 4, 1, 2], 3), ([3, 0, 2, 4, 1], 3), ([4, 2, 0, 3, 1], 3), ([4, 3, 2, 0, 1], 3), ([4, 0, 3, 2, 1], 3), ([1, 3, 0, 2, 4], 3), ([1, 4, 0, 3, 2], 3), ([1, 2, 3, 0, 4], 3), ([1, 2, 4, 3, 0], 3), ([1, 2, 0, 4, 3], 3), ([1, 4, 2, 0, 3], 3), ([1, 3, 4, 0, 2], 3), ([1, 3, 2, 4, 0], 3), ([1, 4, 3, 2, 0], 3), ([1, 0, 4, 2, 3], 3), ([1, 0, 3, 4, 2], 3), ([4, 1, 0, 2, 3], 3), ([3, 4, 0, 2, 1], 3), ([3, 1, 4, 2, 0], 3), ([3, 1, 0, 4, 2], 3), ([4, 3, 0, 1, 2], 3), ([4, 1, 3, 0, 2], 3), ([2, 4, 0, 1, 3], 3), ([2, 3, 4, 1, 0], 3), ([2, 3, 0, 4, 1], 3), ([2, 4, 3, 0, 1], 3), ([2, 1, 4, 0, 3], 3), ([2, 1, 3, 4, 0], 3), ([4, 2, 1, 0, 3], 3), ([3, 4, 1, 0, 2], 3), ([3, 2, 4, 0, 1], 3), ([3, 2, 1, 4, 0], 3), ([4, 3, 1, 2, 0], 3), ([4, 2, 3, 1, 0], 3), ([0, 4, 1, 2, 3], 3), ([0, 3, 4, 2, 1], 3), ([0, 3, 1, 4, 2], 3), ([0, 4, 3, 1, 2], 3), ([0, 2, 4, 1, 3], 3), ([0, 2, 3, 4, 1], 3), ([4, 0, 1, 2, 3], 4), ([3, 4, 1, 2, 0], 4), ([3, 0, 4, 2, 1], 4), ([3, 0, 1, 4, 2], 4), ([4, 3, 1, 0, 2], 4), ([4, 0, 3, 1, 2], 4), ([2, 4, 1, 0, 3], 4), ([2, 3, 4, 0, 1], 4), ([2, 3, 1, 4, 0], 4), ([2, 4, 3, 1, 0], 4), ([2, 0, 4, 1, 3], 4), ([2, 0, 3, 4, 1], 4), ([4, 2, 0, 1, 3], 4), ([3, 4, 0, 1, 2], 4), ([3, 2, 4, 1, 0], 4), ([3, 2, 0, 4, 1], 4), ([4, 3, 0, 2, 1], 4), ([4, 2, 3, 0, 1], 4), ([1, 4, 0, 2, 3], 4), ([1, 3, 4, 2, 0], 4), ([1, 3, 0, 4, 2], 4), ([1, 4, 3, 0, 2], 4), ([1, 2, 4, 0, 3], 4), ([1, 2, 3, 4, 0], 4)]
theorem farE5 : farS (everyN 5) (List.range 5) = some (tabE5, []) := by decide +kernel
def tabN5 : Far := [([0, 1, 2, 3, 4], 0), ([1, 0, 2, 3, 4], 1), ([0, 2, 1, 3, 4], 1), ([0, 1, 3, 2, 4], 1), ([0, 1, 2, 4, 3], 1), ([1, 2, 0, 3, 4], 2), ([1, 0, 3, 2, 4], 2), ([1, 0, 2, 4, 3], 2), ([2, 0, 1, 3, 4], 2), ([0, 2, 3, 1, 4], 2), ([0, 2, 1, 4, 3], 2), ([0, 3, 1, 2, 4], 2), ([0, 1, 3, 4, 2], 2), ([0, 1, 4, 2, 3], 2), ([2, 1, 0, 3, 4], 3), ([1, 2, 3, 0, 4], 3), ([1, 2, 0, 4, 3], 3), ([1, 3, 0, 2, 4], 3), ([1, 0, 3, 4, 2], 3), ([1, 0, 4, 2, 3], 3), ([2, 0, 3, 1, 4], 3), ([2, 0, 1, 4, 3], 3), ([0, 3, 2, 1, 4], 3), ([0, 2, 3, 4, 1], 3), ([0, 2, 4, 1, 3], 3), ([3, 0, 1, 2, 4], 3), ([0, 3, 1, 4, 2], 3), ([0, 1, 4, 3, 2], 3), ([0, 4, 1, 2, 3], 3), ([2, 1, 3, 0, 4], 4), ([2, 1, 0, 4, 3], 4), ([1, 3, 2, 0, 4], 4), ([1, 2, 3, 4, 0], 4), ([1, 2, 4, 0, 3], 4), ([3, 1, 0, 2, 4], 4), ([1, 3, 0, 4, 2], 4), ([1, 0, 4, 3, 2], 4), ([1, 4, 0, 2, 3], 4), ([2, 3, 0, 1, 4], 4), ([2, 0, 3, 4, 1], 4), ([2, 0, 4, 1, 3], 4), ([3, 0, 2, 1, 4], 4), ([0, 3, 2, 4, 1], 4), ([0, 2, 4, 3, 1], 4), ([0, 4, 2, 1, 3], 4), ([3, 0, 1, 4, 2], 4), ([0, 3, 4, 1, 2], 4), ([0, 4, 1, 3, 2], 4), ([4, 0, 1, 2, 3], 4), ([2, 3, 1, 0, 4], 5), ([2, 1, 3, 4, 0], 5), ([2, 1, 4, 0, 3], 5), ([3, 1, 2, 0, 4], 5), ([1, 3, 2, 4, 0], 5), ([1, 2, 4, 3, 0], 5), ([1, 4, 2, 0, 3], 5), ([3, 1, 0, 4, 2], 5), ([1, 3, 4, 0, 2], 5), ([1, 4, 0, 3, 2], 5), ([4, 1, 0, 2, 3], 5), ([3, 2, 0, 1, 4], 5), ([2, 3, 0, 4, 1], 5), ([2, 0, 4, 3, 1], 5), ([2, 4, 0, 1, 3], 5), ([3, 0, 2, 4, 1], 5), ([0, 3, 4, 2, 1], 5), ([0, 4, 2, 3, 1], 5), ([4, 0, 2, 1, 3], 5), ([3, 0, 4, 1, 2], 5), ([0, 4, 3, 1, 2], 5), ([4, 0, 1, 3, 2], 5), ([3, 2, 1, 0, 4], 6), ([2, 3, 1, 4, 0], 6), ([2, 1, 4, 3, 0], 6), ([2, 4, 1, 0, 3], 6), ([3, 1, 2, 4, 0], 6), ([1, 3, 4, 2, 0], 6), ([1, 4, 2, 3, 0], 6), ([4, 1, 2, 0, 3], 6), ([3, 1, 4, 0, 2], 6), ([1, 4, 3, 0, 2], 6), ([4, 1, 0, 3, 2], 6), ([3, 2, 0, 4, 1], 6), ([2, 3, 4, 0, 1], 6), ([2, 4, 0, 3, 1], 6), ([4, 2, 0, 1, 3], 6), ([3, 0, 4, 2, 1], 6), ([0, 4, 3, 2, 1], 6), ([4, 0, 2, 3, 1], 6), ([3, 4, 0, 1, 2], 6), ([4, 0, 3, 1, 2], 6), ([3, 2, 1, 4, 0], 7), ([2, 3, 4, 1, 0], 7), ([2, 4, 1, 3, 0], 7), ([4, 2, 1, 0, 3], 7), ([3, 1, 4, 2, 0], 7), ([1, 4, 3, 2, 0], 7), ([4, 1, 2, 3, 0], 7), ([3, 4, 1, 0, 2], 7), ([4, 1, 3, 0, 2], 7), ([3, 2, 4, 0, 1], 7), ([2, 4, 3, 0, 1], 7), ([4, 2, 0, 3, 1], 7), ([3, 4, 0, 2, 1], 7), ([4, 0, 3, 2, 1], 7), ([4, 3, 0, 1, 2], 7), ([3, 2, 4, 1, 0], 8), ([2, 4, 3, 1, 0], 8), ([4, 2, 1, 3, 0], 8), ([3, 4, 1, 2, 0], 8), ([4, 1, 3, 2, 0], 8), ([4, 3, 1, 0, 2], 8), ([3, 4, 2, 0, 1], 8), ([4, 2, 3, 0, 1], 8), ([4, 3, 0, 2, 1], 8), ([3, 4, 2, 1, 0], 9), ([4, 2, 3, 1, 0], 9), ([4, 3, 1, 2, 0], 9), ([4, 3, 2, 0, 1], 9), ([4, 3, 2, 1, 0], 10)]
theorem farN5 : farS (nearN 5) (List.range 5) = some (tabN5, []) := by decide +kernel
def ins (x : Nat) : List Nat → List (List Nat)
  | [] => [[x]]
  | y :: l => (x :: y :: l) :: (ins x l).map fun m => y :: m
def perms : List Nat → List (List Nat)
  | [] => [[]]
  | x :: l => (perms l).flatMap (ins x)
/-- all that the law asks of two orders -/
def chk1 (n : Nat) (fe fn : Far) (p : List Nat) : Bool := match firN fe (everyN n) p, firN fn (nearN n) p, baN (List.range n) p, nbN (List.range n) p, rdN (List.range n) p with
  | some a, some b, some c, some d, some f => decide (c.2 = a.1) && decide (d.2.1 = b.1) && (decide (((p.length : Int) - (f.length : Int)) % 2 = 0) == decide ((a.1.length : Int) % 2 = 0)) && decide ((a.1.length : Int) % 2 = (b.1.length : Int) % 2)
  | _, _, _, _, _ => false
theorem chk0 : (perms (List.range 0)).all (chk1 0 tabE0 tabN0) = true := by decide +kernel
theorem chk1_ : (perms (List.range 1)).all (chk1 1 tabE1 tabN1) = true := by decide +kernel
theorem chk2 : (perms (List.range 2)).all (chk1 2 tabE2 tabN2) = true := by decide +kernel
theorem chk3 : (perms (List.range 3)).all (chk1 3 tabE3 tabN3) = true := by decide +kernel
theorem chk4 : (perms (List.range 4)).all (chk1 4 tabE4 tabN4) = true := by decide +kernel
end DL


set_option Elab.async false
set_option linter.all false
set_option maxRecDepth 100000
set_option maxHeartbeats 0
namespace DL
open PySem L2 Enc
theorem chk5a : ((perms (List.range 5)).take 30).all (chk1 5 tabE5 tabN5) = true := by decide +kernel
theorem chk5b : (((perms (List.range 5)).drop 30).take 30).all (chk1 5 tabE5 tabN5) = true := by decide +kernel
theorem chk5c : (((perms (List.range 5)).drop 60).take 30).all (chk1 5 tabE5 tabN5) = true := by decide +kernel
theorem chk5d : ((perms (List.range 5)).drop 90).all (chk1 5 tabE5 tabN5) = true := by decide +kernel
theorem all_parts {α : Type} (f : α → Bool) (l : List α) (a b c : l.all f = l.all f) : True := trivial
theorem chk5 : (perms (List.range 5)).all (chk1 5 tabE5 tabN5) = true := by
  have e : perms (List.range 5) = (perms (List.range 5)).take 30 ++ (((perms (List.range 5)).drop 30).take 30 ++ (((perms (List.range 5)).drop 60).take 30 ++ (perms (List.range 5)).drop 90)) := by decide +kernel
  rw [e, List.all_append, List.all_append, List.all_append, chk5a, chk5b, chk5c, chk5d]
  rfl
end DL


set_option Elab.async false
set_option linter.all false
set_option maxRecDepth 100000
namespace DL
open PySem L2 Enc
/-! ### all orders -/
theorem ins_mem (x : Nat) : ∀ (s t : List Nat), s ++ x :: t ∈ ins x (s ++ t)
  | [], [] => by simp [ins]
  | [], y :: t => by simp [ins]
  | y :: s, t => by
    have := ins_mem x s t
    show y :: (s ++ x :: t) ∈ (x :: y :: (s ++ t)) :: (ins x (s ++ t)).map fun m => y :: m
    exact List.mem_cons_of_mem _ (List.mem_map.mpr ⟨_, this, rfl⟩)
theorem perms_mem : ∀ (l p : List Nat), p.Perm l → p ∈ perms l
  | [], p, h => by rw [List.Perm.eq_nil h]; simp [perms]
  | x :: l, p, h => by
    have hx : x ∈ p := h.symm.subset List.mem_cons_self
    obtain ⟨s, t, rfl⟩ := List.append_of_mem hx
    have h2 : (s ++ t).Perm l := (List.perm_cons x).mp ((List.perm_middle (a := x)).symm.trans h)
    exact List.mem_flatMap.mpr ⟨_, perms_mem l _ h2, ins_mem x s t⟩
/-! ### places, one after the other -/
theorem sLoop_inv {tg : TgD} {g : SF} {enc : Nat → D} {R : Nat → Env → Prop} : ∀ (m s : Nat), (∀ k env, s ≤ k → k < s + m → R k env → ∃ env1 env2, tg (enc k) env = some env1 ∧ g env1 = some (.nx env2) ∧ env2.length = env.length ∧ R (k + 1) env2) →
    ∀ env, R s env → ∃ env', sLoop tg g ((List.range' s m).map enc) env = some (.nx env') ∧ env'.length = env.length ∧ R (s + m) env'
  | 0, s, h, env, r => ⟨env, rfl, rfl, r⟩
  | m + 1, s, h, env, r => by
    obtain ⟨env1, env2, e1, e2, l2, r2⟩ := h s env (Nat.le_refl _) (by omega) r
    obtain ⟨env', e3, l3, r3⟩ := sLoop_inv m (s + 1) (fun k env h1 h2 => h k env (by omega) (by omega)) env2 r2
    refine ⟨env', ?_, l3.trans l2, by rw [show s + (m + 1) = s + 1 + m by omega]; exact r3⟩
    rw [List.range'_succ, List.map_cons]
    unfold sLoop
    rw [e1]
    simp only [e2, l2, if_true]
    exact e3
theorem sLoop_rng {tg : TgD} {g : SF} {enc : Nat → D} {R : Nat → Env → Prop} (n : Nat) (h : ∀ k env, k < n → R k env → ∃ env1 env2, tg (enc k) env = some env1 ∧ g env1 = some (.nx env2) ∧ env2.length = env.length ∧ R (k + 1) env2) (env : Env) (r : R 0 env) :
    ∃ env', sLoop tg g ((List.range n).map enc) env = some (.nx env') ∧ env'.length = env.length ∧ R n env' := by
  obtain ⟨env', e, l, r'⟩ := sLoop_inv n 0 (fun k env _ h2 => h k env (by omega)) env r
  rw [List.range_eq_range']
  rw [Nat.zero_add] at r'
  exact ⟨env', e, l, r'⟩
end DL


set_option Elab.async false
set_option linter.all false
set_option maxRecDepth 100000
namespace DL
open PySem L2 Enc
def cl_body : SF := sDrop (mMeth "list" hInsert 2 (aVa (mCall [.chg, .shr] F_law_draw (aNm 0 (aVa (mN (f2 gAdd (fVar 3) (fC (.int 1)))) (aNil)))) (aVa (mMove 3) (aNil))))
theorem cl_eq : G_law_called = sSeq (sSet 2 (mN (fLstI (fNil))))
    (sSeq (sFor (chs [0, 2, 3]) (asR1 (fCons (fVar 1) (fNil))) (tgN 3) cl_body)
    (sRet (mMove 2))) := rfl
theorem insert_perm {f : List Nat} {k g : Nat} (h : f.Perm (List.range k)) : (f.take g ++ [k] ++ f.drop g).Perm (List.range (k + 1)) := by
  rw [List.range_succ]
  have h1 : (f.take g ++ [k] ++ f.drop g).Perm (k :: (f.take g ++ f.drop g)) := by
    rw [List.append_assoc]
    exact List.perm_middle
  rw [List.take_append_drop] at h1
  exact h1.trans ((List.perm_cons k).mpr h |>.trans (List.perm_append_comm (l₁ := [k]) (l₂ := List.range k)))
theorem cl_step (n k : Nat) (hk : k < n) (hn : n ≤ 1000) (d s : Int) (f : List Nat) (s3 : Option Slot) (ok : HdOk d s) (hp : f.Perm (List.range k)) (h3 : npo (some s3) = true) :
    ∃ env1 env2, tgN 3 (.int (k : Int)) [some ⟨.chg, Hd d s⟩, some ⟨.pin, .int (n : Int)⟩, some ⟨.own, mk cst f⟩, s3] = some env1 ∧ cl_body env1 = some (.nx env2) ∧ env2.length = 4 ∧
      ∃ d' s' f' t3, env2 = [some ⟨.chg, Hd d' s'⟩, some ⟨.pin, .int (n : Int)⟩, some ⟨.own, mk cst f'⟩, t3] ∧ HdOk d' s' ∧ f'.Perm (List.range (k + 1)) ∧ npo (some t3) = true := by
  obtain ⟨g, d', s', e, g0, g1, ok'⟩ := draw_spec ok (show (0 : Int) < (k : Int) + 1 by omega) (by omega)
  have i1 : immM (.int (k : Int)) = .own := rfl
  refine ⟨[some ⟨.chg, Hd d s⟩, some ⟨.pin, .int (n : Int)⟩, some ⟨.own, mk cst f⟩, some ⟨.own, .int (k : Int)⟩], [some ⟨.chg, Hd d' s'⟩, some ⟨.pin, .int (n : Int)⟩, some ⟨.own, mk cst (f.take g.toNat ++ [k] ++ f.drop g.toNat)⟩, some ⟨.own, .int (k : Int)⟩], ?_, ?_, rfl, d', s', _, _, rfl, ok', insert_perm hp, rfl⟩
  · simp [tgN, canSet_np, h3, i1]
  · have tyl : tyD "list" (mk cst f) = true := rfl
    have hl : f.length < 1000 := by have := hp.length_eq; simp at this; omega
    have gb : g < 4611686018427387904 := by omega
    have ins : hInsert (mk cst f) [.int g, .int (k : Int)] = some (.non, mk cst (f.take g.toNat ++ [k] ++ f.drop g.toNat)) := by
      have hl' : f.length < 1000000 := by omega
      have im := imms_mk cst f
      have im2 : imms (f.map fun (i : Nat) => D.int (i : Int)) = true := im
      simp [hInsert, mk, im, im2, imm, LIM, hl', g0, gb, List.map_take, List.map_drop, cst]
    simp [cl_body, sDrop, mMeth, fVar, tyl, aVa, mCall, aNm, mN, f2, gAdd, fC, aNil, agOk, nms, Md.ex, resolve, e, outEnv, isChg, putNm, upS, mMove, imm, vaL, chgS, ins]
theorem called_spec {d s : Int} {n : Nat} (ok : HdOk d s) (hn : n ≤ 1000) : ∃ d' s' f, F_law_called [Hd d s, .int (n : Int)] = some (.ok (mk cst f) [some ⟨.chg, Hd d' s'⟩, none]) ∧ HdOk d' s' ∧ f.Perm (List.range n) := by
  obtain ⟨env', e1, l1, d', s', f, t3, rfl, ok', hp, h3⟩ := sLoop_rng (tg := tgN 3) (g := cl_body) (enc := fun i : Nat => D.int (i : Int))
    (R := fun k env => ∃ d s f s3, env = [some ⟨.chg, Hd d s⟩, some ⟨.pin, .int (n : Int)⟩, some ⟨.own, mk cst f⟩, s3] ∧ HdOk d s ∧ f.Perm (List.range k) ∧ npo (some s3) = true) n
    (fun k env hk ⟨d, s, f, s3, ee, ok, hp, h3⟩ => by
      subst ee
      exact cl_step n k hk hn d s f s3 ok hp h3) [some ⟨.chg, Hd d s⟩, some ⟨.pin, .int (n : Int)⟩, some ⟨.own, mk cst []⟩, none] ⟨d, s, [], none, rfl, ok, List.Perm.refl _, rfl⟩
  have hr : asR1 (fCons (fVar 1) (fNil)) (clr (chs [0, 2, 3]) [some ⟨.chg, Hd d s⟩, some ⟨.shr, .int (n : Int)⟩, some ⟨.own, mk cst []⟩, none]) = some ((List.range n).map fun i : Nat => D.int (i : Int)) := by
    have c1 : fCons (fVar 1) (fNil) (clr (chs [0, 2, 3]) [some ⟨.chg, Hd d s⟩, some ⟨.shr, .int (n : Int)⟩, some ⟨.own, mk cst []⟩, none]) = some [.int (n : Int)] := rfl
    have c3 : (n : Int) ≤ 1000000 := by omega
    have c4 : -1000000 ≤ (n : Int) := by omega
    simp [asR1, c1, LIM, c3, c4, range_dI]
  have f1 := sFor_nx (ch := chs [0, 2, 3]) (env := [some ⟨.chg, Hd d s⟩, some ⟨.shr, .int (n : Int)⟩, some ⟨.own, mk cst []⟩, none]) hr e1 rfl
  refine ⟨d', s', f, ?_, ok', hp⟩
  show fnOut [.chg, .shr] (G_law_called [some ⟨.chg, Hd d s⟩, some ⟨.shr, .int (n : Int)⟩, none, none]) = _
  rw [cl_eq, sSeq_nx (env' := [some ⟨.chg, Hd d s⟩, some ⟨.shr, .int (n : Int)⟩, some ⟨.own, mk cst []⟩, none]) (by simp [sSet, mN, fLstI, fNil, LIM, imms, canSet_np, mk]), sSeq_nx f1]
  rfl
end DL


set_option Elab.async false
set_option linter.all false
set_option maxRecDepth 100000
namespace DL
open PySem L2 Enc
def or_s1 : SF := sSet 2 (mCall [.chg, .shr] F_law_draw (aNm 0 (aVa (mN (fC (.int 6))) (aNil))))
def or_s3 : SF := sIf (mT (fB (f2 (gEq false) (fVar 2) (fC (.int 0))))) (sSet 3 (mN (f1 gRev (fVar 3))))
    (sNx)
def or_s4 : SF := sIf (mT (fB (f2 (gEq false) (fVar 2) (fC (.int 1))))) (sSeq (sSet 4 (mCall [.chg, .shr] F_law_draw (aNm 0 (aVa (mN (f2 gAdd (fVar 1) (fC (.int 1)))) (aNil)))))
    (sSet 3 (mN (f2 gAdd (fSl (fVar 3) (oSome (fVar 4)) (oNone)) (fSl (fVar 3) (oNone) (oSome (fVar 4)))))))
    (sNx)
def or_s5 : SF := sIf (mT (fB (f2 gGt (fVar 2) (fC (.int 2))))) (sSet 3 (mCall [.chg, .shr] F_law_called (aNm 0 (aNm 1 (aNil)))))
    (sNx)
def or_b : SF := sSeq (sSet 6 (mCall [.chg, .shr] F_law_draw (aNm 0 (aNm 1 (aNil)))))
    (sSeq (sSet 7 (mCall [.chg, .shr] F_law_draw (aNm 0 (aNm 1 (aNil)))))
    (sAsg (mTup (aVa (mN (fImm (f2 gIx (fVar 3) (fVar 7)))) (aVa (mN (fImm (f2 gIx (fVar 3) (fVar 6)))) (aNil)))) (toT 2 (toCons (toIx 3 (fVar 6)) (toCons (toIx 3 (fVar 7)) (toNil))))))
def or_i : Env → Option (List D) := asR1 (fCons (f2 gMul (fC (.int 2)) (fL gInt (fCons (fV (fAnd (fB (f2 (gEq false) (fVar 2) (fC (.int 2)))) (fB (f2 gGt (fVar 1) (fC (.int 1)))))) (fNil)))) (fNil))
theorem or_eq : G_law_order = sSeq or_s1
    (sSeq (sSet 3 (mN (fLR1 (fVar 1))))
    (sSeq or_s3
    (sSeq or_s4
    (sSeq or_s5
    (sSeq (sFor (chs [0, 3, 5, 6, 7]) or_i (tgN 5) or_b)
    (sRet (mMove 3))))))) := rfl
theorem ge_int (a b : Int) : gEq false (.int a) (.int b) = some (.bl (decide (a = b))) := gEq_enc (α := Int) (neg := false) (a := a) (b := b) (by decide)
/-- how it stands between the parts -/
def OrE (n : Nat) (kd : Int) (env : Env) : Prop := ∃ d s f s4, env = [some ⟨.chg, Hd d s⟩, some ⟨.shr, .int (n : Int)⟩, some ⟨.own, .int kd⟩, some ⟨.own, mk cst f⟩, s4, none, none, none] ∧ HdOk d s ∧ f.Perm (List.range n) ∧ npo (some s4) = true
theorem or_3 {n : Nat} {kd : Int} {env : Env} (h : OrE n kd env) : ∃ env', or_s3 env = some (.nx env') ∧ OrE n kd env' := by
  obtain ⟨d, s, f, s4, rfl, ok, hp, h4⟩ := h
  by_cases hk : kd = 0
  · have rv : gRev (mk cst f) = some (mk cst f.reverse) := by
      have im := imms_mk cst f
      simp [gRev, mk, im]
    refine ⟨_, ?_, d, s, f.reverse, s4, rfl, ok, (List.reverse_perm f).trans hp, h4⟩
    simp [or_s3, sIf, mT, fB, f2, fVar, fC, ge_int, hk, sSet, mN, f1, rv, canSet_np]
  · refine ⟨_, ?_, d, s, f, s4, rfl, ok, hp, h4⟩
    simp [or_s3, sIf, mT, fB, f2, fVar, fC, ge_int, hk, sNx]
theorem or_4 {n : Nat} {kd : Int} {env : Env} (hn : n ≤ 1000) (h : OrE n kd env) : ∃ env', or_s4 env = some (.nx env') ∧ OrE n kd env' := by
  obtain ⟨d, s, f, s4, rfl, ok, hp, h4⟩ := h
  by_cases hk : kd = 1
  · obtain ⟨g, d', s', e, g0, g1, ok'⟩ := draw_spec ok (show (0 : Int) < (n : Int) + 1 by omega) (by omega)
    have eg : g = ((g.toNat : Nat) : Int) := by omega
    have lf : f.length = n := by have := hp.length_eq; simpa using this
    have c1 : cutD (f.map fun i => D.int (cst i)) none (some g) = (f.take g.toNat).map fun i => D.int (cst i) := by rw [eg]; exact cut_to _ f g.toNat
    have c2 : cutD (f.map fun i => D.int (cst i)) (some g) none = (f.drop g.toNat).map fun i => D.int (cst i) := by
      unfold cutD
      rw [show HT.sIx (f.map fun i => D.int (cst i)).length (f.map fun i => D.int (cst i)).length none = (f.map fun i => D.int (cst i)).length from rfl]
      rw [eg, HT.sIx_nat, List.length_map, Nat.min_eq_left (by omega), ← List.map_drop, Int.toNat_natCast]
      rw [List.take_of_length_le (by rw [List.length_map, List.length_drop]; exact Nat.le_refl _)]
    have q1 : gSl (mk cst f) (some g) none = some (mk cst (f.drop g.toNat)) := by
      have im := imms_mk cst f
      unfold mk gSl
      simp only [im, if_true, c2]
    have q2 : gSl (mk cst f) none (some g) = some (mk cst (f.take g.toNat)) := by
      have im := imms_mk cst f
      unfold mk gSl
      simp only [im, if_true, c1]
    have q3 : gAdd (mk cst (f.drop g.toNat)) (mk cst (f.take g.toNat)) = some (mk cst (f.drop g.toNat ++ f.take g.toNat)) := by
      have i1 := imms_mk cst (f.drop g.toNat)
      have i2 := imms_mk cst (f.take g.toNat)
      have hl : (f.drop g.toNat).length + (f.take g.toNat).length ≤ 1000000 := by rw [List.length_drop, List.length_take]; omega
      unfold mk gAdd LIM
      simp only [i1, i2, List.length_map, hl, and_self, if_true, List.map_append]
    refine ⟨[some ⟨.chg, Hd d' s'⟩, some ⟨.shr, .int (n : Int)⟩, some ⟨.own, .int kd⟩, some ⟨.own, mk cst (f.drop g.toNat ++ f.take g.toNat)⟩, some ⟨.own, .int g⟩, none, none, none], ?_, d', s', _, _, rfl, ok', ?_, rfl⟩
    · subst hk
      simp [or_s4, sIf, mT, fB, f2, fVar, fC, ge_int, sSeq, sSet, mCall, aNm, aVa, mN, gAdd, aNil, agOk, nms, Md.ex, resolve, e, outEnv, isChg, putNm, upS, canSet_np, h4, fSl, oSome, oNone, q1, q2]
      have q3' := q3
      simp only [gAdd] at q3'
      simp [q3']
    · exact (List.perm_append_comm.trans (by rw [List.take_append_drop])).trans hp
  · refine ⟨_, ?_, d, s, f, s4, rfl, ok, hp, h4⟩
    simp [or_s4, sIf, mT, fB, f2, fVar, fC, ge_int, hk, sNx]
theorem or_5 {n : Nat} {kd : Int} {env : Env} (hn : n ≤ 1000) (h : OrE n kd env) : ∃ env', or_s5 env = some (.nx env') ∧ OrE n kd env' := by
  obtain ⟨d, s, f, s4, rfl, ok, hp, h4⟩ := h
  by_cases hk : 2 < kd
  · obtain ⟨d', s', f', e, ok', hp'⟩ := called_spec (n := n) ok hn
    refine ⟨[some ⟨.chg, Hd d' s'⟩, some ⟨.shr, .int (n : Int)⟩, some ⟨.own, .int kd⟩, some ⟨.own, mk cst f'⟩, s4, none, none, none], ?_, d', s', f', s4, rfl, ok', hp', h4⟩
    simp [or_s5, sIf, mT, fB, f2, fVar, fC, gGt, gCmp, hk, sSet, mCall, aNm, aNil, agOk, nms, Md.ex, resolve, e, outEnv, isChg, putNm, upS, canSet_np]
  · refine ⟨_, ?_, d, s, f, s4, rfl, ok, hp, h4⟩
    simp [or_s5, sIf, mT, fB, f2, fVar, fC, gGt, gCmp, hk, sNx]
end DL


set_option Elab.async false
set_option linter.all false
set_option maxRecDepth 100000
namespace DL
open PySem L2 Enc
theorem swp_perm {f : List Nat} {a b : Nat} (ha : a < f.length) (hb : b < f.length) : ((f.set a f[b]).set b f[a]).Perm f := List.set_set_perm ha hb
theorem or_body {n : Nat} (hn : n ≤ 1000) (h1 : 1 ≤ n) (kd : Int) (x : Nat) (d s : Int) (f : List Nat) (r4 s5 s6 s7 : Option Slot) (ok : HdOk d s) (hp : f.Perm (List.range n)) (h5 : npo (some s5) = true) (h6 : npo (some s6) = true) (h7 : npo (some s7) = true) :
    ∃ env1 env2, tgN 5 (.int (x : Int)) [some ⟨.chg, Hd d s⟩, some ⟨.pin, .int (n : Int)⟩, some ⟨.pin, .int kd⟩, some ⟨.own, mk cst f⟩, r4, s5, s6, s7] = some env1 ∧ or_b env1 = some (.nx env2) ∧ env2.length = 8 ∧
      ∃ d' s' f' t5 t6 t7, env2 = [some ⟨.chg, Hd d' s'⟩, some ⟨.pin, .int (n : Int)⟩, some ⟨.pin, .int kd⟩, some ⟨.own, mk cst f'⟩, r4, t5, t6, t7] ∧ HdOk d' s' ∧ f'.Perm (List.range n) ∧ npo (some t5) = true ∧ npo (some t6) = true ∧ npo (some t7) = true := by
  have lf : f.length = n := by have := hp.length_eq; simpa using this
  obtain ⟨a, d1, s1, e1, a0, a1, ok1⟩ := draw_spec ok (show (0 : Int) < (n : Int) by omega) (by omega)
  obtain ⟨b, d2, s2, e2, b0, b1, ok2⟩ := draw_spec ok1 (show (0 : Int) < (n : Int) by omega) (by omega)
  have ha : a.toNat < f.length := by omega
  have hb : b.toNat < f.length := by omega
  have ea : a = ((a.toNat : Nat) : Int) := by omega
  have eb : b = ((b.toNat : Nat) : Int) := by omega
  have i0 : immM (.int (x : Int)) = .own := rfl
  refine ⟨[some ⟨.chg, Hd d s⟩, some ⟨.pin, .int (n : Int)⟩, some ⟨.pin, .int kd⟩, some ⟨.own, mk cst f⟩, r4, some ⟨.own, .int (x : Int)⟩, s6, s7],
    [some ⟨.chg, Hd d2 s2⟩, some ⟨.pin, .int (n : Int)⟩, some ⟨.pin, .int kd⟩, some ⟨.own, mk cst ((f.set a.toNat f[b.toNat]).set b.toNat f[a.toNat])⟩, r4, some ⟨.own, .int (x : Int)⟩, some ⟨.own, .int a⟩, some ⟨.own, .int b⟩], ?_, ?_, rfl, d2, s2, _, _, _, _, rfl, ok2, (swp_perm ha hb).trans hp, rfl, rfl, rfl⟩
  · simp [tgN, canSet_np, h5, i0]
  · have z1 : sSet 6 (mCall [.chg, .shr] F_law_draw (aNm 0 (aNm 1 (aNil)))) [some ⟨.chg, Hd d s⟩, some ⟨.pin, .int (n : Int)⟩, some ⟨.pin, .int kd⟩, some ⟨.own, mk cst f⟩, r4, some ⟨.own, .int (x : Int)⟩, s6, s7]
        = some (.nx [some ⟨.chg, Hd d1 s1⟩, some ⟨.pin, .int (n : Int)⟩, some ⟨.pin, .int kd⟩, some ⟨.own, mk cst f⟩, r4, some ⟨.own, .int (x : Int)⟩, some ⟨.own, .int a⟩, s7]) := by
      simp [sSet, mCall, aNm, fVar, aNil, agOk, nms, Md.ex, resolve, e1, outEnv, isChg, putNm, upS, canSet_np, h6]
    have z2 : sSet 7 (mCall [.chg, .shr] F_law_draw (aNm 0 (aNm 1 (aNil)))) [some ⟨.chg, Hd d1 s1⟩, some ⟨.pin, .int (n : Int)⟩, some ⟨.pin, .int kd⟩, some ⟨.own, mk cst f⟩, r4, some ⟨.own, .int (x : Int)⟩, some ⟨.own, .int a⟩, s7]
        = some (.nx [some ⟨.chg, Hd d2 s2⟩, some ⟨.pin, .int (n : Int)⟩, some ⟨.pin, .int kd⟩, some ⟨.own, mk cst f⟩, r4, some ⟨.own, .int (x : Int)⟩, some ⟨.own, .int a⟩, some ⟨.own, .int b⟩]) := by
      simp [sSet, mCall, aNm, fVar, aNil, agOk, nms, Md.ex, resolve, e2, outEnv, isChg, putNm, upS, canSet_np, h7]
    have i1 : gIx (mk cst f) (.int a) = some (.int (cst f[a.toNat])) := by
      have := ix_mk (π := cst) (List.getElem?_eq_getElem ha)
      rw [← ea] at this
      exact this
    have i2 : gIx (mk cst f) (.int b) = some (.int (cst f[b.toNat])) := by
      have := ix_mk (π := cst) (List.getElem?_eq_getElem hb)
      rw [← eb] at this
      exact this
    have k1 : ixN f.length a = some a.toNat := ixN_ok a0 (by omega)
    have k2 : ixN f.length b = some b.toNat := ixN_ok b0 (by omega)
    have hl' : f.length ≤ 1000000 := by omega
    unfold or_b
    rw [sSeq_nx z1, sSeq_nx z2]
    simp [sAsg, mTup, aVa, mN, fImm, f2, fVar, i1, i2, imm, aNil, vaL, LIM, toT, toCons]
    simp [mk, toIx, Md.ex, LIM, hl', fVar, k1, k2, toNil, List.map_set]
theorem or_6 {n : Nat} {kd : Int} {env : Env} (hn : n ≤ 1000) (h : OrE n kd env) : ∃ env' d s f, sSeq (sFor (chs [0, 3, 5, 6, 7]) or_i (tgN 5) or_b) (sRet (mMove 3)) env = some (.rt (mk cst f) env') ∧ outOf [.chg, .shr] env' = [some ⟨.chg, Hd d s⟩, none] ∧ HdOk d s ∧ f.Perm (List.range n) := by
  obtain ⟨d, s, f, s4, rfl, ok, hp, h4⟩ := h
  let m : Nat := if kd = 2 ∧ 1 < n then 2 else 0
  have hr : or_i (clr (chs [0, 3, 5, 6, 7]) [some ⟨.chg, Hd d s⟩, some ⟨.shr, .int (n : Int)⟩, some ⟨.own, .int kd⟩, some ⟨.own, mk cst f⟩, s4, none, none, none]) = some ((List.range m).map fun i : Nat => D.int (i : Int)) := by
    have v2 : fVar 2 (clr (chs [0, 3, 5, 6, 7]) [some ⟨.chg, Hd d s⟩, some ⟨.shr, .int (n : Int)⟩, some ⟨.own, .int kd⟩, some ⟨.own, mk cst f⟩, s4, none, none, none]) = some (.int kd) := rfl
    have v1 : fVar 1 (clr (chs [0, 3, 5, 6, 7]) [some ⟨.chg, Hd d s⟩, some ⟨.shr, .int (n : Int)⟩, some ⟨.own, .int kd⟩, some ⟨.own, mk cst f⟩, s4, none, none, none]) = some (.int (n : Int)) := rfl
    have m1 : cMul 2 1 = true := by decide +kernel
    have m0 : cMul 2 0 = true := by decide +kernel
    by_cases hk : kd = 2
    · subst hk
      by_cases h1 : 1 < n
      · have h1' : (1 : Int) < (n : Int) := by omega
        have em : m = 2 := if_pos ⟨rfl, h1⟩
        rw [em, ← range_dI]
        simp [or_i, asR1, fCons, f2, fC, fL, fV, fAnd, fB, v2, v1, ge_int, gGt, gCmp, h1', h1, fNil, gInt, gMul, gI, m1, LIM]
      · have em : m = 0 := if_neg (fun z => h1 z.2)
        rw [em, ← range_dI]
        have h1' : ¬ (1 : Int) < (n : Int) := by omega
        simp [or_i, asR1, fCons, f2, fC, fL, fV, fAnd, fB, v2, v1, ge_int, gGt, gCmp, h1', h1, fNil, gInt, gMul, gI, m0, LIM]
    · have em : m = 0 := if_neg (fun z => hk z.1)
      rw [em, ← range_dI]
      simp [or_i, asR1, fCons, f2, fC, fL, fV, fAnd, fB, v2, v1, ge_int, hk, fNil, gInt, gMul, gI, m0, LIM]
  obtain ⟨env', e1, l1, d', s', f', t5, t6, t7, rfl, ok', hp', h5, h6, h7⟩ := sLoop_rng (tg := tgN 5) (g := or_b) (enc := fun i : Nat => D.int (i : Int))
    (R := fun k env => ∃ d s f s5 s6 s7, env = [some ⟨.chg, Hd d s⟩, some ⟨.pin, .int (n : Int)⟩, some ⟨.pin, .int kd⟩, some ⟨.own, mk cst f⟩, frzS s4, s5, s6, s7] ∧ HdOk d s ∧ f.Perm (List.range n) ∧ npo (some s5) = true ∧ npo (some s6) = true ∧ npo (some s7) = true) m
    (fun k env hk ⟨d, s, f, s5, s6, s7, ee, ok, hp, h5, h6, h7⟩ => by
      subst ee
      have h1 : 1 ≤ n := by
        by_cases z : kd = 2 ∧ 1 < n
        · omega
        · have : m = 0 := if_neg z
          omega
      exact or_body hn h1 kd k d s f (frzS s4) s5 s6 s7 ok hp h5 h6 h7) [some ⟨.chg, Hd d s⟩, some ⟨.pin, .int (n : Int)⟩, some ⟨.pin, .int kd⟩, some ⟨.own, mk cst f⟩, frzS s4, none, none, none] ⟨d, s, f, none, none, none, rfl, ok, hp, rfl, rfl, rfl⟩
  have f1 := sFor_nx (ch := chs [0, 3, 5, 6, 7]) (env := [some ⟨.chg, Hd d s⟩, some ⟨.shr, .int (n : Int)⟩, some ⟨.own, .int kd⟩, some ⟨.own, mk cst f⟩, s4, none, none, none]) hr e1 rfl
  rw [sSeq_nx f1]
  exact ⟨_, d', s', f', rfl, rfl, ok', hp'⟩
theorem order_spec {d s : Int} {n : Nat} (ok : HdOk d s) (hn : n ≤ 1000) : ∃ d' s' f, F_law_order [Hd d s, .int (n : Int)] = some (.ok (mk cst f) [some ⟨.chg, Hd d' s'⟩, none]) ∧ HdOk d' s' ∧ f.Perm (List.range n) := by
  obtain ⟨kd, d1, s1, e1, k0, k1, ok1⟩ := draw_spec ok (show (0 : Int) < 6 by omega) (by omega)
  have z1 : or_s1 [some ⟨.chg, Hd d s⟩, some ⟨.shr, .int (n : Int)⟩, none, none, none, none, none, none] = some (.nx [some ⟨.chg, Hd d1 s1⟩, some ⟨.shr, .int (n : Int)⟩, some ⟨.own, .int kd⟩, none, none, none, none, none]) := by
    simp [or_s1, sSet, mCall, aNm, fVar, aVa, mN, fC, aNil, agOk, nms, Md.ex, resolve, e1, outEnv, isChg, putNm, upS, canSet_np]
  have z2 : sSet 3 (mN (fLR1 (fVar 1))) [some ⟨.chg, Hd d1 s1⟩, some ⟨.shr, .int (n : Int)⟩, some ⟨.own, .int kd⟩, none, none, none, none, none] = some (.nx [some ⟨.chg, Hd d1 s1⟩, some ⟨.shr, .int (n : Int)⟩, some ⟨.own, .int kd⟩, some ⟨.own, mk cst (List.range n)⟩, none, none, none, none]) := by
    have c3 : (n : Int) ≤ 1000000 := by omega
    have c4 : -1000000 ≤ (n : Int) := by omega
    have er : D.lst (rangeD 0 n) = mk cst (List.range n) := by rw [range_dI]; rfl
    simp [sSet, mN, fLR1, fVar, LIM, c3, c4, er, canSet_np]
  have o2 : OrE n kd [some ⟨.chg, Hd d1 s1⟩, some ⟨.shr, .int (n : Int)⟩, some ⟨.own, .int kd⟩, some ⟨.own, mk cst (List.range n)⟩, none, none, none, none] := ⟨d1, s1, _, none, rfl, ok1, List.Perm.refl _, rfl⟩
  obtain ⟨env3, z3, o3⟩ := or_3 o2
  obtain ⟨env4, z4, o4⟩ := or_4 hn o3
  obtain ⟨env5, z5, o5⟩ := or_5 hn o4
  obtain ⟨env6, d', s', f, z6, q6, ok', hp⟩ := or_6 hn o5
  refine ⟨d', s', f, ?_, ok', hp⟩
  show fnOut [.chg, .shr] (G_law_order [some ⟨.chg, Hd d s⟩, some ⟨.shr, .int (n : Int)⟩, none, none, none, none, none, none]) = _
  rw [or_eq, sSeq_nx z1, sSeq_nx z2, sSeq_nx z3, sSeq_nx z4, sSeq_nx z5, z6]
  unfold fnOut
  simp only [q6]
  rfl
end DL


set_option Elab.async false
set_option linter.all false
set_option maxRecDepth 100000
namespace DL
open PySem L2 Enc
theorem fL_eq {g : List D → Option D} {f : Env → Option (List D)} {env : Env} {ds : List D} (h : f env = some ds) : fL g f env = g ds := by unfold fL; rw [h]
theorem fCons_eq {f : DF} {g : Env → Option (List D)} {env : Env} {d : D} {ds : List D} (h : f env = some d) (h2 : g env = some ds) : fCons f g env = some (d :: ds) := by unfold fCons; rw [h, h2]
theorem hand_spec {cell k : Int} (k0 : 0 ≤ k) (k1 : k < 1000) : ∃ d s, F_law_hand [.int cell, .int k] = some (.ok (Hd d s) [none, none]) ∧ HdOk d s := by
  have r0 : 0 ≤ cell % 2147483587 := Int.emod_nonneg _ (by omega)
  have r1 : cell % 2147483587 < 2147483587 := Int.emod_lt_of_pos _ (by omega)
  have m1 : cMul 7919 k = true := mul_ok (small_pow (n := 10000) (by decide)) (small_pow (n := 1000) (by omega))
  have m2 : cMul (cell % 2147483587 + 7919 * k + 1) 48271 = true := mul_ok (small_pow (n := 3000000000) (by omega)) (small_pow (n := 100000) (by decide))
  have pw : cPow 10 18 = true := by decide +kernel
  let t := ((cell % 2147483587 + 7919 * k + 1) * 48271) % 2147483587
  have t0 : 0 ≤ t := Int.emod_nonneg _ (by omega)
  have t1 : t < 2147483587 := Int.emod_lt_of_pos _ (by omega)
  by_cases hc : (1000000000000000000 : Int) ≤ cell
  · refine ⟨cell, t, ?_, by omega, t0, t1⟩
    simp [F_law_hand, fnD, fnOut, G_law_hand, argEnv, sSeq, sSet, mN, fC, canSet_np, sIf, mT, fB, f2, fVar, gPow, gI, pw, gGe, gCmp, hc, mMove, imm, sRet, mLst, aVa, gMod, cPos, gAdd, gMul, m1, m2, aNil, vaL, LIM, outOf, outEnv, Hd, t]
  · refine ⟨0, t, ?_, by omega, t0, t1⟩
    simp [F_law_hand, fnD, fnOut, G_law_hand, argEnv, sSeq, sSet, mN, fC, canSet_np, sIf, mT, fB, f2, fVar, gPow, gI, pw, gGe, gCmp, hc, mMove, imm, sRet, mLst, aVa, gMod, cPos, gAdd, gMul, m1, m2, aNil, vaL, LIM, outOf, outEnv, Hd, t, sNx]
theorem cells_spec (ns : List Int) : ∃ cs : List Int, F_law_cells [.lst (ns.map D.int), .int 10] = some (.ok (.lst (enumD (cs.map D.int))) [none, none]) ∧ cs.length ≤ 11 := by
  have ge : gEq false (.lst (ns.map D.int)) (.lst []) = some (.bl (decide (ns = []))) := by
    have := gEq_enc (α := List Int) (neg := false) (a := ns) (b := []) (by decide)
    exact this
  have c1 : gSl (.lst (ns.map D.int)) none (some 10) = some (.lst ((ns.take 10).map D.int)) := by
    have im := imms_ints ns
    have ct : cutD (ns.map D.int) none (some 10) = (ns.take 10).map D.int := cut_to D.int ns 10
    unfold gSl
    simp only [im, if_true, ct]
  have l10 : (ns.take 10).length ≤ 10 := by rw [List.length_take]; omega
  let bt : List Int := if ns = [] then [0] else []
  have hb : bt.length ≤ 1 := by show (if ns = [] then [(0 : Int)] else []).length ≤ 1; split <;> decide
  have c2 : (f2 gRep (fLstI (fCons (fC (.int 0)) (fNil))) (fL gInt (fCons (f2 (gEq false) (fVar 0) (fLstI (fNil))) (fNil)))) [some ⟨.shr, .lst (ns.map D.int)⟩, some ⟨.shr, .int 10⟩] = some (.lst (bt.map D.int)) := by
    by_cases h : ns = []
    · have e : bt = [0] := if_pos h
      rw [e]
      have ge' : gEq false (.lst (ns.map D.int)) (.lst []) = some (.bl true) := by rw [ge, decide_eq_true h]
      simp [f2, fLstI, fCons, fC, fNil, LIM, imms, imm, fL, fVar, ge', gInt, gRep]
    · have e : bt = [] := if_neg h
      rw [e]
      have ge' : gEq false (.lst (ns.map D.int)) (.lst []) = some (.bl false) := by rw [ge, decide_eq_false h]
      simp [f2, fLstI, fCons, fC, fNil, LIM, imms, imm, fL, fVar, ge', gInt, gRep]
  have c3 : gAdd (.lst ((ns.take 10).map D.int)) (.lst (bt.map D.int)) = some (.lst ((ns.take 10 ++ bt).map D.int)) := by
    have i1 := imms_ints (ns.take 10)
    have i2 := imms_ints bt
    show (if imms ((ns.take 10).map D.int) = true ∧ imms (bt.map D.int) = true ∧ ((ns.take 10).map D.int).length + (bt.map D.int).length ≤ LIM then some (D.lst ((ns.take 10).map D.int ++ bt.map D.int)) else none) = _
    rw [if_pos ⟨i1, i2, by rw [List.length_map, List.length_map]; unfold LIM; omega⟩, List.map_append]
  refine ⟨ns.take 10 ++ bt, ?_, by rw [List.length_append]; omega⟩
  show fnOut [.shr, .shr] (G_law_cells [some ⟨.shr, .lst (ns.map D.int)⟩, some ⟨.shr, .int 10⟩]) = _
  have q : (fL gEnumL (fCons (f2 gAdd (fSl (fVar 0) (oNone) (oSome (fVar 1))) (f2 gRep (fLstI (fCons (fC (.int 0)) (fNil))) (fL gInt (fCons (f2 (gEq false) (fVar 0) (fLstI (fNil))) (fNil))))) (fNil))) [some ⟨.shr, .lst (ns.map D.int)⟩, some ⟨.shr, .int 10⟩] = some (.lst (enumD ((ns.take 10 ++ bt).map D.int))) := by
    have q0 : fSl (fVar 0) oNone (oSome (fVar 1)) [some ⟨.shr, .lst (ns.map D.int)⟩, some ⟨.shr, .int 10⟩] = some (.lst ((ns.take 10).map D.int)) := c1
    have q1 : f2 gAdd (fSl (fVar 0) (oNone) (oSome (fVar 1))) (f2 gRep (fLstI (fCons (fC (.int 0)) (fNil))) (fL gInt (fCons (f2 (gEq false) (fVar 0) (fLstI (fNil))) (fNil)))) [some ⟨.shr, .lst (ns.map D.int)⟩, some ⟨.shr, .int 10⟩] = some (.lst ((ns.take 10 ++ bt).map D.int)) := by
      unfold f2 at c2 ⊢
      rw [q0, c2]
      exact c3
    have im := imms_ints (ns.take 10 ++ bt)
    rw [fL_eq (fCons_eq q1 rfl)]
    show (if imms ((ns.take 10 ++ bt).map D.int) = true then some (D.lst (enumD ((ns.take 10 ++ bt).map D.int))) else none) = _
    rw [if_pos im]
  unfold G_law_cells sRet mN
  rw [q]
  rfl
theorem eq_row (l : List (Nat × Nat)) : gEq true (.lst (l.map swD)) (.lst (l.map swD)) = some (.bl false) := by
  have := gEq_enc (α := List (Int × Int)) (neg := true) (a := l.map fun s => ((s.1 : Int), (s.2 : Int))) (b := l.map fun s => ((s.1 : Int), (s.2 : Int))) (by decide)
  rw [show (enc (l.map fun s => ((s.1 : Int), (s.2 : Int))) : D) = .lst (l.map swD) from by show D.lst ((l.map fun s => ((s.1 : Int), (s.2 : Int))).map enc) = _; rw [List.map_map]; rfl] at this
  rw [this]
  simp
/-! ### the marks renamed -/
def nam (g : List Nat) : Nat → Int := fun i => (g.getD i i : Int)
theorem nam_inj {n : Nat} {g : List Nat} (hg : g.Perm (List.range n)) : ∀ i j, nam g i = nam g j → i = j := fun i j h => by
  have lg : g.length = n := by have := hg.length_eq; simpa using this
  have nd : g.Nodup := hg.symm.nodup (List.nodup_range)
  have h' : g.getD i i = g.getD j j := by unfold nam at h; omega
  have inr (k : Nat) (hk : k < n) : g.getD k k < n := by
    rw [List.getD_eq_getElem?_getD, List.getElem?_eq_getElem (by omega)]
    have : g[k] ∈ List.range n := hg.subset (List.getElem_mem _)
    exact List.mem_range.mp this
  have out (k : Nat) (hk : ¬ k < n) : g.getD k k = k := by
    rw [List.getD_eq_getElem?_getD, List.getElem?_eq_none (by omega)]
    rfl
  by_cases hi : i < n <;> by_cases hj : j < n
  · rw [List.getD_eq_getElem?_getD, List.getD_eq_getElem?_getD, List.getElem?_eq_getElem (by omega), List.getElem?_eq_getElem (by omega)] at h'
    simp only [Option.getD_some] at h'
    exact (List.getElem_inj nd).mp h'
  · have := inr i hi; rw [out j hj] at h'; omega
  · have := inr j hj; rw [out i hi] at h'; omega
  · rw [out i hi, out j hj] at h'; exact h'
theorem mk_nam {n : Nat} {g : List Nat} (hg : g.Perm (List.range n)) : mk cst g = mk (nam g) (List.range n) := by
  have lg : g.length = n := by have := hg.length_eq; simpa using this
  unfold mk
  congr 1
  apply List.ext_getElem?
  intro i
  rw [List.getElem?_map, List.getElem?_map]
  by_cases hi : i < n
  · rw [List.getElem?_eq_getElem (by omega), List.getElem?_eq_getElem (by rw [List.length_range]; exact hi), List.getElem_range]
    simp [nam, cst, List.getD_eq_getElem?_getD, List.getElem?_eq_getElem (show i < g.length by omega)]
  · rw [List.getElem?_eq_none (by omega), List.getElem?_eq_none (by rw [List.length_range]; omega)]
    rfl
/-- every order is a naming of places -/
theorem mk_one {n : Nat} {f g : List Nat} (hf : f.Perm (List.range n)) (hg : g.Perm (List.range n)) : ∃ p, mk cst f = mk (nam g) p ∧ p.Perm (List.range n) := by
  have lg : g.length = n := by have := hg.length_eq; simpa using this
  have hm : (List.range n).map (fun i => g.getD i i) = g := by
    apply List.ext_getElem?
    intro i
    rw [List.getElem?_map]
    by_cases hi : i < n
    · rw [List.getElem?_eq_getElem (by rw [List.length_range]; exact hi), List.getElem_range, List.getElem?_eq_getElem (by omega)]
      simp [List.getD_eq_getElem?_getD, List.getElem?_eq_getElem (show i < g.length by omega)]
    · rw [List.getElem?_eq_none (by rw [List.length_range]; omega), List.getElem?_eq_none (by omega)]
      rfl
  -- an inverse
  let q : Nat → Nat := fun x => g.idxOf x
  have nd : g.Nodup := hg.symm.nodup (List.nodup_range)
  refine ⟨f.map q, ?_, ?_⟩
  · unfold mk
    rw [List.map_map]
    congr 1
    apply List.map_congr_left
    intro x hx
    have hx' : x ∈ g := hg.symm.subset (hf.subset hx)
    show D.int (cst x) = D.int (nam g (g.idxOf x))
    have il : g.idxOf x < g.length := List.idxOf_lt_length_of_mem hx'
    have e : g[g.idxOf x]? = some x := by rw [List.getElem?_eq_getElem il, List.getElem_idxOf il]
    simp [nam, cst, List.getD_eq_getElem?_getD, e]
  · have h1 : (f.map q).Perm (g.map q) := (hf.trans hg.symm).map q
    refine h1.trans ?_
    have : g.map q = List.range n := by
      apply List.ext_getElem?
      intro i
      rw [List.getElem?_map]
      by_cases hi : i < n
      · rw [List.getElem?_eq_getElem (by omega), List.getElem?_eq_getElem (by rw [List.length_range]; exact hi), List.getElem_range]
        show some (g.idxOf g[i]) = some i
        rw [nd.idxOf_getElem]
      · rw [List.getElem?_eq_none (by omega), List.getElem?_eq_none (by rw [List.length_range]; omega)]
        rfl
    rw [this]
end DL


set_option Elab.async false
set_option linter.all false
set_option maxRecDepth 100000
set_option maxHeartbeats 0
namespace DL
open PySem L2 Enc
def lw1 : SF := sSet 3 (mN (fX (fCall F_law_hand (fCons (fVar 2) (fCons (fVar 1) (fNil))))))
def lw2 : SF := sSet 4 (mIx (mLst (aVa (mCall [.chg, .shr] F_law_draw (aNm 3 (aVa (mN (fC (.int 6))) (aNil)))) (aVa (mN (fC (.int 5))) (aNil)))) (mCall [.chg, .shr] F_law_draw (aNm 3 (aVa (mN (fC (.int 2))) (aNil)))))
def lw3 : SF := sSet 5 (mCall [.chg, .shr] F_law_order (aNm 3 (aNm 4 (aNil))))
def lw4 : SF := sSet 6 (mCall [.chg, .shr] F_law_order (aNm 3 (aNm 4 (aNil))))
def lw5 : SF := sSet 7 (mN (fLstI (fNil)))
def lwc : MF := mComp (chs []) [12] (asR2 (fCons (f2 gAdd (fVar 8) (fC (.int 1))) (fCons (fVar 4) (fNil)))) (tgN 12) (tYesD) (mTup (aVa (mMove 8) (aVa (mMove 12) (aNil))))
def lw6b : SF := sSet 7 (mN (f2 gAdd (fVar 7) (fFrz lwc)))
def lw6 : SF := sFor (chs [7, 8]) (asR1 (fCons (fVar 4) (fNil))) (tgN 8) lw6b
def lw7 : SF := sSet 9 (mComp (chs []) [11] (asL (fVar 7)) (tgN 11) (mT (fB (f2 (gEq false) (f2 gIx (fVar 11) (fC (.int 1))) (f2 gAdd (f2 gIx (fVar 11) (fC (.int 0))) (fC (.int 1)))))) (mMove 11))
def lw8 : SF := sSet 10 (mLst (aVa (mN (fX (fCall F_law_first (fCons (fVar 5) (fCons (fX (fCall F_law_far (fCons (fVar 6) (fCons (fVar 7) (fNil))))) (fCons (fVar 7) (fNil))))))) (aVa (mN (fX (fCall F_law_first (fCons (fVar 5) (fCons (fX (fCall F_law_far (fCons (fVar 6) (fCons (fVar 9) (fNil))))) (fCons (fVar 9) (fNil))))))) (aNil))))
def lw9 : SF := sIf (mT (fOr (fB (f2 (gEq true) (fX (fCall F_fewest_by_all (fCons (fVar 5) (fCons (fVar 6) (fNil))))) (f2 gIx (fVar 10) (fC (.int 0))))) (fB (f2 (gEq true) (fX (fCall F_fewest_by_neighbours (fCons (fVar 5) (fCons (fVar 6) (fNil))))) (f2 gIx (fVar 10) (fC (.int 1))))))) (sRet (mN (fC (.bl false))))
    (sNx)
def lw10 : SF := sIf (mT (fOr (fB (f2 (gEq true) (fX (fCall F_is_even (fCons (fVar 5) (fCons (fVar 6) (fNil))))) (f2 (gEq false) (f2 gMod (fL gLen (fCons (f2 gIx (fVar 10) (fC (.int 0))) (fNil))) (fC (.int 2))) (fC (.int 0))))) (fB (f2 (gEq true) (f2 gMod (fL gLen (fCons (f2 gIx (fVar 10) (fC (.int 0))) (fNil))) (fC (.int 2))) (f2 gMod (fL gLen (fCons (f2 gIx (fVar 10) (fC (.int 1))) (fNil))) (fC (.int 2))))))) (sRet (mN (fC (.bl false))))
    (sNx)
def lwb : SF := sSeq lw1 (sSeq lw2 (sSeq lw3 (sSeq lw4 (sSeq lw5 (sSeq lw6 (sSeq lw7 (sSeq lw8 (sSeq lw9 lw10))))))))
theorem lw_eq : G_law = sSeq (sFor (chs [1, 2, 3, 4, 5, 6, 7, 8, 9, 10]) (asL (fX (fCall F_law_cells (fCons (fVar 0) (fCons (fC (.int 10)) (fNil)))))) (tgT 2 (tgCons (tgN 1) (tgCons (tgN 2) (tgNil)))) lwb)
    (sRet (mN (fC (.bl true)))) := rfl
/-- the webs -/
theorem lw6_run (n : Nat) (hn : n ≤ 5) (a0 s1 s2 s3 s5 s6 s8 s9 s10 : Option Slot) (h8 : npo (some s8) = true) :
    ∃ t8, lw6 [a0, s1, s2, s3, some ⟨.own, .int (n : Int)⟩, s5, s6, some ⟨.own, .lst []⟩, s8, s9, s10, none, none] = some (.nx [a0, s1, s2, s3, some ⟨.own, .int (n : Int)⟩, s5, s6, some ⟨.own, .lst ((everyN n).map swD)⟩, t8, s9, s10, none, none]) ∧ npo (some t8) = true := by
  -- one turn
  have turn (k : Nat) (hk : k < n) (acc : List (Nat × Nat)) (hl : acc.length ≤ 100) (b0 r1 r2 r3 r5 r6 r9 r10 c8 : Option Slot) (h8 : npo (some c8) = true) :
      ∃ env1 env2, tgN 8 (.int (k : Int)) [b0, r1, r2, r3, some ⟨.pin, .int (n : Int)⟩, r5, r6, some ⟨.own, .lst (acc.map swD)⟩, c8, r9, r10, none, none] = some env1 ∧ lw6b env1 = some (.nx env2) ∧ env2.length = 13 ∧
        ∃ t8, env2 = [b0, r1, r2, r3, some ⟨.pin, .int (n : Int)⟩, r5, r6, some ⟨.own, .lst ((acc ++ ((List.range' (k + 1) (n - (k + 1))).map fun b => (k, b))).map swD)⟩, t8, r9, r10, none, none] ∧ npo (some t8) = true := by
    have i1 : immM (.int (k : Int)) = .own := rfl
    let E1 : Env := [b0, r1, r2, r3, some ⟨.pin, .int (n : Int)⟩, r5, r6, some ⟨.own, .lst (acc.map swD)⟩, some ⟨.own, .int (k : Int)⟩, r9, r10, none, none]
    let F1 : Env := frz noCh E1
    have hcomp : lwc F1 = some (.ok (.lst ((List.range' (k + 1) (n - (k + 1))).map fun b => swD (k, b))) F1) := by
      have hi : asR2 (fCons (f2 gAdd (fVar 8) (fC (.int 1))) (fCons (fVar 4) (fNil))) (clr (chx (chs []) [12] F1.length) F1) = some ((List.range' (k + 1) (n - (k + 1))).map fun b : Nat => D.int (b : Int)) := by
        have v8 : fVar 8 (clr (chx (chs []) [12] F1.length) F1) = some (.int (k : Int)) := rfl
        have v4 : fVar 4 (clr (chx (chs []) [12] F1.length) F1) = some (.int (n : Int)) := rfl
        have q1 : fCons (f2 gAdd (fVar 8) (fC (.int 1))) (fCons (fVar 4) (fNil)) (clr (chx (chs []) [12] F1.length) F1) = some [.int ((k : Int) + 1), .int (n : Int)] := by
          refine fCons_eq ?_ (fCons_eq v4 rfl)
          unfold f2
          rw [v8]
          rfl
        unfold asR2
        rw [q1]
        have c1 : (n : Int) ≤ (LIM : Int) ∧ -(LIM : Int) ≤ (n : Int) ∧ (k : Int) + 1 ≤ (LIM : Int) ∧ -(LIM : Int) ≤ (k : Int) + 1 := by rw [limI]; omega
        simp only [c1, and_self, if_true]
        have em : ((n : Int) - ((k : Int) + 1)).toNat = n - (k + 1) := by omega
        rw [em]
        unfold rangeD
        rw [List.range'_eq_map_range, List.map_map]
        congr 2
      have hE : hideE [12] (frz (chx (chs []) [12] F1.length) F1) = [frzS (frzS b0), frzS (frzS r1), frzS (frzS r2), frzS (frzS r3), some ⟨.pin, .int (n : Int)⟩, frzS (frzS r5), frzS (frzS r6), some ⟨.pin, .lst (acc.map swD)⟩, some ⟨.pin, .int (k : Int)⟩, frzS (frzS r9), frzS (frzS r10), none, none] := rfl
      have := mComp_run (ch := chs []) (vs := [12]) (i := asR2 (fCons (f2 gAdd (fVar 8) (fC (.int 1))) (fCons (fVar 4) (fNil)))) (tg := tgN 12) (t := tYesD) (f := mTup (aVa (mMove 8) (aVa (mMove 12) (aNil)))) (env := F1)
        (out := fun b : Nat => swD (k, b)) (enc := fun b : Nat => D.int (b : Int)) (p := fun b => some (some b)) (r := List.range' (k + 1) (n - (k + 1))) chs_nil hi hE (fun x ex => by cases ex) (fun x y ex => by
          cases ex
          refine ⟨[frzS (frzS b0), frzS (frzS r1), frzS (frzS r2), frzS (frzS r3), some ⟨.pin, .int (n : Int)⟩, frzS (frzS r5), frzS (frzS r6), some ⟨.pin, .lst (acc.map swD)⟩, some ⟨.pin, .int (k : Int)⟩, frzS (frzS r9), frzS (frzS r10), none, some ⟨.own, .int (x : Int)⟩],
            [frzS (frzS b0), frzS (frzS r1), frzS (frzS r2), frzS (frzS r3), some ⟨.pin, .int (n : Int)⟩, frzS (frzS r5), frzS (frzS r6), some ⟨.pin, .lst (acc.map swD)⟩, some ⟨.pin, .int (k : Int)⟩, frzS (frzS r9), frzS (frzS r10), none, some ⟨.own, .int (x : Int)⟩],
            [frzS (frzS b0), frzS (frzS r1), frzS (frzS r2), frzS (frzS r3), some ⟨.pin, .int (n : Int)⟩, frzS (frzS r5), frzS (frzS r6), some ⟨.pin, .lst (acc.map swD)⟩, some ⟨.pin, .int (k : Int)⟩, frzS (frzS r9), frzS (frzS r10), none, some ⟨.own, .int (x : Int)⟩], by simp [tgN, canSet_np, show immM (.int (x : Int)) = .own from rfl], rfl, by simp [mTup, aVa, mMove, imm, aNil, vaL, LIM, swD], rfl⟩) (by
          have : ∀ l : List Nat, compN (fun b => some (some b)) l = some l := by
            intro l
            induction l with
            | nil => rfl
            | cons x l ih => unfold compN; rw [ih]
          exact this _) (by rw [List.length_range']; unfold LIM; omega)
      exact this
    refine ⟨E1, [b0, r1, r2, r3, some ⟨.pin, .int (n : Int)⟩, r5, r6, some ⟨.own, .lst ((acc ++ ((List.range' (k + 1) (n - (k + 1))).map fun b => (k, b))).map swD)⟩, some ⟨.own, .int (k : Int)⟩, r9, r10, none, none], ?_, ?_, rfl, _, rfl, rfl⟩
    · simp [tgN, canSet_np, h8, i1, E1]
    · have q1 : fFrz lwc E1 = some (.lst (((List.range' (k + 1) (n - (k + 1))).map fun b => (k, b)).map swD)) := by
        unfold fFrz
        rw [show frz noCh E1 = F1 from rfl, hcomp, List.map_map]
        rfl
      have q2 : f2 gAdd (fVar 7) (fFrz lwc) E1 = some (.lst ((acc ++ ((List.range' (k + 1) (n - (k + 1))).map fun b => (k, b))).map swD)) := by
        unfold f2
        rw [q1]
        show (if imms (acc.map swD) = true ∧ imms (((List.range' (k + 1) (n - (k + 1))).map fun b => (k, b)).map swD) = true ∧ (acc.map swD).length + (((List.range' (k + 1) (n - (k + 1))).map fun b => (k, b)).map swD).length ≤ LIM then some (D.lst (acc.map swD ++ ((List.range' (k + 1) (n - (k + 1))).map fun b => (k, b)).map swD)) else none) = _
        rw [if_pos ⟨imms_sw _, imms_sw _, by simp only [List.length_map, List.length_range']; unfold LIM; omega⟩, List.map_append]
      unfold lw6b sSet mN
      rw [q2]
      rfl
  let pref : Nat → List (Nat × Nat) := fun k => (List.range k).flatMap fun a => (List.range' (a + 1) (n - (a + 1))).map fun b => (a, b)
  have hpl : ∀ k, k ≤ n → (pref k).length ≤ 100 := by
    have : ∀ n, n ≤ 5 → ∀ k, k ≤ n → ((List.range k).flatMap fun a => (List.range' (a + 1) (n - (a + 1))).map fun b => (a, b)).length ≤ 100 := by decide +kernel
    exact this n hn
  have hps : ∀ k, pref (k + 1) = pref k ++ (List.range' (k + 1) (n - (k + 1))).map fun b => (k, b) := fun k => by
    show (List.range (k + 1)).flatMap _ = _
    rw [List.range_succ, List.flatMap_append]
    simp [pref]
  have hpn : pref n = everyN n := by
    have : ∀ n, n ≤ 5 → ((List.range n).flatMap fun a => (List.range' (a + 1) (n - (a + 1))).map fun b => (a, b)) = everyN n := by decide +kernel
    exact this n hn
  obtain ⟨env', e1, l1, t8, rfl, k8⟩ := sLoop_rng (tg := tgN 8) (g := lw6b) (enc := fun i : Nat => D.int (i : Int))
    (R := fun k env => ∃ c8, env = [frzS a0, frzS s1, frzS s2, frzS s3, some ⟨.pin, .int (n : Int)⟩, frzS s5, frzS s6, some ⟨.own, .lst ((pref k).map swD)⟩, c8, frzS s9, frzS s10, none, none] ∧ npo (some c8) = true) n
    (fun k env hk ⟨c8, ee, h8⟩ => by
      subst ee
      obtain ⟨v1, v2, q1, q2, q3, t8, q4, q5⟩ := turn k hk (pref k) (hpl k (by omega)) (frzS a0) (frzS s1) (frzS s2) (frzS s3) (frzS s5) (frzS s6) (frzS s9) (frzS s10) c8 h8
      exact ⟨v1, v2, q1, q2, q3, t8, by rw [hps]; exact q4, q5⟩)
    [frzS a0, frzS s1, frzS s2, frzS s3, some ⟨.pin, .int (n : Int)⟩, frzS s5, frzS s6, some ⟨.own, .lst []⟩, s8, frzS s9, frzS s10, none, none] ⟨s8, rfl, h8⟩
  have hr : asR1 (fCons (fVar 4) (fNil)) (clr (chs [7, 8]) [a0, s1, s2, s3, some ⟨.own, .int (n : Int)⟩, s5, s6, some ⟨.own, .lst []⟩, s8, s9, s10, none, none]) = some ((List.range n).map fun i : Nat => D.int (i : Int)) := by
    have c1 : fCons (fVar 4) (fNil) (clr (chs [7, 8]) [a0, s1, s2, s3, some ⟨.own, .int (n : Int)⟩, s5, s6, some ⟨.own, .lst []⟩, s8, s9, s10, none, none]) = some [.int (n : Int)] := rfl
    have c3 : (n : Int) ≤ 1000000 := by omega
    have c4 : -1000000 ≤ (n : Int) := by omega
    simp [asR1, c1, LIM, c3, c4, range_dI]
  have f1 := sFor_nx (ch := chs [7, 8]) (env := [a0, s1, s2, s3, some ⟨.own, .int (n : Int)⟩, s5, s6, some ⟨.own, .lst []⟩, s8, s9, s10, none, none]) hr e1 rfl
  refine ⟨thawS true s8 t8, ?_, npo_thaw _ _⟩
  unfold lw6
  rw [f1]
  have ft (s : Option Slot) : thawS false s (frzS s) = s := frz_thaw s
  show some (O.nx [thawS false a0 (frzS a0), thawS false s1 (frzS s1), thawS false s2 (frzS s2), thawS false s3 (frzS s3), some ⟨.own, .int (n : Int)⟩, thawS false s5 (frzS s5), thawS false s6 (frzS s6), some ⟨.own, .lst ((pref n).map swD)⟩, thawS true s8 t8, thawS false s9 (frzS s9), thawS false s10 (frzS s10), none, none]) = _
  simp only [ft, hpn]
end DL


set_option Elab.async false
set_option linter.all false
set_option maxRecDepth 100000
set_option maxHeartbeats 0
namespace DL
open PySem L2 Enc
def keepN (x : Nat × Nat) : Option (Option (Nat × Nat)) := if x.2 = x.1 + 1 then some (some x) else some none
theorem compN_filter : ∀ l : List (Nat × Nat), compN keepN l = some (l.filter fun s => decide (s.2 = s.1 + 1))
  | [] => rfl
  | x :: l => by
    unfold compN
    rw [compN_filter l]
    unfold keepN
    by_cases h : x.2 = x.1 + 1
    · simp [h]
    · simp [h]
theorem lw7_run (w : List (Nat × Nat)) (hw : w.length < 1000) (a0 s1 s2 s3 s4 s5 s6 s8 s9 s10 : Option Slot) (h9 : npo (some s9) = true) :
    lw7 [a0, s1, s2, s3, s4, s5, s6, some ⟨.own, .lst (w.map swD)⟩, s8, s9, s10, none, none] = some (.nx [a0, s1, s2, s3, s4, s5, s6, some ⟨.own, .lst (w.map swD)⟩, s8, some ⟨.own, .lst ((w.filter fun s => decide (s.2 = s.1 + 1)).map swD)⟩, s10, none, none]) := by
  have i0 (x : Nat × Nat) : immM (swD x) = .own := rfl
  have g1 (x : Nat × Nat) : gIx (swD x) (.int 1) = some (.int (x.2 : Int)) := rfl
  have g0 (x : Nat × Nat) : gIx (swD x) (.int 0) = some (.int (x.1 : Int)) := rfl
  have hc : mComp (chs []) [11] (asL (fVar 7)) (tgN 11) (mT (fB (f2 (gEq false) (f2 gIx (fVar 11) (fC (.int 1))) (f2 gAdd (f2 gIx (fVar 11) (fC (.int 0))) (fC (.int 1)))))) (mMove 11) [a0, s1, s2, s3, s4, s5, s6, some ⟨.own, .lst (w.map swD)⟩, s8, s9, s10, none, none] = some (.ok (.lst ((w.filter fun s => decide (s.2 = s.1 + 1)).map swD)) [a0, s1, s2, s3, s4, s5, s6, some ⟨.own, .lst (w.map swD)⟩, s8, s9, s10, none, none]) := by
    refine mComp_run (out := swD) (enc := swD) (E := [frzS a0, frzS s1, frzS s2, frzS s3, frzS s4, frzS s5, frzS s6, some ⟨.pin, .lst (w.map swD)⟩, frzS s8, frzS s9, frzS s10, none, none]) (p := keepN) chs_nil (by rfl) (by rfl) (fun x ex => ?_) (fun x y ex => ?_) (compN_filter w) (by unfold LIM; omega)
    · unfold keepN at ex
      split at ex
      · cases ex
      · rename_i hx
        have hd : ¬ ((x.2 : Int) = (x.1 : Int) + 1) := by omega
        refine ⟨[frzS a0, frzS s1, frzS s2, frzS s3, frzS s4, frzS s5, frzS s6, some ⟨.pin, .lst (w.map swD)⟩, frzS s8, frzS s9, frzS s10, some ⟨.own, swD x⟩, none], [frzS a0, frzS s1, frzS s2, frzS s3, frzS s4, frzS s5, frzS s6, some ⟨.pin, .lst (w.map swD)⟩, frzS s8, frzS s9, frzS s10, some ⟨.own, swD x⟩, none], ?_, ?_, rfl⟩
        · simp [tgN, canSet_np, i0]
        · simp [mT, fB, f2, fVar, fC, g1, g0, gAdd, ge_int, hd]
    · unfold keepN at ex
      split at ex
      · rename_i hx
        cases ex
        have hd : (x.2 : Int) = (x.1 : Int) + 1 := by omega
        have im : imm (swD x) = true := rfl
        refine ⟨[frzS a0, frzS s1, frzS s2, frzS s3, frzS s4, frzS s5, frzS s6, some ⟨.pin, .lst (w.map swD)⟩, frzS s8, frzS s9, frzS s10, some ⟨.own, swD x⟩, none], [frzS a0, frzS s1, frzS s2, frzS s3, frzS s4, frzS s5, frzS s6, some ⟨.pin, .lst (w.map swD)⟩, frzS s8, frzS s9, frzS s10, some ⟨.own, swD x⟩, none], [frzS a0, frzS s1, frzS s2, frzS s3, frzS s4, frzS s5, frzS s6, some ⟨.pin, .lst (w.map swD)⟩, frzS s8, frzS s9, frzS s10, some ⟨.own, swD x⟩, none], ?_, ?_, ?_, rfl⟩
        · simp [tgN, canSet_np, i0]
        · simp [mT, fB, f2, fVar, fC, g1, g0, gAdd, ge_int, hd]
        · simp [mMove, im]
      · cases ex
  unfold lw7 sSet
  rw [hc]
  simp [canSet_np, h9]
/-- what the finite check gives -/
theorem chk_all {n : Nat} (hn : n ≤ 5) {p : List Nat} (hp : p.Perm (List.range n)) : ∃ fe fn a b c d f, farS (everyN n) (List.range n) = some (fe, []) ∧ farS (nearN n) (List.range n) = some (fn, []) ∧ firN fe (everyN n) p = some a ∧ firN fn (nearN n) p = some b ∧ baN (List.range n) p = some c ∧ nbN (List.range n) p = some d ∧ rdN (List.range n) p = some f ∧
    c.2 = a.1 ∧ d.2.1 = b.1 ∧ (decide (((p.length : Int) - (f.length : Int)) % 2 = 0) = decide ((a.1.length : Int) % 2 = 0)) ∧ (a.1.length : Int) % 2 = (b.1.length : Int) % 2 := by
  have mem := perms_mem _ _ hp
  have fin : ∀ fe fn, chk1 n fe fn p = true → farS (everyN n) (List.range n) = some (fe, []) → farS (nearN n) (List.range n) = some (fn, []) → ∃ fe fn a b c d f, farS (everyN n) (List.range n) = some (fe, []) ∧ farS (nearN n) (List.range n) = some (fn, []) ∧ firN fe (everyN n) p = some a ∧ firN fn (nearN n) p = some b ∧ baN (List.range n) p = some c ∧ nbN (List.range n) p = some d ∧ rdN (List.range n) p = some f ∧
    c.2 = a.1 ∧ d.2.1 = b.1 ∧ (decide (((p.length : Int) - (f.length : Int)) % 2 = 0) = decide ((a.1.length : Int) % 2 = 0)) ∧ (a.1.length : Int) % 2 = (b.1.length : Int) % 2 := fun fe fn h e1 e2 => by
    unfold chk1 at h
    split at h
    · rename_i a b c d f q1 q2 q3 q4 q5
      have h1 := Bool.and_eq_true_iff.mp h
      have h2 := Bool.and_eq_true_iff.mp h1.1
      have h3 := Bool.and_eq_true_iff.mp h2.1
      exact ⟨fe, fn, a, b, c, d, f, e1, e2, q1, q2, q3, q4, q5, of_decide_eq_true h3.1, of_decide_eq_true h3.2, eq_of_beq h2.2, of_decide_eq_true h1.2⟩
    · cases h
  have hcase : n = 0 ∨ n = 1 ∨ n = 2 ∨ n = 3 ∨ n = 4 ∨ n = 5 := by omega
  rcases hcase with rfl | rfl | rfl | rfl | rfl | rfl
  · exact fin _ _ (List.all_eq_true.mp chk0 p mem) farE0 farN0
  · exact fin _ _ (List.all_eq_true.mp chk1_ p mem) farE1 farN1
  · exact fin _ _ (List.all_eq_true.mp chk2 p mem) farE2 farN2
  · exact fin _ _ (List.all_eq_true.mp chk3 p mem) farE3 farN3
  · exact fin _ _ (List.all_eq_true.mp chk4 p mem) farE4 farN4
  · exact fin _ _ (List.all_eq_true.mp chk5 p mem) farE5 farN5
end DL


set_option Elab.async false
set_option linter.all false
set_option maxRecDepth 100000
set_option maxHeartbeats 0
namespace DL
open PySem L2 Enc
theorem every_len (n : Nat) (hn : n ≤ 5) : (everyN n).length < 1000 := by
  have : ∀ n, n ≤ 5 → (everyN n).length < 1000 := by decide +kernel
  exact this n hn
theorem law_body (sc : D) (k : Nat) (hk : k < 1000) (cell : Int) (s1 s2 s3 s4 s5 s6 s7 s8 s9 s10 : Option Slot) (h1 : npo (some s1) = true) (h2 : npo (some s2) = true) (h3 : npo (some s3) = true) (h4 : npo (some s4) = true) (h5 : npo (some s5) = true) (h6 : npo (some s6) = true) (h7 : npo (some s7) = true) (h8 : npo (some s8) = true) (h9 : npo (some s9) = true) (h10 : npo (some s10) = true) :
    ∃ env1 env2, tgT 2 (tgCons (tgN 1) (tgCons (tgN 2) (tgNil))) (.tup [.int (k : Int), .int cell]) [some ⟨.pin, sc⟩, s1, s2, s3, s4, s5, s6, s7, s8, s9, s10, none, none] = some env1 ∧ lwb env1 = some (.nx env2) ∧ env2.length = 13 ∧
      ∃ t1 t2 t3 t4 t5 t6 t7 t8 t9 t10, env2 = [some ⟨.pin, sc⟩, t1, t2, t3, t4, t5, t6, t7, t8, t9, t10, none, none] ∧ npo (some t1) = true ∧ npo (some t2) = true ∧ npo (some t3) = true ∧ npo (some t4) = true ∧ npo (some t5) = true ∧ npo (some t6) = true ∧ npo (some t7) = true ∧ npo (some t8) = true ∧ npo (some t9) = true ∧ npo (some t10) = true := by
  have i1 : immM (.int (k : Int)) = .own := rfl
  have i2 : immM (.int cell) = .own := rfl
  have z0 : tgT 2 (tgCons (tgN 1) (tgCons (tgN 2) (tgNil))) (.tup [.int (k : Int), .int cell]) [some ⟨.pin, sc⟩, s1, s2, s3, s4, s5, s6, s7, s8, s9, s10, none, none] = some [some ⟨.pin, sc⟩, some ⟨.own, .int (k : Int)⟩, some ⟨.own, .int cell⟩, s3, s4, s5, s6, s7, s8, s9, s10, none, none] := by
    simp [tgT, tgCons, tgN, tgNil, canSet_np, h1, h2, i1, i2]
  obtain ⟨d1, r1, e1, ok1⟩ := hand_spec (cell := cell) (k := (k : Int)) (by omega) (by omega)
  have z1 : lw1 [some ⟨.pin, sc⟩, some ⟨.own, .int (k : Int)⟩, some ⟨.own, .int cell⟩, s3, s4, s5, s6, s7, s8, s9, s10, none, none] = some (.nx [some ⟨.pin, sc⟩, some ⟨.own, .int (k : Int)⟩, some ⟨.own, .int cell⟩, some ⟨.own, Hd d1 r1⟩, s4, s5, s6, s7, s8, s9, s10, none, none]) := by
    simp [lw1, sSet, mN, fX, fCall, fCons, fVar, fNil, e1, canSet_np, h3]
  obtain ⟨a, d2, r2, e2, a0, a1, ok2⟩ := draw_spec ok1 (show (0 : Int) < 6 by omega) (by omega)
  obtain ⟨b, d3, r3, e3, b0, b1, ok3⟩ := draw_spec ok2 (show (0 : Int) < 2 by omega) (by omega)
  obtain ⟨n, hn, z2⟩ : ∃ n : Nat, n ≤ 5 ∧ lw2 [some ⟨.pin, sc⟩, some ⟨.own, .int (k : Int)⟩, some ⟨.own, .int cell⟩, some ⟨.own, Hd d1 r1⟩, s4, s5, s6, s7, s8, s9, s10, none, none] = some (.nx [some ⟨.pin, sc⟩, some ⟨.own, .int (k : Int)⟩, some ⟨.own, .int cell⟩, some ⟨.own, Hd d3 r3⟩, some ⟨.own, .int (n : Int)⟩, s5, s6, s7, s8, s9, s10, none, none]) := by
    have hb : b = 0 ∨ b = 1 := by omega
    rcases hb with rfl | rfl
    · refine ⟨a.toNat, by omega, ?_⟩
      have ea : a = ((a.toNat : Nat) : Int) := by omega
      have at0 : atI [D.int a, D.int 5] 0 = some (.int a) := rfl
      rw [← ea]
      simp [lw2, sSet, mIx, mLst, aVa, mCall, aNm, fVar, mN, fC, aNil, agOk, nms, Md.ex, resolve, e2, outEnv, isChg, putNm, upS, vaL, LIM, e3, at0, imm, canSet_np, h4]
    · refine ⟨5, by omega, ?_⟩
      have at1 : atI [D.int a, D.int 5] 1 = some (.int 5) := rfl
      simp [lw2, sSet, mIx, mLst, aVa, mCall, aNm, fVar, mN, fC, aNil, agOk, nms, Md.ex, resolve, e2, outEnv, isChg, putNm, upS, vaL, LIM, e3, at1, imm, canSet_np, h4]
  obtain ⟨d4, r4, f, e4, ok4, pf⟩ := order_spec (n := n) ok3 (by omega)
  have z3 : lw3 [some ⟨.pin, sc⟩, some ⟨.own, .int (k : Int)⟩, some ⟨.own, .int cell⟩, some ⟨.own, Hd d3 r3⟩, some ⟨.own, .int (n : Int)⟩, s5, s6, s7, s8, s9, s10, none, none] = some (.nx [some ⟨.pin, sc⟩, some ⟨.own, .int (k : Int)⟩, some ⟨.own, .int cell⟩, some ⟨.own, Hd d4 r4⟩, some ⟨.own, .int (n : Int)⟩, some ⟨.own, mk cst f⟩, s6, s7, s8, s9, s10, none, none]) := by
    simp [lw3, sSet, mCall, aNm, fVar, aNil, agOk, nms, Md.ex, resolve, e4, outEnv, isChg, putNm, upS, canSet_np, h5]
  obtain ⟨d5, r5, g, e5, ok5, pg⟩ := order_spec (n := n) ok4 (by omega)
  have z4 : lw4 [some ⟨.pin, sc⟩, some ⟨.own, .int (k : Int)⟩, some ⟨.own, .int cell⟩, some ⟨.own, Hd d4 r4⟩, some ⟨.own, .int (n : Int)⟩, some ⟨.own, mk cst f⟩, s6, s7, s8, s9, s10, none, none] = some (.nx [some ⟨.pin, sc⟩, some ⟨.own, .int (k : Int)⟩, some ⟨.own, .int cell⟩, some ⟨.own, Hd d5 r5⟩, some ⟨.own, .int (n : Int)⟩, some ⟨.own, mk cst f⟩, some ⟨.own, mk cst g⟩, s7, s8, s9, s10, none, none]) := by
    simp [lw4, sSet, mCall, aNm, fVar, aNil, agOk, nms, Md.ex, resolve, e5, outEnv, isChg, putNm, upS, canSet_np, h6]
  obtain ⟨p, ep, pp⟩ := mk_one pf pg
  rw [ep] at z3 z4
  rw [mk_nam pg] at z4
  have inj := nam_inj pg
  obtain ⟨π, hπ⟩ : ∃ π, π = nam g := ⟨_, rfl⟩
  rw [← hπ] at z3 z4 inj
  have z5 : lw5 [some ⟨.pin, sc⟩, some ⟨.own, .int (k : Int)⟩, some ⟨.own, .int cell⟩, some ⟨.own, Hd d5 r5⟩, some ⟨.own, .int (n : Int)⟩, some ⟨.own, mk π p⟩, some ⟨.own, mk π (List.range n)⟩, s7, s8, s9, s10, none, none] = some (.nx [some ⟨.pin, sc⟩, some ⟨.own, .int (k : Int)⟩, some ⟨.own, .int cell⟩, some ⟨.own, Hd d5 r5⟩, some ⟨.own, .int (n : Int)⟩, some ⟨.own, mk π p⟩, some ⟨.own, mk π (List.range n)⟩, some ⟨.own, .lst []⟩, s8, s9, s10, none, none]) := by
    simp [lw5, sSet, mN, fLstI, fNil, LIM, imms, canSet_np, h7]
  obtain ⟨t8, z6, k8⟩ := lw6_run n hn (some ⟨.pin, sc⟩) (some ⟨.own, .int (k : Int)⟩) (some ⟨.own, .int cell⟩) (some ⟨.own, Hd d5 r5⟩) (some ⟨.own, mk π p⟩) (some ⟨.own, mk π (List.range n)⟩) s8 s9 s10 h8
  have z7 := lw7_run (everyN n) (every_len n hn) (some ⟨.pin, sc⟩) (some ⟨.own, .int (k : Int)⟩) (some ⟨.own, .int cell⟩) (some ⟨.own, Hd d5 r5⟩) (some ⟨.own, .int (n : Int)⟩) (some ⟨.own, mk π p⟩) (some ⟨.own, mk π (List.range n)⟩) t8 s9 s10 h9
  rw [show ((everyN n).filter fun s => decide (s.2 = s.1 + 1)) = nearN n from rfl] at z7
  obtain ⟨fe, fn, A, B, C, D_, F, q1, q2, q3, q4, q5, q6, q7, c1, c2, c3, c4⟩ := chk_all hn pp
  have u1 := far_spec inj q1
  have u2 := far_spec inj q2
  have u3 := fir_spec inj q3
  have u4 := fir_spec inj q4
  have u5 := ba_spec inj q5
  have u6 := nb_spec inj q6
  have u7 := even_spec inj q7
  rw [c1] at u5
  rw [c2] at u6
  rw [c3] at u7
  simp only at u1 u2
  have z8 : lw8 [some ⟨.pin, sc⟩, some ⟨.own, .int (k : Int)⟩, some ⟨.own, .int cell⟩, some ⟨.own, Hd d5 r5⟩, some ⟨.own, .int (n : Int)⟩, some ⟨.own, mk π p⟩, some ⟨.own, mk π (List.range n)⟩, some ⟨.own, .lst ((everyN n).map swD)⟩, t8, some ⟨.own, .lst ((nearN n).map swD)⟩, s10, none, none]
      = some (.nx [some ⟨.pin, sc⟩, some ⟨.own, .int (k : Int)⟩, some ⟨.own, .int cell⟩, some ⟨.own, Hd d5 r5⟩, some ⟨.own, .int (n : Int)⟩, some ⟨.own, mk π p⟩, some ⟨.own, mk π (List.range n)⟩, some ⟨.own, .lst ((everyN n).map swD)⟩, t8, some ⟨.own, .lst ((nearN n).map swD)⟩, some ⟨.own, .lst [.lst (A.1.map swD), .lst (B.1.map swD)]⟩, none, none]) := by
    simp [lw8, sSet, mLst, aVa, mN, fX, fCall, fCons, fVar, fNil, u1, u2, u3, u4, aNil, vaL, LIM, canSet_np, h10]
  have j0 : gIx (.lst [D.lst (A.1.map swD), D.lst (B.1.map swD)]) (.int 0) = some (.lst (A.1.map swD)) := rfl
  have j1 : gIx (.lst [D.lst (A.1.map swD), D.lst (B.1.map swD)]) (.int 1) = some (.lst (B.1.map swD)) := rfl
  have ra := eq_row A.1
  have rb := eq_row B.1
  have z9 : lw9 [some ⟨.pin, sc⟩, some ⟨.own, .int (k : Int)⟩, some ⟨.own, .int cell⟩, some ⟨.own, Hd d5 r5⟩, some ⟨.own, .int (n : Int)⟩, some ⟨.own, mk π p⟩, some ⟨.own, mk π (List.range n)⟩, some ⟨.own, .lst ((everyN n).map swD)⟩, t8, some ⟨.own, .lst ((nearN n).map swD)⟩, some ⟨.own, .lst [.lst (A.1.map swD), .lst (B.1.map swD)]⟩, none, none]
      = some (.nx [some ⟨.pin, sc⟩, some ⟨.own, .int (k : Int)⟩, some ⟨.own, .int cell⟩, some ⟨.own, Hd d5 r5⟩, some ⟨.own, .int (n : Int)⟩, some ⟨.own, mk π p⟩, some ⟨.own, mk π (List.range n)⟩, some ⟨.own, .lst ((everyN n).map swD)⟩, t8, some ⟨.own, .lst ((nearN n).map swD)⟩, some ⟨.own, .lst [.lst (A.1.map swD), .lst (B.1.map swD)]⟩, none, none]) := by
    simp [lw9, sIf, mT, fOr, fB, f2, fX, fCall, fCons, fVar, fNil, fC, u5, u6, j0, j1, ra, rb, sNx]
  have la : gLen [D.lst (A.1.map swD)] = some (.int (A.1.length : Int)) := by simp [gLen]
  have lb : gLen [D.lst (B.1.map swD)] = some (.int (B.1.length : Int)) := by simp [gLen]
  have gb (x y : Bool) (h : x = y) : gEq true (.bl x) (.bl y) = some (.bl false) := by subst h; cases x <;> rfl
  have gi (x : Int) : gEq true (.int x) (.int x) = some (.bl false) := by
    have := gEq_enc (α := Int) (neg := true) (a := x) (b := x) (by decide)
    rw [show (enc x : D) = .int x from rfl] at this
    rw [this]; simp
  have z10 : lw10 [some ⟨.pin, sc⟩, some ⟨.own, .int (k : Int)⟩, some ⟨.own, .int cell⟩, some ⟨.own, Hd d5 r5⟩, some ⟨.own, .int (n : Int)⟩, some ⟨.own, mk π p⟩, some ⟨.own, mk π (List.range n)⟩, some ⟨.own, .lst ((everyN n).map swD)⟩, t8, some ⟨.own, .lst ((nearN n).map swD)⟩, some ⟨.own, .lst [.lst (A.1.map swD), .lst (B.1.map swD)]⟩, none, none]
      = some (.nx [some ⟨.pin, sc⟩, some ⟨.own, .int (k : Int)⟩, some ⟨.own, .int cell⟩, some ⟨.own, Hd d5 r5⟩, some ⟨.own, .int (n : Int)⟩, some ⟨.own, mk π p⟩, some ⟨.own, mk π (List.range n)⟩, some ⟨.own, .lst ((everyN n).map swD)⟩, t8, some ⟨.own, .lst ((nearN n).map swD)⟩, some ⟨.own, .lst [.lst (A.1.map swD), .lst (B.1.map swD)]⟩, none, none]) := by
    simp [lw10, sIf, mT, fOr, fB, f2, fX, fCall, fL, fCons, fVar, fNil, fC, u7, j0, j1, la, lb, gMod, gI, cPos, ge_int, gb _ _ rfl, c4, gi, sNx]
  refine ⟨_, _, z0, ?_, rfl, some ⟨.own, .int (k : Int)⟩, some ⟨.own, .int cell⟩, some ⟨.own, Hd d5 r5⟩, some ⟨.own, .int (n : Int)⟩, some ⟨.own, mk π p⟩, some ⟨.own, mk π (List.range n)⟩, some ⟨.own, .lst ((everyN n).map swD)⟩, t8, some ⟨.own, .lst ((nearN n).map swD)⟩, some ⟨.own, .lst [.lst (A.1.map swD), .lst (B.1.map swD)]⟩, rfl, rfl, rfl, rfl, rfl, rfl, rfl, rfl, k8, rfl, rfl⟩
  unfold lwb
  rw [sSeq_nx z1, sSeq_nx z2, sSeq_nx z3, sSeq_nx z4, sSeq_nx z5, sSeq_nx z6, sSeq_nx z7, sSeq_nx z8, sSeq_nx z9, z10]
def itE (x : Int × Nat) : D := .tup [.int (x.2 : Int), .int x.1]
theorem sLoop_all {α : Type} {tg : TgD} {g : SF} {enc : α → D} {R : Env → Prop} : ∀ (xs : List α), (∀ x ∈ xs, ∀ env, R env → ∃ env1 env2, tg (enc x) env = some env1 ∧ g env1 = some (.nx env2) ∧ env2.length = env.length ∧ R env2) → ∀ env, R env → ∃ env', sLoop tg g (xs.map enc) env = some (.nx env') ∧ env'.length = env.length ∧ R env'
  | [], h, env, r => ⟨env, rfl, rfl, r⟩
  | x :: xs, h, env, r => by
    obtain ⟨env1, env2, e1, e2, l2, r2⟩ := h x List.mem_cons_self env r
    obtain ⟨env', e3, l3, r3⟩ := sLoop_all xs (fun y hy => h y (List.mem_cons_of_mem _ hy)) env2 r2
    refine ⟨env', ?_, l3.trans l2, r3⟩
    rw [List.map_cons]
    unfold sLoop
    rw [e1]
    simp only [e2, l2, if_true]
    exact e3
theorem law_true (ns : List Int) (h : ns.length ≤ 63) : ∃ pe, F_law [.lst (ns.map D.int)] = some (.ok (.bl true) pe) := by
  obtain ⟨cs, ec, lc⟩ := cells_spec ns
  have en : enumD (cs.map D.int) = cs.zipIdx.map itE := by
    unfold enumD
    rw [List.mapIdx_eq_zipIdx_map, List.zipIdx_map, List.map_map]
    rfl
  obtain ⟨env', e1, l1, t1, t2, t3, t4, t5, t6, t7, t8, t9, t10, rfl, _⟩ := sLoop_all (tg := tgT 2 (tgCons (tgN 1) (tgCons (tgN 2) (tgNil)))) (g := lwb) (enc := itE)
    (R := fun env => ∃ s1 s2 s3 s4 s5 s6 s7 s8 s9 s10, env = [some ⟨.pin, .lst (ns.map D.int)⟩, s1, s2, s3, s4, s5, s6, s7, s8, s9, s10, none, none] ∧ npo (some s1) = true ∧ npo (some s2) = true ∧ npo (some s3) = true ∧ npo (some s4) = true ∧ npo (some s5) = true ∧ npo (some s6) = true ∧ npo (some s7) = true ∧ npo (some s8) = true ∧ npo (some s9) = true ∧ npo (some s10) = true)
    cs.zipIdx (fun x hx env ⟨s1, s2, s3, s4, s5, s6, s7, s8, s9, s10, ee, h1, h2, h3, h4, h5, h6, h7, h8, h9, h10⟩ => by
      subst ee
      have hk : x.2 < 1000 := by
        have := List.mem_zipIdx hx
        omega
      exact law_body _ x.2 hk x.1 s1 s2 s3 s4 s5 s6 s7 s8 s9 s10 h1 h2 h3 h4 h5 h6 h7 h8 h9 h10)
    [some ⟨.pin, .lst (ns.map D.int)⟩, none, none, none, none, none, none, none, none, none, none, none, none] ⟨none, none, none, none, none, none, none, none, none, none, rfl, rfl, rfl, rfl, rfl, rfl, rfl, rfl, rfl, rfl, rfl⟩
  have hi : asL (fX (fCall F_law_cells (fCons (fVar 0) (fCons (fC (.int 10)) (fNil))))) (clr (chs [1, 2, 3, 4, 5, 6, 7, 8, 9, 10]) [some ⟨.shr, .lst (ns.map D.int)⟩, none, none, none, none, none, none, none, none, none, none, none, none]) = some (cs.zipIdx.map itE) := by
    have v0 : fVar 0 (clr (chs [1, 2, 3, 4, 5, 6, 7, 8, 9, 10]) [some ⟨.shr, .lst (ns.map D.int)⟩, none, none, none, none, none, none, none, none, none, none, none, none]) = some (.lst (ns.map D.int)) := rfl
    rw [← en]
    simp [asL, fX, fCall, fCons, v0, fC, fNil, ec]
  have f1 := sFor_nx (ch := chs [1, 2, 3, 4, 5, 6, 7, 8, 9, 10]) (env := [some ⟨.shr, .lst (ns.map D.int)⟩, none, none, none, none, none, none, none, none, none, none, none, none]) hi e1 rfl
  refine ⟨[none], ?_⟩
  show fnOut [.shr] (G_law [some ⟨.shr, .lst (ns.map D.int)⟩, none, none, none, none, none, none, none, none, none, none, none, none]) = some (.ok (.bl true) [none])
  rw [lw_eq, sSeq_nx f1]
  rfl
end DL


set_option Elab.async false
set_option linter.all false
set_option maxRecDepth 100000
set_option maxHeartbeats 0
namespace DL
open PySem PySem.Spec PyProof.Rows L2
def hd_rounds_between : He.DefD := ⟨("rounds_between", none), "rounds_between", "rounds_between", defArgs (top 1), defBody (top 1), defScope (top 1), [], []⟩
def hd_fewest_by_all : He.DefD := ⟨("fewest_by_all", none), "fewest_by_all", "fewest_by_all", defArgs (top 2), defBody (top 2), defScope (top 2), [], []⟩
def hd_is_even : He.DefD := ⟨("is_even", none), "is_even", "is_even", defArgs (top 3), defBody (top 3), defScope (top 3), [], []⟩
def hd_fewest_by_neighbours : He.DefD := ⟨("fewest_by_neighbours", none), "fewest_by_neighbours", "fewest_by_neighbours", defArgs (top 4), defBody (top 4), defScope (top 4), [], []⟩
def hd_law_hand : He.DefD := ⟨("_law_hand", none), "_law_hand", "_law_hand", defArgs (top 6), defBody (top 6), defScope (top 6), [], []⟩
def hd_law_draw : He.DefD := ⟨("_law_draw", none), "_law_draw", "_law_draw", defArgs (top 7), defBody (top 7), defScope (top 7), [], []⟩
def hd_law_cells : He.DefD := ⟨("_law_cells", none), "_law_cells", "_law_cells", defArgs (top 8), defBody (top 8), defScope (top 8), [], []⟩
def hd_law_called : He.DefD := ⟨("_law_called", none), "_law_called", "_law_called", defArgs (top 9), defBody (top 9), defScope (top 9), [], []⟩
def hd_law_order : He.DefD := ⟨("_law_order", none), "_law_order", "_law_order", defArgs (top 10), defBody (top 10), defScope (top 10), [], []⟩
def hd_law_behind : He.DefD := ⟨("_law_behind", none), "_law_behind", "_law_behind", defArgs (top 11), defBody (top 11), defScope (top 11), [], []⟩
def hd_law_far : He.DefD := ⟨("_law_far", none), "_law_far", "_law_far", defArgs (top 12), defBody (top 12), defScope (top 12), [], []⟩
def hd_law_first : He.DefD := ⟨("_law_first", none), "_law_first", "_law_first", defArgs (top 13), defBody (top 13), defScope (top 13), [], []⟩
def hd_law : He.DefD := ⟨("law", none), "law", "law", defArgs (top 14), defBody (top 14), defScope (top 14), [], []⟩
def hdefs : List He.DefD := [hd_rounds_between, hd_fewest_by_all, hd_is_even, hd_fewest_by_neighbours, hd_law_hand, hd_law_draw, hd_law_cells, hd_law_called, hd_law_order, hd_law_behind, hd_law_far, hd_law_first, hd_law]
def hfacts : List He.Fa := [.glo "rounds_between", .glo "fewest_by_all", .glo "is_even", .glo "fewest_by_neighbours", .glo "_law_hand", .glo "_law_draw", .glo "_law_cells", .glo "_law_called", .glo "_law_order", .glo "_law_behind", .glo "_law_far", .glo "_law_first", .glo "law", .free "enumerate", .free "int", .free "len", .free "list", .free "max", .free "min", .free "range", .free "sorted", .free "tuple"]
abbrev RowO : PySem.W.OpenRow := PySem.W.OpenLaw.row PySem.Challenge.rw_swapweb_k16_fewest_of_short_orders
abbrev hkD : PySem.W.Hook := He.hookD 4 hfacts hdefs
def obT (s : PySem.W.SharedT) : He.AlD := He.obsDG 4 hfacts hdefs (HandSHeadRun.getT s)
theorem obT_eq (s : PySem.W.SharedT) : obT s = hkD.obs s.abs := He.obsDG_eq (HandSHeadRun.getT_eq s)
theorem runs (w : World) : HandSHeadRun.RunEq RowO (PySem.W.view RowO.prog [14]) hkD obT 3000 ["rounds_between", "fewest_by_all", "is_even", "fewest_by_neighbours", "_law_hand", "_law_draw", "_law_cells", "_law_called", "_law_order", "_law_behind", "_law_far", "_law_first"] w := by
  intro os
  kernel_rfl
theorem factsD {P : Program} {w : World} {K : PySem.W.Frag} {hp : Heap} {mg : Str → Option Value} {f : Addr} (X : K.In hp) (G : hp.Ns mainGlobals mg) (hfa : mg ("law" : Str) = some (.ref f)) (c : He.SaysD hfacts hdefs K) :
    ∃ fd : FuncData, (∀ (s : Shared) (v : Value), BindsTo s fd ⟨[v], []⟩ [("script", v)]) ∧ ∀ base : Heap, K.In base → base.Ns mainGlobals mg → FnOk P w K mg base (L2.CX P w) 4 f fd ["script"] (spD K [.shr] F_law) := by
  obtain ⟨fd_rounds_between, D_rounds_between⟩ := c.def_ 0 (d := hd_rounds_between) rfl
  obtain ⟨fd_fewest_by_all, D_fewest_by_all⟩ := c.def_ 1 (d := hd_fewest_by_all) rfl
  obtain ⟨fd_is_even, D_is_even⟩ := c.def_ 2 (d := hd_is_even) rfl
  obtain ⟨fd_fewest_by_neighbours, D_fewest_by_neighbours⟩ := c.def_ 3 (d := hd_fewest_by_neighbours) rfl
  obtain ⟨fd_law_hand, D_law_hand⟩ := c.def_ 4 (d := hd_law_hand) rfl
  obtain ⟨fd_law_draw, D_law_draw⟩ := c.def_ 5 (d := hd_law_draw) rfl
  obtain ⟨fd_law_cells, D_law_cells⟩ := c.def_ 6 (d := hd_law_cells) rfl
  obtain ⟨fd_law_called, D_law_called⟩ := c.def_ 7 (d := hd_law_called) rfl
  obtain ⟨fd_law_order, D_law_order⟩ := c.def_ 8 (d := hd_law_order) rfl
  obtain ⟨fd_law_behind, D_law_behind⟩ := c.def_ 9 (d := hd_law_behind) rfl
  obtain ⟨fd_law_far, D_law_far⟩ := c.def_ 10 (d := hd_law_far) rfl
  obtain ⟨fd_law_first, D_law_first⟩ := c.def_ 11 (d := hd_law_first) rfl
  obtain ⟨fd_law, D_law⟩ := c.def_ 12 (d := hd_law) rfl
  have o_rounds_between := He.glo_ok X G (c.fact 0 (f := .glo "rounds_between") rfl)
  have o_fewest_by_all := He.glo_ok X G (c.fact 1 (f := .glo "fewest_by_all") rfl)
  have o_is_even := He.glo_ok X G (c.fact 2 (f := .glo "is_even") rfl)
  have o_fewest_by_neighbours := He.glo_ok X G (c.fact 3 (f := .glo "fewest_by_neighbours") rfl)
  have o_law_hand := He.glo_ok X G (c.fact 4 (f := .glo "_law_hand") rfl)
  have o_law_draw := He.glo_ok X G (c.fact 5 (f := .glo "_law_draw") rfl)
  have o_law_cells := He.glo_ok X G (c.fact 6 (f := .glo "_law_cells") rfl)
  have o_law_called := He.glo_ok X G (c.fact 7 (f := .glo "_law_called") rfl)
  have o_law_order := He.glo_ok X G (c.fact 8 (f := .glo "_law_order") rfl)
  have o_law_behind := He.glo_ok X G (c.fact 9 (f := .glo "_law_behind") rfl)
  have o_law_far := He.glo_ok X G (c.fact 10 (f := .glo "_law_far") rfl)
  have o_law_first := He.glo_ok X G (c.fact 11 (f := .glo "_law_first") rfl)
  have o_law := He.glo_ok X G (c.fact 12 (f := .glo "law") rfl)
  have m_enumerate := He.free_ok X G (c.fact 13 (f := .free "enumerate") rfl)
  have m_int := He.free_ok X G (c.fact 14 (f := .free "int") rfl)
  have m_len := He.free_ok X G (c.fact 15 (f := .free "len") rfl)
  have m_list := He.free_ok X G (c.fact 16 (f := .free "list") rfl)
  have m_max := He.free_ok X G (c.fact 17 (f := .free "max") rfl)
  have m_min := He.free_ok X G (c.fact 18 (f := .free "min") rfl)
  have m_range := He.free_ok X G (c.fact 19 (f := .free "range") rfl)
  have m_sorted := He.free_ok X G (c.fact 20 (f := .free "sorted") rfl)
  have m_tuple := He.free_ok X G (c.fact 21 (f := .free "tuple") rfl)
  have e := hfa.symm.trans o_law
  cases e
  have b := FunD.bindsA (ps := ["script"]) D_law fun _ _ _ _ _ _ us hl => match us, hl with | [_], _ => rfl
  refine ⟨fd_law, fun s v => b s [v] rfl, fun base _ _ => ?_⟩
  have c_rounds_between := fn_rounds_between (P := P) (w := w) (base := base) D_rounds_between o_rounds_between m_enumerate m_len m_range
  have c_fewest_by_all := fn_fewest_by_all (P := P) (w := w) (base := base) D_fewest_by_all o_fewest_by_all m_len m_list m_min m_sorted c_rounds_between
  have c_is_even := fn_is_even (P := P) (w := w) (base := base) D_is_even o_is_even m_len c_rounds_between
  have c_fewest_by_neighbours := fn_fewest_by_neighbours (P := P) (w := w) (base := base) D_fewest_by_neighbours o_fewest_by_neighbours m_len m_max
  have c_law_hand := fn_law_hand (P := P) (w := w) (base := base) D_law_hand o_law_hand
  have c_law_draw := fn_law_draw (P := P) (w := w) (base := base) D_law_draw o_law_draw
  have c_law_cells := fn_law_cells (P := P) (w := w) (base := base) D_law_cells o_law_cells m_enumerate m_int m_list
  have c_law_called := fn_law_called (P := P) (w := w) (base := base) D_law_called o_law_called m_range c_law_draw
  have c_law_order := fn_law_order (P := P) (w := w) (base := base) D_law_order o_law_order m_int m_list m_range c_law_draw c_law_called
  have c_law_behind := fn_law_behind (P := P) (w := w) (base := base) D_law_behind o_law_behind m_list
  have c_law_far := fn_law_far (P := P) (w := w) (base := base) D_law_far o_law_far m_list m_tuple c_law_behind
  have c_law_first := fn_law_first (P := P) (w := w) (base := base) D_law_first o_law_first m_list m_tuple c_law_behind
  exact ok_law D_law m_len m_range c_fewest_by_all c_is_even c_fewest_by_neighbours c_law_hand c_law_draw c_law_cells c_law_order c_law_far c_law_first
end DL
open PySem PySem.W PySem.Calls PyProof.Rows
theorem PySem.Challenge.cw_swapweb_k16_fewest_of_short_orders_holds : PySem.Challenge.rw_swapweb_k16_fewest_of_short_orders.Holds := by
  w_on
  o_law
  refine HandSHeadRun.head_any (r := DL.RowO) (q := view DL.RowO.prog [14]) (H := DL.hkD) (ob := DL.obT) (M := 3000) (loose := ["rounds_between", "fewest_by_all", "is_even", "fewest_by_neighbours", "_law_hand", "_law_draw", "_law_cells", "_law_called", "_law_order", "_law_behind", "_law_far", "_law_first"]) (d := HandSHeadRun.topDef DL.RowO.prog 14) (kwd := []) DL.obT_eq
    (by kernel_rfl) (fun s => by kernel_rfl) DL.runs (by kernel_rfl) (by kernel_rfl) (by kernel_rfl) (by rfl) (by first | assumption | decide +kernel) (by decide +kernel) ⟨rfl, rfl, rfl, rfl, rfl, by decide +kernel⟩ ?hw ?hc
  case hw => w_witness2
  case hc =>
    refine DL.law_end (l := PySem.Challenge.rw_swapweb_k16_fewest_of_short_orders) (n := 63) (k := 4) (x := "script") (Fd := DL.F_law) rfl (by decide) (by kernel_rfl) ⟨rfl, by decide, by decide⟩ DL.law_true ?F
    intro w mg fa h Y G hmg0
    obtain ⟨K, KX, c⟩ := Y
    have hmg : mg ("law" : PySem.Str) = some (.ref fa) := by
      have e : (HandSHeadRun.topDef DL.RowO.prog 14).name = ("law" : PySem.Str) := by kernel_rfl
      rw [← e]
      exact hmg0
    obtain ⟨fd, hb, hF⟩ := DL.factsD (P := PySem.Challenge.rw_swapweb_k16_fewest_of_short_orders.prog) (w := w) KX G hmg c
    exact ⟨K, fd, KX, hb, hF⟩

