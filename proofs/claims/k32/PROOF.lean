import PyProof.Rows.All
import Wide.All
import OpenK.AllK
import Wide.FinOn
import HandS.ForMost
import HandS.Walk
import HandS.IsInst
import HandS.TupAny
import HandS.Style
import HandS.Defaults
import KE.GoesMore
import KE.GoesEnum
import HandS.Conv
import HandS.Zip
import PySem.Challenge.RW_agreedapart_k32_whole_sums_and_least_apa
set_option Elab.async false
set_option linter.all false
set_option maxRecDepth 100000
set_option maxHeartbeats 4000000
/-! DL: readings over plain data. A value is data (D), the objects that change lie in a small store (Mem); each rule of the hand layer is taken over once. -/
namespace DL
open PySem PySem.Spec PyProof.Rows L2

/-- plain data; ref: an object that may change, or one of the text's own -/
inductive D where
  | non | bl (b : Bool) | int (i : Int) | str (x : Str) | ty (n : String)
  | tup (xs : List D) | lst (xs : List D) | scr (xs : List D)
  | obj (C : Addr) (ns : List Str) (ds : List D) | ref (a : Addr)

mutual
inductive Rep (K : PySem.W.Frag) (F : Hp) : V → D → Prop
  | non : Rep K F .non .non
  | bl (b : Bool) : Rep K F (.bl b) (.bl b)
  | int (i : Int) : Rep K F (.int i) (.int i)
  | str (x : Str) : Rep K F (.str x) (.str x)
  | ty (n : String) : Rep K F (.ty n) (.ty n)
  | ref (a : Addr) : Rep K F (.ref a) (.ref a)
  | tup {a : Addr} {vs : List V} {ds : List D} : SqT K F a vs → RepL K F vs ds → Rep K F (.ref a) (.tup ds)
  | lst {a : Addr} {vs : List V} {ds : List D} : F a = some (.lst vs) → RepL K F vs ds → Rep K F (.ref a) (.lst ds)
  | scr {a : Addr} {vs : List V} {ds : List D} : SqL K F a vs → RepL K F vs ds → Rep K F (.ref a) (.scr ds)
  | obj {a C dx : Addr} {fs : List (Str × V)} {ns : List Str} {ds : List D} : F a = some (.ins C dx fs) → fs.map (·.1) = ns → RepL K F (fs.map (·.2)) ds → Rep K F (.ref a) (.obj C ns ds)
inductive RepL (K : PySem.W.Frag) (F : Hp) : List V → List D → Prop
  | nil : RepL K F [] []
  | cons {v : V} {vs : List V} {d : D} {ds : List D} : Rep K F v d → RepL K F vs ds → RepL K F (v :: vs) (d :: ds)
end

/-- F' knows all that F knows -/
def Ex (F F' : Hp) : Prop := ∀ a o, F a = some o → F' a = some o
theorem Ex.refl (F : Hp) : Ex F F := fun _ _ h => h
theorem Ex.trans {F F1 F2 : Hp} (a : Ex F F1) (b : Ex F1 F2) : Ex F F2 := fun x o h => b x o (a x o h)
theorem Ex.new {F : Hp} {p : Addr} {o : HO} (h : F p = none) : Ex F (upd F p o) := fun a u e => by
  rw [upd_ne (ne_of_none e h)]
  exact e
theorem Ex.rd {F F' : Hp} {a : Addr} {u : HO} (e : Ex F F') (h : Rd F a u) : Rd F' a u := by
  rcases h with h | ⟨o, h⟩
  · exact .inl (e a _ h)
  · exact .inr ⟨o, e a _ h⟩
theorem Ex.sqT {K : PySem.W.Frag} {F F' : Hp} {a : Addr} {vs : List V} (e : Ex F F') (h : SqT K F a vs) : SqT K F' a vs := by
  rcases h with h | h
  · exact .inl (e.rd h)
  · exact .inr h
theorem Ex.sqL {K : PySem.W.Frag} {F F' : Hp} {a : Addr} {vs : List V} (e : Ex F F') (h : SqL K F a vs) : SqL K F' a vs := by
  rcases h with h | h
  · exact .inl (e.rd h)
  · exact .inr h

mutual
theorem Rep.mono {K : PySem.W.Frag} {F F' : Hp} (e : Ex F F') : ∀ {v : V} {d : D}, Rep K F v d → Rep K F' v d
  | _, _, .non => .non
  | _, _, .bl b => .bl b
  | _, _, .int i => .int i
  | _, _, .str x => .str x
  | _, _, .ty n => .ty n
  | _, _, .ref a => .ref a
  | _, _, .tup h r => .tup (e.sqT h) (RepL.mono e r)
  | _, _, .lst h r => .lst (e _ _ h) (RepL.mono e r)
  | _, _, .scr h r => .scr (e.sqL h) (RepL.mono e r)
  | _, _, .obj h n r => .obj (e _ _ h) n (RepL.mono e r)
theorem RepL.mono {K : PySem.W.Frag} {F F' : Hp} (e : Ex F F') : ∀ {vs : List V} {ds : List D}, RepL K F vs ds → RepL K F' vs ds
  | _, _, .nil => .nil
  | _, _, .cons r t => .cons (Rep.mono e r) (RepL.mono e t)
end
section
variable {K : PySem.W.Frag} {F F' : Hp}
theorem RepL.length : ∀ {vs : List V} {ds : List D}, RepL K F vs ds → vs.length = ds.length
  | _, _, .nil => rfl
  | _, _, .cons _ t => by rw [List.length_cons, List.length_cons, RepL.length t]
theorem RepL.get : ∀ {vs : List V} {ds : List D} {i : Nat} {d : D}, RepL K F vs ds → ds[i]? = some d → ∃ v, vs[i]? = some v ∧ Rep K F v d
  | _, _, _, _, .nil, e => by simp at e
  | _, _, 0, _, .cons r _, e => by simp at e; subst e; exact ⟨_, rfl, r⟩
  | _, _, i + 1, _, .cons _ t, e => by
    obtain ⟨v, h1, h2⟩ := RepL.get (i := i) t (by simpa using e)
    exact ⟨v, by simpa using h1, h2⟩
theorem RepL.get' : ∀ {vs : List V} {ds : List D} {i : Nat} {v : V}, RepL K F vs ds → vs[i]? = some v → ∃ d, ds[i]? = some d ∧ Rep K F v d
  | _, _, _, _, .nil, e => by simp at e
  | _, _, 0, _, .cons r _, e => by simp at e; subst e; exact ⟨_, rfl, r⟩
  | _, _, i + 1, _, .cons _ t, e => by
    obtain ⟨v, h1, h2⟩ := RepL.get' (i := i) t (by simpa using e)
    exact ⟨v, by simpa using h1, h2⟩
theorem RepL.append : ∀ {vs ws : List V} {ds es : List D}, RepL K F vs ds → RepL K F ws es → RepL K F (vs ++ ws) (ds ++ es)
  | _, _, _, _, .nil, s => s
  | _, _, _, _, .cons r t, s => .cons r (RepL.append t s)
theorem RepL.take : ∀ {vs : List V} {ds : List D} (n : Nat), RepL K F vs ds → RepL K F (vs.take n) (ds.take n)
  | _, _, 0, _ => by rw [List.take_zero, List.take_zero]; exact .nil
  | _, _, n + 1, .nil => .nil
  | _, _, n + 1, .cons r t => .cons r (RepL.take n t)
theorem RepL.drop : ∀ {vs : List V} {ds : List D} (n : Nat), RepL K F vs ds → RepL K F (vs.drop n) (ds.drop n)
  | _, _, 0, r => r
  | _, _, n + 1, .nil => .nil
  | _, _, n + 1, .cons _ t => RepL.drop n t
theorem RepL.set : ∀ {vs : List V} {ds : List D} (n : Nat) {v : V} {d : D}, Rep K F v d → RepL K F vs ds → RepL K F (vs.set n v) (ds.set n d)
  | _, _, _, _, _, _, .nil => .nil
  | _, _, 0, _, _, q, .cons r t => .cons q t
  | _, _, n + 1, _, _, q, .cons r t => .cons r (RepL.set n q t)
theorem RepL.erase : ∀ {vs : List V} {ds : List D} (n : Nat), RepL K F vs ds → RepL K F (vs.eraseIdx n) (ds.eraseIdx n)
  | _, _, _, .nil => .nil
  | _, _, 0, .cons r t => t
  | _, _, n + 1, .cons r t => .cons r (RepL.erase n t)
theorem RepL.rev {vs : List V} {ds : List D} (h : RepL K F vs ds) : RepL K F vs.reverse ds.reverse := by
  have aux : ∀ {vs : List V} {ds : List D}, RepL K F vs ds → RepL K F vs.reverse ds.reverse := by
    intro vs
    induction vs with
    | nil => intro ds h; cases h; exact .nil
    | cons v vs ih =>
      intro ds h
      cases h with
      | cons r t =>
        rw [List.reverse_cons, List.reverse_cons]
        exact (ih t).append (.cons r .nil)
  exact aux h
/-- the same for numbers alone -/
theorem RepL.ints : ∀ {ns : List Int} {vs : List V}, RepL K F vs (ns.map D.int) → vs = ns.map V.int
  | [], _, .nil => rfl
  | n :: ns, _, .cons r t => by cases r; rw [RepL.ints t]; rfl
theorem RepL.ofInts : ∀ (ns : List Int), RepL K F (ns.map V.int) (ns.map D.int)
  | [] => .nil
  | n :: ns => .cons (.int n) (RepL.ofInts ns)
theorem RepL.bools : ∀ {ns : List Bool} {vs : List V}, RepL K F vs (ns.map D.bl) → vs = ns.map V.bl
  | [], _, .nil => rfl
  | n :: ns, _, .cons r t => by cases r; rw [RepL.bools t]; rfl
end

/-! ### what may change -/
inductive MO where
  | lst (ds : List D)
  | ins (C : Addr) (ns : List Str) (ds : List D)
  /-- a source of draws: its own list, the list of its great cells -/
  | srcH (c : Addr) | srcC
abbrev Mem := Addr → Option MO
def mput (M : Mem) (a : Addr) (o : MO) : Mem := fun b => if b = a then some o else M b
def mdel (M : Mem) (a : Addr) : Mem := fun b => if b = a then none else M b
theorem mput_same {M : Mem} {a : Addr} {o : MO} : mput M a o a = some o := by unfold mput; rw [if_pos rfl]
theorem mput_ne {M : Mem} {a b : Addr} {o : MO} (h : b ≠ a) : mput M a o b = M b := by unfold mput; rw [if_neg h]
theorem mdel_same {M : Mem} {a : Addr} : mdel M a a = none := by unfold mdel; rw [if_pos rfl]
theorem mdel_ne {M : Mem} {a b : Addr} (h : b ≠ a) : mdel M a b = M b := by unfold mdel; rw [if_neg h]
theorem mdel_mput {M : Mem} {a : Addr} {o : MO} (h : M a = none) : mdel (mput M a o) a = M := by
  funext b
  by_cases e : b = a
  · subst e; rw [mdel_same, h]
  · rw [mdel_ne e, mput_ne e]
theorem mput_mput {M : Mem} {a : Addr} {o u : MO} : mput (mput M a o) a u = mput M a u := by
  funext b; unfold mput; split <;> rfl
theorem mput_eq {M : Mem} {a : Addr} {o : MO} (h : M a = some o) : mput M a o = M := by
  funext b; unfold mput; split
  · rename_i e; rw [e, h]
  · rfl

def MOk (K : PySem.W.Frag) (F H : Hp) (a : Addr) : MO → Prop
  | .lst ds => ∃ vs, H a = some (.lst vs) ∧ RepL K F vs ds
  | .ins C ns ds => ∃ dx fs, H a = some (.ins C dx fs) ∧ fs.map (·.1) = ns ∧ RepL K F (fs.map (·.2)) ds
  | .srcH c => ∃ i : Int, H a = some (.lst [.ref c, .int i]) ∧ 0 ≤ i
  | .srcC => ∃ ns : List Int, H a = some (.lst (ns.map V.int)) ∧ (∀ n ∈ ns, 0 ≤ n) ∧ ns.length ≤ 1000
/-- F: what never changes; M: what may -/
structure Ok (K : PySem.W.Frag) (F H : Hp) (M : Mem) : Prop where
  sub : Ex F H
  mem : ∀ a o, M a = some o → F a = none ∧ MOk K F H a o
/-- from one state to a later one: what is told of neither F nor M stays -/
structure Go (F H : Hp) (M : Mem) (F' H' : Hp) (M' : Mem) : Prop where
  ext : Ex F F'
  fr : ∀ a o, H a = some o → F a = none → M a = none → H' a = some o ∧ F' a = none ∧ M' a = none
theorem Go.refl {F H : Hp} {M : Mem} : Go F H M F H M := ⟨Ex.refl F, fun _ _ h1 h2 h3 => ⟨h1, h2, h3⟩⟩
theorem Go.trans {F H F1 H1 F2 H2 : Hp} {M M1 M2 : Mem} (a : Go F H M F1 H1 M1) (b : Go F1 H1 M1 F2 H2 M2) : Go F H M F2 H2 M2 :=
  ⟨a.ext.trans b.ext, fun x o h1 h2 h3 => have q := a.fr x o h1 h2 h3; b.fr x o q.1 q.2.1 q.2.2⟩
section
variable {K : PySem.W.Frag} {F H : Hp} {M : Mem}
theorem Ok.free (k : Ok K F H M) {p : Addr} (h : H p = none) : F p = none ∧ M p = none := by
  constructor
  · cases e : F p with
    | none => rfl
    | some o => rw [k.sub p o e] at h; cases h
  · cases e : M p with
    | none => rfl
    | some o =>
      have q := (k.mem p o e).2
      cases o with
      | lst ds => obtain ⟨vs, q, _⟩ := q; rw [q] at h; cases h
      | ins C ns ds => obtain ⟨dx, fs, q, _⟩ := q; rw [q] at h; cases h
      | srcH c => obtain ⟨i, q, _⟩ := q; rw [q] at h; cases h
      | srcC => obtain ⟨ns, q, _⟩ := q; rw [q] at h; cases h
theorem MOk.mono {H' F' : Hp} {a : Addr} {o : MO} (e : Ex F F') (h : H' a = H a) (q : MOk K F H a o) : MOk K F' H' a o := by
  cases o with
  | lst ds => obtain ⟨vs, q, r⟩ := q; exact ⟨vs, by rw [h]; exact q, r.mono e⟩
  | ins C ns ds => obtain ⟨dx, fs, q, z, r⟩ := q; exact ⟨dx, fs, by rw [h]; exact q, z, r.mono e⟩
  | srcH c => obtain ⟨i, q, r⟩ := q; exact ⟨i, by rw [h]; exact q, r⟩
  | srcC => obtain ⟨ns, q, r⟩ := q; exact ⟨ns, by rw [h]; exact q, r⟩
/-- a new object that never changes -/
theorem Ok.newF (k : Ok K F H M) {p : Addr} (h : H p = none) (o : HO) : Ok K (upd F p o) (upd H p o) M := by
  obtain ⟨hf, hm⟩ := k.free h
  refine ⟨fun a u e => ?_, fun a u e => ?_⟩
  · by_cases q : a = p
    · subst q; rw [upd_same] at e ⊢; exact e
    · rw [upd_ne q] at e ⊢; exact k.sub a u e
  · have ne : a ≠ p := fun q => by rw [q, hm] at e; cases e
    obtain ⟨h1, h2⟩ := k.mem a u e
    exact ⟨by rw [upd_ne ne]; exact h1, h2.mono (Ex.new hf) (upd_ne ne)⟩
theorem Ok.goF (k : Ok K F H M) {p : Addr} (h : H p = none) (o : HO) : Go F H M (upd F p o) (upd H p o) M := by
  obtain ⟨hf, hm⟩ := k.free h
  refine ⟨Ex.new hf, fun a u h1 h2 h3 => ?_⟩
  have ne : a ≠ p := fun q => by rw [q, h] at h1; cases h1
  exact ⟨by rw [upd_ne ne]; exact h1, by rw [upd_ne ne]; exact h2, h3⟩
/-- a new object that may change -/
theorem Ok.newM (k : Ok K F H M) {p : Addr} (h : H p = none) {o : HO} {m : MO} (q : MOk K F (upd H p o) p m) : Ok K F (upd H p o) (mput M p m) := by
  obtain ⟨hf, hm⟩ := k.free h
  refine ⟨fun a u e => ?_, fun a u e => ?_⟩
  · rw [upd_ne (ne_of_none e hf)]; exact k.sub a u e
  · by_cases qe : a = p
    · subst qe; rw [mput_same] at e; cases e; exact ⟨hf, q⟩
    · rw [mput_ne qe] at e
      obtain ⟨h1, h2⟩ := k.mem a u e
      exact ⟨h1, h2.mono (Ex.refl F) (upd_ne qe)⟩
theorem Ok.goM (k : Ok K F H M) {p : Addr} (h : H p = none) (o : HO) (m : MO) : Go F H M F (upd H p o) (mput M p m) := by
  refine ⟨Ex.refl F, fun a u h1 h2 h3 => ?_⟩
  have ne : a ≠ p := fun q => by rw [q, h] at h1; cases h1
  exact ⟨by rw [upd_ne ne]; exact h1, h2, by rw [mput_ne ne]; exact h3⟩
/-- what may change is changed -/
theorem Ok.write (k : Ok K F H M) {p : Addr} {m0 : MO} (h : M p = some m0) {o : HO} {m : MO} (q : MOk K F (upd H p o) p m) : Ok K F (upd H p o) (mput M p m) := by
  have hf := (k.mem p m0 h).1
  refine ⟨fun a u e => ?_, fun a u e => ?_⟩
  · rw [upd_ne (ne_of_none e hf)]; exact k.sub a u e
  · by_cases qe : a = p
    · subst qe; rw [mput_same] at e; cases e; exact ⟨hf, q⟩
    · rw [mput_ne qe] at e
      obtain ⟨h1, h2⟩ := k.mem a u e
      exact ⟨h1, h2.mono (Ex.refl F) (upd_ne qe)⟩
theorem Ok.goW (k : Ok K F H M) {p : Addr} {m0 : MO} (h : M p = some m0) (o : HO) (m : MO) : Go F H M F (upd H p o) (mput M p m) := by
  refine ⟨Ex.refl F, fun a u h1 h2 h3 => ?_⟩
  have ne : a ≠ p := fun q => by rw [q, h] at h3; cases h3
  exact ⟨by rw [upd_ne ne]; exact h1, h2, by rw [mput_ne ne]; exact h3⟩
/-- from now on it never changes -/
theorem Ok.freezeL (k : Ok K F H M) {p : Addr} {ds : List D} (h : M p = some (.lst ds)) : ∃ vs, H p = some (.lst vs) ∧ Ok K (upd F p (.lst vs)) H (mdel M p) ∧ Go F H M (upd F p (.lst vs)) H (mdel M p) ∧ Rep K (upd F p (.lst vs)) (.ref p) (.lst ds) := by
  obtain ⟨hf, vs, hv, r⟩ := k.mem p _ h
  refine ⟨vs, hv, ⟨fun a u e => ?_, fun a u e => ?_⟩, ⟨Ex.new hf, fun a u h1 h2 h3 => ?_⟩, .lst upd_same (r.mono (Ex.new hf))⟩
  · by_cases q : a = p
    · subst q; rw [upd_same] at e; cases e; exact hv
    · rw [upd_ne q] at e; exact k.sub a u e
  · have ne : a ≠ p := fun q => by rw [q, mdel_same] at e; cases e
    rw [mdel_ne ne] at e
    obtain ⟨h1, h2⟩ := k.mem a u e
    exact ⟨by rw [upd_ne ne]; exact h1, h2.mono (Ex.new hf) rfl⟩
  · have ne : a ≠ p := fun q => by rw [q, h] at h3; cases h3
    exact ⟨h1, by rw [upd_ne ne]; exact h2, by rw [mdel_ne ne]; exact h3⟩
theorem Ok.freezeI (k : Ok K F H M) {p C : Addr} {ns : List Str} {ds : List D} (h : M p = some (.ins C ns ds)) : ∃ dx vs, H p = some (.ins C dx vs) ∧ Ok K (upd F p (.ins C dx vs)) H (mdel M p) ∧ Go F H M (upd F p (.ins C dx vs)) H (mdel M p) ∧ Rep K (upd F p (.ins C dx vs)) (.ref p) (.obj C ns ds) := by
  obtain ⟨hf, dx, vs, hv, hn, r⟩ := k.mem p _ h
  refine ⟨dx, vs, hv, ⟨fun a u e => ?_, fun a u e => ?_⟩, ⟨Ex.new hf, fun a u h1 h2 h3 => ?_⟩, .obj upd_same hn (r.mono (Ex.new hf))⟩
  · by_cases q : a = p
    · subst q; rw [upd_same] at e; cases e; exact hv
    · rw [upd_ne q] at e; exact k.sub a u e
  · have ne : a ≠ p := fun q => by rw [q, mdel_same] at e; cases e
    rw [mdel_ne ne] at e
    obtain ⟨h1, h2⟩ := k.mem a u e
    exact ⟨by rw [upd_ne ne]; exact h1, h2.mono (Ex.new hf) rfl⟩
  · have ne : a ≠ p := fun q => by rw [q, h] at h3; cases h3
    exact ⟨h1, by rw [upd_ne ne]; exact h2, by rw [mdel_ne ne]; exact h3⟩
end

/-! ### names -/
abbrev DE := List (Option D)
structure SRel (K : PySem.W.Frag) (F : Hp) (σ : L2.St) (Γ : DE) : Prop where
  len : σ.length = Γ.length
  get : ∀ (i : Nat) (d : D), Γ[i]? = some (some d) → ∃ v, σ[i]? = some (some v) ∧ Rep K F v d
section
variable {K : PySem.W.Frag} {F F' : Hp} {σ : L2.St} {Γ : DE}
theorem SRel.mono (e : Ex F F') (r : SRel K F σ Γ) : SRel K F' σ Γ := ⟨r.len, fun i d h => by
  obtain ⟨v, h1, h2⟩ := r.get i d h
  exact ⟨v, h1, h2.mono e⟩⟩
theorem SRel.set (r : SRel K F σ Γ) (i : Nat) {v : V} {d : D} (q : Rep K F v d) : SRel K F (σ.set i (some v)) (Γ.set i (some d)) := by
  refine ⟨by rw [List.length_set, List.length_set, r.len], fun j e h => ?_⟩
  by_cases ij : i = j
  · subst ij
    by_cases hl : i < Γ.length
    · rw [List.getElem?_set_self hl] at h
      cases h
      exact ⟨v, List.getElem?_set_self (by rw [r.len]; exact hl), q⟩
    · rw [List.getElem?_eq_none (by rw [List.length_set]; omega)] at h
      cases h
  · rw [List.getElem?_set_ne ij] at h
    obtain ⟨w, h1, h2⟩ := r.get j e h
    exact ⟨w, by rw [List.getElem?_set_ne ij]; exact h1, h2⟩
theorem SRel.forget (r : SRel K F σ Γ) (i : Nat) : SRel K F (σ.set i none) (Γ.set i none) := by
  refine ⟨by rw [List.length_set, List.length_set, r.len], fun j e h => ?_⟩
  by_cases ij : i = j
  · subst ij
    by_cases hl : i < Γ.length
    · rw [List.getElem?_set_self hl] at h; cases h
    · rw [List.getElem?_eq_none (by rw [List.length_set]; omega)] at h; cases h
  · rw [List.getElem?_set_ne ij] at h
    obtain ⟨w, h1, h2⟩ := r.get j e h
    exact ⟨w, by rw [List.getElem?_set_ne ij]; exact h1, h2⟩
def wipeD (Γ : DE) : List Nat → DE
  | [] => Γ
  | v :: vs => (wipeD Γ vs).set v none
theorem SRel.wipe (r : SRel K F σ Γ) : ∀ vs : List Nat, SRel K F (L2.wipe σ vs) (wipeD Γ vs)
  | [] => r
  | v :: vs => (SRel.wipe r vs).forget v
def startD (N : List Str) (ds : List D) : DE := ds.map some ++ List.replicate (N.length - ds.length) none
theorem SRel.start {N : List Str} {vs : List V} {ds : List D} (r : RepL K F vs ds) : SRel K F (L2.start N vs) (startD N ds) := by
  have hl := r.length
  refine ⟨by unfold L2.start startD; simp [hl], fun i d h => ?_⟩
  unfold startD at h
  unfold L2.start
  by_cases hi : i < ds.length
  · rw [List.getElem?_append_left (by simpa using hi), List.getElem?_map] at h
    cases e : ds[i]? with
    | none => rw [e] at h; cases h
    | some d' =>
      rw [e] at h
      cases h
      obtain ⟨v, h1, h2⟩ := r.get e
      exact ⟨v, by rw [List.getElem?_append_left (by simp; omega), List.getElem?_map, h1]; rfl, h2⟩
  · rw [List.getElem?_append_right (by simpa using hi), List.getElem?_replicate] at h
    split at h <;> cases h
end
end DL

set_option Elab.async false
set_option linter.all false
set_option maxRecDepth 100000
set_option maxHeartbeats 4000000
namespace DL
open PySem PySem.Spec PyProof.Rows L2

/-! ### the data behind a value that may change -/
def viewA (a : Addr) : Option MO → D
  | some (.lst ds) => .lst ds
  | _ => .ref a
def view (M : Mem) : D → D
  | .ref a => viewA a (M a)
  | .non => .non
  | .bl b => .bl b
  | .int i => .int i
  | .str x => .str x
  | .ty n => .ty n
  | .tup xs => .tup xs
  | .lst xs => .lst xs
  | .scr xs => .scr xs
  | .obj C ns ds => .obj C ns ds
theorem view_cases (M : Mem) (a : Addr) : (∃ ds, M a = some (.lst ds) ∧ view M (.ref a) = .lst ds) ∨ view M (.ref a) = .ref a := by
  show (∃ ds, M a = some (.lst ds) ∧ viewA a (M a) = .lst ds) ∨ viewA a (M a) = .ref a
  cases M a with
  | none => exact .inr rfl
  | some o => cases o <;> first | exact .inl ⟨_, rfl, rfl⟩ | exact .inr rfl
theorem view_of {M : Mem} {a : Addr} {ds : List D} (h : M a = some (.lst ds)) : view M (.ref a) = .lst ds := by
  show viewA a (M a) = .lst ds
  rw [h]; rfl
mutual
def py : D → PyData
  | .non => .none
  | .bl b => .bool b
  | .int i => .int i
  | .str x => .str x
  | .tup xs => .tuple (pyL xs)
  | .lst xs => .list (pyL xs)
  | .scr xs => .list (pyL xs)
  | .ty _ => .none
  | .obj _ _ _ => .none
  | .ref _ => .none
def pyL : List D → List PyData
  | [] => []
  | x :: xs => py x :: pyL xs
end
mutual
def isPy : D → Bool
  | .non => true
  | .bl _ => true
  | .int _ => true
  | .str _ => true
  | .tup xs => isPyL xs
  | .lst xs => isPyL xs
  | .scr xs => isPyL xs
  | .ty _ => false
  | .obj _ _ _ => false
  | .ref _ => false
def isPyL : List D → Bool
  | [] => true
  | x :: xs => isPy x && isPyL xs
end
section
variable {K : PySem.W.Frag} {F H : Hp} {M : Mem}
mutual
theorem Rep.dp : ∀ {v : V} {d : D}, Rep K H v d → isPy d = true → Dp K H v (py d)
  | _, _, .non, _ => by rw [py]; exact .non
  | _, _, .bl b, _ => by rw [py]; exact .bl b
  | _, _, .int i, _ => by rw [py]; exact .int i
  | _, _, .str x, _ => by rw [py]; exact .str x
  | _, _, .ty n, h => by simp [isPy] at h
  | _, _, .ref a, h => by simp [isPy] at h
  | _, _, .tup s r, h => by rw [py]; exact .tup s (RepL.dp r (by simpa [isPy] using h))
  | _, _, .lst s r, h => by rw [py]; exact .lst (SqL.of s) (RepL.dp r (by simpa [isPy] using h))
  | _, _, .scr s r, h => by rw [py]; exact .lst s (RepL.dp r (by simpa [isPy] using h))
  | _, _, .obj _ _ _, h => by simp [isPy] at h
theorem RepL.dp : ∀ {vs : List V} {ds : List D}, RepL K H vs ds → isPyL ds = true → DpAll K H vs (pyL ds)
  | _, _, .nil, _ => by rw [pyL]; exact .nil
  | _, _, .cons r t, h => by
    rw [isPyL, Bool.and_eq_true] at h
    rw [pyL]
    exact .cons (Rep.dp r h.1) (RepL.dp t h.2)
end
theorem Ok.view (k : Ok K F H M) {v : V} {x : D} (r : Rep K F v x) : Rep K H v (view M x) := by
  cases x with
  | ref a =>
    cases r
    rcases view_cases M a with ⟨ds, e, q⟩ | q
    · rw [q]
      obtain ⟨_, vs, hv, q⟩ := k.mem a _ e
      exact .lst hv (q.mono k.sub)
    · rw [q]
      exact .ref a
  | _ => exact r.mono k.sub
theorem Ok.vlst (k : Ok K F H M) {v : V} {x : D} (r : Rep K F v x) {ds : List D} (e : DL.view M x = .lst ds) : ∃ a vs, v = .ref a ∧ H a = some (.lst vs) ∧ RepL K F vs ds := by
  cases x with
  | ref a =>
    cases r
    rcases view_cases M a with ⟨ds', e', q⟩ | q
    · rw [q] at e
      cases e
      obtain ⟨_, vs, hv, q⟩ := k.mem a _ e'
      exact ⟨a, vs, rfl, hv, q⟩
    · rw [q] at e
      cases e
  | lst xs =>
    cases e
    cases r with
    | lst h q => exact ⟨_, _, rfl, k.sub _ _ h, q⟩
  | _ => cases e
theorem Ok.vtup (k : Ok K F H M) {v : V} {x : D} (r : Rep K F v x) {ds : List D} (e : DL.view M x = .tup ds) : x = .tup ds ∧ ∃ a vs, v = .ref a ∧ SqT K F a vs ∧ SqT K H a vs ∧ RepL K F vs ds := by
  cases x with
  | ref a =>
    rcases view_cases M a with ⟨ds', e', q⟩ | q
    · rw [q] at e; cases e
    · rw [q] at e; cases e
  | tup xs =>
    cases e
    cases r with
    | tup h q => exact ⟨rfl, _, _, rfl, h, k.sub.sqT h, q⟩
  | _ => cases e
theorem Ok.vscr (k : Ok K F H M) {v : V} {x : D} (r : Rep K F v x) {ds : List D} (e : DL.view M x = .scr ds) : ∃ a vs, v = .ref a ∧ SqL K H a vs ∧ RepL K F vs ds := by
  cases x with
  | ref a =>
    rcases view_cases M a with ⟨ds', e', q⟩ | q
    · rw [q] at e; cases e
    · rw [q] at e; cases e
  | scr xs =>
    cases e
    cases r with
    | scr h q => exact ⟨_, _, rfl, k.sub.sqL h, q⟩
  | _ => cases e
theorem Ok.vstr (k : Ok K F H M) {v : V} {x : D} (r : Rep K F v x) {z : Str} (e : DL.view M x = .str z) : v = .str z := by
  have q := k.view r
  rw [e] at q
  cases q
  rfl
end

/-! ### readings over data -/
abbrev QD := D → Mem → Prop
abbrev TD := DE → Mem → QD → Prop
abbrev TDT := DE → Mem → (Bool → Mem → Prop) → Prop
abbrev TDA := DE → Mem → (List D → Mem → Prop) → Prop
abbrev TDO := DE → Mem → (Option Int → Mem → Prop) → Prop
abbrev R2D := D → D → Mem → QD → Prop
abbrev R1D := D → Mem → QD → Prop
abbrev RCD := List D → Mem → QD → Prop
structure DEnds where
  nx : DE → Mem → Prop
  rt : QD
  bk : DE → Mem → Prop := fun _ _ => False
  ct : DE → Mem → Prop := fun _ _ => False
abbrev TDS := DEnds → DE → Mem → Prop
abbrev TDG := D → DE → Mem → (DE → Mem → Prop) → Prop
abbrev TDGs := List D → DE → Mem → (DE → Mem → Prop) → Prop

/-- what a value's reading may count on behind it -/
def CV (K : PySem.W.Frag) (F H : Hp) (M : Mem) (Q : QD) (R : VK) : Prop := ∀ v F' H' M' x, Go F H M F' H' M' → Ok K F' H' M' → Rep K F' v x → Q x M' → R v H'
def CB (K : PySem.W.Frag) (F H : Hp) (M : Mem) (Q : Bool → Mem → Prop) (R : Bool → Hp → Prop) : Prop := ∀ b F' H' M', Go F H M F' H' M' → Ok K F' H' M' → Q b M' → R b H'
def CA (K : PySem.W.Frag) (F H : Hp) (M : Mem) (Q : List D → Mem → Prop) (R : List V → Hp → Prop) : Prop := ∀ vs F' H' M' xs, Go F H M F' H' M' → Ok K F' H' M' → RepL K F' vs xs → Q xs M' → R vs H'
def CO (K : PySem.W.Frag) (F H : Hp) (M : Mem) (Q : Option Int → Mem → Prop) (R : Option Int → Hp → Prop) : Prop := ∀ o F' H' M', Go F H M F' H' M' → Ok K F' H' M' → Q o M' → R o H'
def CN (K : PySem.W.Frag) (F H : Hp) (M : Mem) (Q : DE → Mem → Prop) (R : L2.St → Hp → Prop) : Prop := ∀ σ F' H' M' Γ, Go F H M F' H' M' → Ok K F' H' M' → SRel K F' σ Γ → Q Γ M' → R σ H'

def SimE (K : PySem.W.Frag) (t : TE) (d : TD) : Prop := ∀ F H M σ Γ (Q : QD) (R : VK), Ok K F H M → SRel K F σ Γ → d Γ M Q → CV K F H M Q R → t σ H R
def SimT (K : PySem.W.Frag) (t : TT) (d : TDT) : Prop := ∀ F H M σ Γ (Q : Bool → Mem → Prop) (R : Bool → Hp → Prop), Ok K F H M → SRel K F σ Γ → d Γ M Q → CB K F H M Q R → t σ H R
def SimA (K : PySem.W.Frag) (t : TA) (d : TDA) : Prop := ∀ F H M σ Γ (Q : List D → Mem → Prop) (R : List V → Hp → Prop), Ok K F H M → SRel K F σ Γ → d Γ M Q → CA K F H M Q R → t σ H R
def SimO (K : PySem.W.Frag) (t : TO) (d : TDO) : Prop := ∀ F H M σ Γ (Q : Option Int → Mem → Prop) (R : Option Int → Hp → Prop), Ok K F H M → SRel K F σ Γ → d Γ M Q → CO K F H M Q R → t σ H R
def Sim2 (K : PySem.W.Frag) (r : R2) (d : R2D) : Prop := ∀ F H M v w x y (Q : QD) (R : VK), Ok K F H M → Rep K F v x → Rep K F w y → d x y M Q → CV K F H M Q R → r v w H R
def Sim1 (K : PySem.W.Frag) (r : V → Hp → VK → Prop) (d : R1D) : Prop := ∀ F H M v x (Q : QD) (R : VK), Ok K F H M → Rep K F v x → d x M Q → CV K F H M Q R → r v H R
def SimC (K : PySem.W.Frag) (r : List V → Hp → VK → Prop) (d : RCD) : Prop := ∀ F H M vs xs (Q : QD) (R : VK), Ok K F H M → RepL K F vs xs → d xs M Q → CV K F H M Q R → r vs H R
def SimM (K : PySem.W.Frag) (r : V → List V → Hp → VK → Prop) (d : D → List D → Mem → QD → Prop) : Prop := ∀ F H M v vs x xs (Q : QD) (R : VK), Ok K F H M → Rep K F v x → RepL K F vs xs → d x xs M Q → CV K F H M Q R → r v vs H R
def SimS (K : PySem.W.Frag) (t : TS) (d : TDS) : Prop := ∀ F H M σ Γ (E : DEnds) (D : Ends), Ok K F H M → SRel K F σ Γ → d E Γ M → CN K F H M E.nx D.nx → CV K F H M E.rt D.rt → CN K F H M E.bk D.bk → CN K F H M E.ct D.ct → t D σ H
def SimG (K : PySem.W.Frag) (g : TG) (d : TDG) : Prop := ∀ F H M v x σ Γ (Q : DE → Mem → Prop) (R : L2.St → Hp → Prop), Ok K F H M → SRel K F σ Γ → Rep K F v x → d x Γ M Q → CN K F H M Q R → g v σ H R
def SimGs (K : PySem.W.Frag) (g : TGs) (d : TDGs) : Prop := ∀ F H M vs xs σ Γ (Q : DE → Mem → Prop) (R : L2.St → Hp → Prop), Ok K F H M → SRel K F σ Γ → RepL K F vs xs → d xs Γ M Q → CN K F H M Q R → g vs σ H R

section
variable {K : PySem.W.Frag} {F H F1 H1 : Hp} {M M1 : Mem}
theorem CV.go {Q : QD} {R : VK} (g : Go F H M F1 H1 M1) (c : CV K F H M Q R) : CV K F1 H1 M1 Q R := fun v F' H' M' x h => c v F' H' M' x (g.trans h)
theorem CB.go {Q : Bool → Mem → Prop} {R : Bool → Hp → Prop} (g : Go F H M F1 H1 M1) (c : CB K F H M Q R) : CB K F1 H1 M1 Q R := fun v F' H' M' h => c v F' H' M' (g.trans h)
theorem CA.go {Q : List D → Mem → Prop} {R : List V → Hp → Prop} (g : Go F H M F1 H1 M1) (c : CA K F H M Q R) : CA K F1 H1 M1 Q R := fun v F' H' M' x h => c v F' H' M' x (g.trans h)
theorem CO.go {Q : Option Int → Mem → Prop} {R : Option Int → Hp → Prop} (g : Go F H M F1 H1 M1) (c : CO K F H M Q R) : CO K F1 H1 M1 Q R := fun v F' H' M' h => c v F' H' M' (g.trans h)
theorem CN.go {Q : DE → Mem → Prop} {R : L2.St → Hp → Prop} (g : Go F H M F1 H1 M1) (c : CN K F H M Q R) : CN K F1 H1 M1 Q R := fun v F' H' M' x h => c v F' H' M' x (g.trans h)
end

/-! ### a derivation and its reading over data -/
structure PD (X : Cx) (e : Expr) (t : TE) (d : TD) : Prop where
  pe : PE X e t
  sim : SimE X.K t d
structure PDT (X : Cx) (e : Expr) (t : TT) (d : TDT) : Prop where
  pe : PT X e t
  sim : SimT X.K t d
structure PDW (X : Cx) (e : Expr) (t : TT) (d : TDT) : Prop where
  pe : PW X e t
  sim : SimT X.K t d
structure PDA (X : Cx) (es : List Expr) (t : TA) (d : TDA) : Prop where
  pe : PA X es t
  sim : SimA X.K t d
structure PDO (X : Cx) (e : Option Expr) (t : TO) (d : TDO) : Prop where
  pe : PO X e t
  sim : SimO X.K t d
structure PDG (X : Cx) (e : Expr) (t : TG) (d : TDG) : Prop where
  pe : PG X e t
  sim : SimG X.K t d
structure PDGs (X : Cx) (es : List Expr) (t : TGs) (d : TDGs) : Prop where
  pe : PGs X es t
  sim : SimGs X.K t d
structure PDS (X : Cx) (st : Stmt) (t : TS) (d : TDS) : Prop where
  pe : PS X st t
  sim : SimS X.K t d
structure PDSs (X : Cx) (st : List Stmt) (t : TS) (d : TDS) : Prop where
  pe : PSs X st t
  sim : SimS X.K t d

/-! ### names, constants -/
def look : DE → Nat → (D → Prop) → Prop
  | [], _, _ => False
  | none :: _, 0, _ => False
  | some d :: _, 0, k => k d
  | _ :: Γ, n + 1, k => look Γ n k
theorem look_of : ∀ {Γ : DE} {i : Nat} {k : D → Prop}, look Γ i k → ∃ d, Γ[i]? = some (some d) ∧ k d
  | [], _, _, h => by unfold look at h; exact h.elim
  | none :: Γ, 0, k, h => by unfold look at h; exact h.elim
  | some d :: Γ, 0, k, h => ⟨d, rfl, h⟩
  | x :: Γ, n + 1, k, h => by
    have h' : look Γ n k := by cases x <;> exact h
    obtain ⟨d, h1, h2⟩ := look_of h'
    exact ⟨d, by simpa using h1, h2⟩
def dVar (i : Nat) : TD := fun Γ M Q => look Γ i fun d => Q d M
def dC (d : D) : TD := fun _ M Q => Q d M
section
variable {X : Cx} {K : PySem.W.Frag}
theorem pd_var {i : Nat} {x : Str} {pos : Pos} (p : PE X (.Name x pos) (tVar i)) : PD X (.Name x pos) (tVar i) (dVar i) := ⟨p, fun F H M σ Γ Q R k s h c => by
  obtain ⟨d, e, q⟩ := look_of h
  obtain ⟨v, e1, r⟩ := s.get i d e
  exact ⟨v, e1, c v F H M d Go.refl k r q⟩⟩
theorem sim_c {v : V} {d : D} (h : ∀ F, Rep K F v d) : SimE K (tC v) (dC d) := fun F H M σ Γ Q R k s q c => c v F H M d Go.refl k (h F) q
theorem pd_int {i : Int} {j pos} : PD X (.Constant (.int i) j pos) (tC (.int i)) (dC (.int i)) := ⟨pe_int, sim_c fun _ => .int i⟩
theorem pd_bl {b : Bool} {j pos} : PD X (.Constant (.bool b) j pos) (tC (.bl b)) (dC (.bl b)) := ⟨pe_bl, sim_c fun _ => .bl b⟩
theorem pd_non {j pos} : PD X (.Constant .none j pos) (tC .non) (dC .non) := ⟨pe_non, sim_c fun _ => .non⟩
theorem pd_str {x : Str} {j pos} : PD X (.Constant (.str x) j pos) (tC (.str x)) (dC (.str x)) := ⟨pe_str, sim_c fun _ => .str x⟩
/-- a constant of the module: its value by the text -/
theorem pd_glob {x : Str} {v : V} {u : Value} {d : D} {pos : Pos} (hg : Gl X x) (hm : X.mg x = some u) (r : RelV v u) (h : ∀ F, Rep X.K F v d) (hd : (x == ("__debug__" : Str)) = false := by decide) : PD X (.Name x pos) (tC v) (dC d) := ⟨pe_glob hg hm r hd, sim_c h⟩
theorem pd_ty {x : Str} {n : String} {pos : Pos} (hg : Gl X x) (hm : X.mg x = none) (hv : bootBuiltins x = some (.type n)) (hn : x ≠ "__name__" := by decide) (hd : (x == ("__debug__" : Str)) = false := by decide) : PD X (.Name x pos) (tC (.ty n)) (dC (.ty n)) :=
  ⟨pe_bltn hg hm hv rfl hn hd, sim_c fun _ => .ty n⟩

/-! ### operators -/
def dOp (r : R2D) (a b : TD) : TD := fun Γ M Q => a Γ M fun x M1 => b Γ M1 fun y M2 => r x y M2 Q
def dUn (r : R1D) (a : TD) : TD := fun Γ M Q => a Γ M fun x M1 => r x M1 Q
theorem sim_op {r : R2} {dr : R2D} {ta tb : TE} {da db : TD} (hr : Sim2 K r dr) (ha : SimE K ta da) (hb : SimE K tb db) : SimE K (tOp r ta tb) (dOp dr da db) := fun F H M σ Γ Q R k s h c =>
  ha F H M σ Γ _ _ k s h fun v F1 H1 M1 x g1 k1 r1 h1 => hb F1 H1 M1 σ Γ _ _ k1 (s.mono g1.ext) h1 fun w F2 H2 M2 y g2 k2 r2 h2 =>
    hr F2 H2 M2 v w x y Q R k2 (r1.mono g2.ext) r2 h2 ((c.go g1).go g2)
theorem sim_un {r : V → Hp → VK → Prop} {dr : R1D} {ta : TE} {da : TD} (hr : Sim1 K r dr) (ha : SimE K ta da) : SimE K (tUn r ta) (dUn dr da) := fun F H M σ Γ Q R k s h c =>
  ha F H M σ Γ _ _ k s h fun v F1 H1 M1 x g1 k1 r1 h1 => hr F1 H1 M1 v x Q R k1 r1 h1 (c.go g1)
variable {a b : Expr} {ta tb : TE} {da db : TD} {pos : Pos}
theorem pd_op {op : Operator} {r : R2} {dr : R2D} (ho : OpR X (binaryOp op) r) (hs : Sim2 X.K r dr) (ha : PD X a ta da) (hb : PD X b tb db) : PD X (.BinOp a op b pos) (tOp r ta tb) (dOp dr da db) := ⟨pe_op ho ha.pe hb.pe, sim_op hs ha.sim hb.sim⟩
theorem pd_un {op : UnaryOp} {r : V → Hp → VK → Prop} {dr : R1D} (ho : UnR X (unaryOp op) r) (hs : Sim1 X.K r dr) (ha : PD X a ta da) : PD X (.UnaryOp op a pos) (tUn r ta) (dUn dr da) := ⟨pe_un ho ha.pe, sim_un hs ha.sim⟩
theorem pd_cmp {op : CmpOp} {r : R2} {dr : R2D} (ho : OpR X (compareOp op) r) (hs : Sim2 X.K r dr) (ha : PD X a ta da) (hb : PD X b tb db) (hm : behindInMarks op b = false) : PD X (.Compare a [op] [b] pos) (tOp r ta tb) (dOp dr da db) := ⟨pe_cmpR ho ha.pe hb.pe hm, sim_op hs ha.sim hb.sim⟩
theorem pd_ix {r : R2} {dr : R2D} (ho : IxR X r) (hs : Sim2 X.K r dr) (ha : PD X a ta da) (hb : PD X b tb db) (hp : PlainIx b) : PD X (.Subscript a b pos) (tOp r ta tb) (dOp dr da db) := ⟨pe_ix ho ha.pe hb.pe hp, sim_op hs ha.sim hb.sim⟩
def dTest (a : TD) : TDT := fun Γ M Q => a Γ M fun x M1 => match x with | .bl b => Q b M1 | _ => False
theorem sim_test {ta : TE} {da : TD} (ha : SimE K ta da) : SimT K (tTest ta) (dTest da) := fun F H M σ Γ Q R k s h c =>
  ha F H M σ Γ _ _ k s h fun v F1 H1 M1 x g1 k1 r1 h1 => by
    cases x with
    | bl b => cases r1; exact ⟨b, rfl, c b F1 H1 M1 g1 k1 h1⟩
    | _ => exact h1.elim
theorem sim_B {ta : TE} {da : TD} (ha : SimE K ta da) : SimT K (tB ta) (dTest da) := fun F H M σ Γ Q R k s h c =>
  ha F H M σ Γ _ _ k s h fun v F1 H1 M1 x g1 k1 r1 h1 => by
    cases x with
    | bl b => cases r1; exact ⟨b, rfl, c b F1 H1 M1 g1 k1 h1⟩
    | _ => exact h1.elim
theorem pdt_cmp {op : CmpOp} {r : R2} {dr : R2D} (ho : OpR X (compareOp op) r) (hs : Sim2 X.K r dr) (ha : PD X a ta da) (hb : PD X b tb db) (hm : behindInMarks op b = false) : PDT X (.Compare a [op] [b] pos) (tTest (tOp r ta tb)) (dTest (dOp dr da db)) :=
  ⟨pt_cmpR ho ha.pe hb.pe hm, sim_test (sim_op hs ha.sim hb.sim)⟩
theorem pdt_val {e : Expr} {t : TE} {d : TD} (h : PD X e t d) (he : ∀ whole, isTrue e X.env whole = (do let v ← whole; standAt e.pos; holding [v] (truthy v)) := by intro _; rfl) : PDT X e (tB t) (dTest d) := ⟨pt_val h.pe he, sim_B h.sim⟩
/-- a < b < c -/
def dChain (r r' : R2D) (a b c : TD) : TD := fun Γ M Q => a Γ M fun x M1 => b Γ M1 fun y M2 => r x y M2 fun z M3 => match z with
  | .bl k => if k = true then c Γ M3 fun w M4 => r' y w M4 fun u M5 => match u with | .bl k2 => Q (.bl k2) M5 | _ => False else Q (.bl false) M3
  | _ => False
/-! ### and, or, not, if -/
def dAnd (t u : TDT) : TDT := fun Γ M Q => t Γ M fun c M1 => if c = true then u Γ M1 Q else Q false M1
def dOr (t u : TDT) : TDT := fun Γ M Q => t Γ M fun c M1 => if c = true then Q true M1 else u Γ M1 Q
def dNot (t : TDT) : TDT := fun Γ M Q => t Γ M fun c M1 => Q (!c) M1
def dAndV (a b : TD) : TD := fun Γ M Q => a Γ M fun x M1 => match x with | .bl c => if c = true then b Γ M1 Q else Q (.bl false) M1 | _ => False
def dOrV (a b : TD) : TD := fun Γ M Q => a Γ M fun x M1 => match x with | .bl c => if c = true then Q (.bl true) M1 else b Γ M1 Q | _ => False
def dNotV (a : TD) : TD := fun Γ M Q => a Γ M fun x M1 => match x with | .bl c => Q (.bl (!c)) M1 | _ => False
def dIf (t : TDT) (a b : TD) : TD := fun Γ M Q => t Γ M fun c M1 => if c = true then a Γ M1 Q else b Γ M1 Q
theorem sim_and {t u : TT} {dt du : TDT} (ht : SimT K t dt) (hu : SimT K u du) : SimT K (tAnd t u) (dAnd dt du) := fun F H M σ Γ Q R k s h c =>
  ht F H M σ Γ _ _ k s h fun b F1 H1 M1 g1 k1 h1 => by
    cases b with
    | true => rw [if_pos rfl] at h1 ⊢; exact hu F1 H1 M1 σ Γ Q R k1 (s.mono g1.ext) h1 (c.go g1)
    | false => rw [if_neg Bool.false_ne_true] at h1 ⊢; exact c false F1 H1 M1 g1 k1 h1
theorem sim_or {t u : TT} {dt du : TDT} (ht : SimT K t dt) (hu : SimT K u du) : SimT K (tOr t u) (dOr dt du) := fun F H M σ Γ Q R k s h c =>
  ht F H M σ Γ _ _ k s h fun b F1 H1 M1 g1 k1 h1 => by
    cases b with
    | false => rw [if_neg Bool.false_ne_true] at h1 ⊢; exact hu F1 H1 M1 σ Γ Q R k1 (s.mono g1.ext) h1 (c.go g1)
    | true => rw [if_pos rfl] at h1 ⊢; exact c true F1 H1 M1 g1 k1 h1
theorem sim_not {t : TT} {dt : TDT} (ht : SimT K t dt) : SimT K (tNot t) (dNot dt) := fun F H M σ Γ Q R k s h c =>
  ht F H M σ Γ _ _ k s h fun b F1 H1 M1 g1 k1 h1 => c (!b) F1 H1 M1 g1 k1 h1
theorem sim_andV {ta tb : TE} {da db : TD} (ha : SimE K ta da) (hb : SimE K tb db) : SimE K (tAndV ta tb) (dAndV da db) := fun F H M σ Γ Q R k s h c =>
  ha F H M σ Γ _ _ k s h fun v F1 H1 M1 x g1 k1 r1 h1 => by
    cases x with
    | bl b =>
      cases r1
      refine ⟨b, rfl, ?_⟩
      cases b with
      | true => simp only [if_true] at h1 ⊢; exact hb F1 H1 M1 σ Γ Q R k1 (s.mono g1.ext) h1 (c.go g1)
      | false => simp only [Bool.false_eq_true, if_false] at h1 ⊢; exact c _ F1 H1 M1 _ g1 k1 (.bl false) h1
    | _ => exact h1.elim
theorem sim_orV {ta tb : TE} {da db : TD} (ha : SimE K ta da) (hb : SimE K tb db) : SimE K (tOrV ta tb) (dOrV da db) := fun F H M σ Γ Q R k s h c =>
  ha F H M σ Γ _ _ k s h fun v F1 H1 M1 x g1 k1 r1 h1 => by
    cases x with
    | bl b =>
      cases r1
      refine ⟨b, rfl, ?_⟩
      cases b with
      | false => simp only [Bool.false_eq_true, if_false] at h1 ⊢; exact hb F1 H1 M1 σ Γ Q R k1 (s.mono g1.ext) h1 (c.go g1)
      | true => simp only [if_true] at h1 ⊢; exact c _ F1 H1 M1 _ g1 k1 (.bl true) h1
    | _ => exact h1.elim
theorem sim_notV {ta : TE} {da : TD} (ha : SimE K ta da) : SimE K (tNotV ta) (dNotV da) := fun F H M σ Γ Q R k s h c =>
  ha F H M σ Γ _ _ k s h fun v F1 H1 M1 x g1 k1 r1 h1 => by
    cases x with
    | bl b => cases r1; exact ⟨b, rfl, c _ F1 H1 M1 _ g1 k1 (.bl _) h1⟩
    | _ => exact h1.elim
theorem sim_if {t : TT} {dt : TDT} {ta tb : TE} {da db : TD} (ht : SimT K t dt) (ha : SimE K ta da) (hb : SimE K tb db) : SimE K (tIf t ta tb) (dIf dt da db) := fun F H M σ Γ Q R k s h c =>
  ht F H M σ Γ _ _ k s h fun b F1 H1 M1 g1 k1 h1 => by
    cases b with
    | true => rw [if_pos rfl] at h1 ⊢; exact ha F1 H1 M1 σ Γ Q R k1 (s.mono g1.ext) h1 (c.go g1)
    | false => rw [if_neg Bool.false_ne_true] at h1 ⊢; exact hb F1 H1 M1 σ Γ Q R k1 (s.mono g1.ext) h1 (c.go g1)
variable {tA tB' : TT} {dA dB' : TDT} {rest : List Expr}
theorem pdw_and1 (ha : PDT X a tA dA) : PDW X (.BoolOp .And [a] pos) tA dA := ⟨pw_and1 ha.pe, ha.sim⟩
theorem pdw_or1 (ha : PDT X a tA dA) : PDW X (.BoolOp .Or [a] pos) tA dA := ⟨pw_or1 ha.pe, ha.sim⟩
theorem pdw_and (ha : PDT X a tA dA) (hb : PDW X (.BoolOp .And (b :: rest) pos) tB' dB') : PDW X (.BoolOp .And (a :: b :: rest) pos) (tAnd tA tB') (dAnd dA dB') := ⟨pw_and ha.pe hb.pe, sim_and ha.sim hb.sim⟩
theorem pdw_or (ha : PDT X a tA dA) (hb : PDW X (.BoolOp .Or (b :: rest) pos) tB' dB') : PDW X (.BoolOp .Or (a :: b :: rest) pos) (tOr tA tB') (dOr dA dB') := ⟨pw_or ha.pe hb.pe, sim_or ha.sim hb.sim⟩
theorem PDW.pt {e : Expr} (h : PDW X e tA dA) : PDT X e tA dA := ⟨h.pe.pt, h.sim⟩
theorem pdt_not (ha : PDT X a tA dA) : PDT X (.UnaryOp .Not a pos) (tNot tA) (dNot dA) := ⟨pt_not ha.pe, sim_not ha.sim⟩
theorem pd_one {op} (h : PD X a ta da) : PD X (.BoolOp op [a] pos) ta da := ⟨pe_one h.pe, h.sim⟩
theorem pd_and (ha : PD X a ta da) (hb : PD X (.BoolOp .And (b :: rest) pos) tb db) : PD X (.BoolOp .And (a :: b :: rest) pos) (tAndV ta tb) (dAndV da db) := ⟨pe_and ha.pe hb.pe, sim_andV ha.sim hb.sim⟩
theorem pd_or (ha : PD X a ta da) (hb : PD X (.BoolOp .Or (b :: rest) pos) tb db) : PD X (.BoolOp .Or (a :: b :: rest) pos) (tOrV ta tb) (dOrV da db) := ⟨pe_or ha.pe hb.pe, sim_orV ha.sim hb.sim⟩
theorem pd_not (ha : PD X a ta da) : PD X (.UnaryOp .Not a pos) (tNotV ta) (dNotV da) := ⟨pe_not ha.pe, sim_notV ha.sim⟩
theorem pd_ifExp {c : Expr} (hc : PDT X c tA dA) (ha : PD X a ta da) (hb : PD X b tb db) : PD X (.IfExp c a b pos) (tIf tA ta tb) (dIf dA da db) := ⟨pe_ifExp hc.pe ha.pe hb.pe, sim_if hc.sim ha.sim hb.sim⟩
end
end DL

set_option Elab.async false
set_option linter.all false
set_option maxRecDepth 100000
set_option maxHeartbeats 4000000
namespace DL
open PySem PySem.Spec PyProof.Rows L2

/-! ### operators on data -/
def addD : R2D := fun x y M Q => match view M x, view M y with
  | .int i, .int j => Q (.int (i + j)) M
  | .lst xs, .lst ys => xs.length + ys.length ≤ sizeLine ∧ Q (.lst (xs ++ ys)) M
  | .tup xs, .tup ys => xs.length + ys.length ≤ sizeLine ∧ Q (.tup (xs ++ ys)) M
  | .str a, .str b => a.length + b.length ≤ sizeLine ∧ Q (.str (a ++ b)) M
  | _, _ => False
def subD : R2D := fun x y M Q => match x, y with
  | .int i, .int j => Q (.int (i - j)) M
  | _, _ => False
def mulD : R2D := fun x y M Q => match view M x, y with
  | .int i, .int j => ((-(2 ^ 64) < i ∧ i < 2 ^ 64) ∨ (-(2 ^ 64) < j ∧ j < 2 ^ 64)) ∧ Q (.int (i * j)) M
  | .lst xs, .int k => -(2 ^ 63) ≤ k ∧ k < 2 ^ 63 ∧ xs.length * k.toNat ≤ sizeLine ∧ Q (.lst (List.replicate k.toNat xs).flatten) M
  | _, _ => False
def fdivD : R2D := fun x y M Q => match x, y with
  | .int i, .int j => (0 < j ∧ j < 1073741824) ∧ Q (.int (i / j)) M
  | _, _ => False
def modD : R2D := fun x y M Q => match x, y with
  | .int i, .int j => 0 < j ∧ Q (.int (i % j)) M
  | _, _ => False
def powD : R2D := fun x y M Q => match x, y with
  | .int i, .int j => (0 ≤ j ∧ j ≤ 1000000 ∧ i.natAbs < 2 ^ 64) ∧ Q (.int (i ^ j.toNat)) M
  | _, _ => False
def negD : R1D := fun x M Q => match x with
  | .int i => Q (.int (-i)) M
  | _ => False
def ltD : R2D := fun x y M Q => match x, y with
  | .int i, .int j => Q (.bl (decide (i < j))) M
  | _, _ => False
def leD : R2D := fun x y M Q => match x, y with
  | .int i, .int j => Q (.bl (decide (i ≤ j))) M
  | _, _ => False
def gtD : R2D := fun x y M Q => match x, y with
  | .int i, .int j => Q (.bl (decide (j < i))) M
  | _, _ => False
def geD : R2D := fun x y M Q => match x, y with
  | .int i, .int j => Q (.bl (decide (j ≤ i))) M
  | _, _ => False
/-- == of plain single values -/
def sEq : D → D → Option Bool
  | .int i, .int j => some (decide (i = j))
  | .bl i, .bl j => some (decide (i = j))
  | .str i, .str j => some (decide (i = j))
  | .non, .non => some true
  | .non, .int _ => some false | .int _, .non => some false
  | .non, .bl _ => some false | .bl _, .non => some false
  | .non, .str _ => some false | .str _, .non => some false
  | .int _, .str _ => some false | .str _, .int _ => some false
  | .bl _, .str _ => some false | .str _, .bl _ => some false
  | _, _ => none
def deepEq (x y : D) (k : Bool → Prop) : Prop := isPy x = true ∧ isPy y = true ∧ SeqAt.shaped (py x) = true ∧ SeqAt.shaped (py y) = true ∧ k (PyData.eqv (py x) (py y))
def eqD : R2D := fun x y M Q => match sEq x y with
  | some b => Q (.bl b) M
  | none => deepEq (view M x) (view M y) fun b => Q (.bl b) M
def neD : R2D := fun x y M Q => match sEq x y with
  | some b => Q (.bl (!b)) M
  | none => deepEq (view M x) (view M y) fun b => Q (.bl (!b)) M
def isNonD : D → Bool
  | .non => true
  | _ => false
def isD : R2D := fun x y M Q => match y with
  | .non => Q (.bl (isNonD x)) M
  | .bl b => (match x with | .bl a => Q (.bl (decide (a = b))) M | _ => False)
  | _ => False
def notD : R2D := fun x y M Q => match y with
  | .non => Q (.bl (!isNonD x)) M
  | .bl b => (match x with | .bl a => Q (.bl (!decide (a = b))) M | _ => False)
  | _ => False
def flatD : D → Bool
  | .non => true | .bl _ => true | .int _ => true | .str _ => true
  | _ => false
def eqF : D → D → Bool
  | .non, .non => true
  | .bl a, .bl b => a == b
  | .bl a, .int b => (if a then 1 else 0) == b
  | .int a, .bl b => a == (if b then 1 else 0)
  | .int a, .int b => a == b
  | .str a, .str b => a == b
  | _, _ => false
def itemsD (M : Mem) (x : D) : Option (List D) := match view M x with
  | .lst xs => some xs
  | .tup xs => some xs
  | .scr xs => some xs
  | _ => none
def inSeq (x y : D) (M : Mem) (k : Bool → Prop) : Prop := match itemsD M y with
  | some ds => flatD x = true ∧ ds.all flatD = true ∧ k (ds.any fun z => eqF z x)
  | none => False
def inD : R2D := fun x y M Q => inSeq x y M fun b => Q (.bl b) M
def notInD : R2D := fun x y M Q => inSeq x y M fun b => Q (.bl (!b)) M
def nth (xs : List D) (i : Int) (k : D → Prop) : Prop := match atI xs i with
  | some d => k d
  | none => False
def ixD : R2D := fun x y M Q => match y with
  | .int i => (match itemsD M x with
    | some xs => nth xs i fun d => Q d M
    | none => False)
  | _ => False

section
variable {K : PySem.W.Frag}
theorem RepL.atI {F : Hp} {vs : List V} {ds : List D} {i : Int} {d : D} (r : RepL K F vs ds) (h : L2.atI ds i = some d) : ∃ v, L2.atI vs i = some v ∧ Rep K F v d := by
  unfold L2.atI at h ⊢
  rw [r.length]
  cases e : ixN ds.length i with
  | none => rw [e] at h; cases h
  | some j => rw [e] at h; exact r.get h
theorem nth_of {xs : List D} {i : Int} {k : D → Prop} (h : nth xs i k) : ∃ d, L2.atI xs i = some d ∧ k d := by
  unfold nth at h
  cases e : L2.atI xs i with
  | none => rw [e] at h; exact h.elim
  | some d => rw [e] at h; exact ⟨d, rfl, h⟩
theorem Ok.items {F H : Hp} {M : Mem} (k : Ok K F H M) {v : V} {x : D} (r : Rep K F v x) {ds : List D} (e : itemsD M x = some ds) : ∃ a vs, v = .ref a ∧ (SqL K H a vs ∨ SqT K H a vs) ∧ RepL K F vs ds := by
  unfold itemsD at e
  cases q : DL.view M x with
  | lst xs => rw [q] at e; cases e; obtain ⟨a, vs, h1, h2, h3⟩ := k.vlst r q; exact ⟨a, vs, h1, .inl (SqL.of h2), h3⟩
  | tup xs => rw [q] at e; cases e; obtain ⟨_, a, vs, h1, _, h2, h3⟩ := k.vtup r q; exact ⟨a, vs, h1, .inr h2, h3⟩
  | scr xs => rw [q] at e; cases e; obtain ⟨a, vs, h1, h2, h3⟩ := k.vscr r q; exact ⟨a, vs, h1, .inl h2, h3⟩
  | _ => rw [q] at e; cases e
theorem rep_flat {F : Hp} {v : V} {d : D} (r : Rep K F v d) (h : flatD d = true) : flatV v = true := by cases r <;> first | rfl | exact absurd h Bool.false_ne_true
theorem rep_eqF {F : Hp} {v w : V} {x y : D} (r : Rep K F v x) (q : Rep K F w y) (hx : flatD x = true) (hy : flatD y = true) : eqV v w = eqF x y := by
  cases r <;> first | (cases q <;> first | rfl | exact absurd hy Bool.false_ne_true) | exact absurd hx Bool.false_ne_true
theorem repL_flat {F : Hp} : ∀ {vs : List V} {ds : List D}, RepL K F vs ds → ds.all flatD = true → vs.all flatV = true
  | _, _, .nil, _ => rfl
  | _, _, .cons r t, h => by
    rw [List.all_cons, Bool.and_eq_true] at h
    rw [List.all_cons, Bool.and_eq_true]
    exact ⟨rep_flat r h.1, repL_flat t h.2⟩
theorem repL_any {F : Hp} {w : V} {y : D} (q : Rep K F w y) (hy : flatD y = true) : ∀ {vs : List V} {ds : List D}, RepL K F vs ds → ds.all flatD = true → (vs.any fun z => eqV z w) = ds.any fun z => eqF z y
  | _, _, .nil, _ => rfl
  | _, _, .cons r t, h => by
    rw [List.all_cons, Bool.and_eq_true] at h
    rw [List.any_cons, List.any_cons, rep_eqF r q h.1 hy, repL_any q hy t h.2]

/-! ints -/
theorem s2_int {g : Int → Int → V} {gd : Int → Int → D} (hg : ∀ i j F, Rep K F (g i j) (gd i j)) : Sim2 K (rI0 g) (fun x y M Q => match x, y with | .int i, .int j => Q (gd i j) M | _, _ => False) := by
  intro F H M v w x y Q R k r1 r2 h c
  cases x with
  | int i =>
    cases y with
    | int j => cases r1; cases r2; exact ⟨i, j, rfl, rfl, c _ F H M _ Go.refl k (hg i j F) h⟩
    | _ => exact h.elim
  | _ => exact h.elim
theorem s2_intC {C : Int → Int → Prop} {g : Int → Int → V} {gd : Int → Int → D} (hg : ∀ i j F, Rep K F (g i j) (gd i j)) : Sim2 K (rI C g) (fun x y M Q => match x, y with | .int i, .int j => C i j ∧ Q (gd i j) M | _, _ => False) := by
  intro F H M v w x y Q R k r1 r2 h c
  cases x with
  | int i =>
    cases y with
    | int j => cases r1; cases r2; exact ⟨i, j, rfl, rfl, h.1, c _ F H M _ Go.refl k (hg i j F) h.2⟩
    | _ => exact h.elim
  | _ => exact h.elim
theorem s2_sub : Sim2 K (rI0 fun i j => .int (i - j)) subD := s2_int (gd := fun i j => .int (i - j)) fun i j F => .int _
theorem s2_fdiv : Sim2 K (rI CDiv fun i j => .int (i / j)) fdivD := s2_intC (gd := fun i j => .int (i / j)) fun i j F => .int _
theorem s2_mod : Sim2 K (rI (fun _ j => 0 < j) fun i j => .int (i % j)) modD := s2_intC (gd := fun i j => .int (i % j)) fun i j F => .int _
theorem s2_pow : Sim2 K (rI CPow fun i j => .int (i ^ j.toNat)) powD := s2_intC (gd := fun i j => .int (i ^ j.toNat)) fun i j F => .int _
theorem s2_lt : Sim2 K (rI0 fun i j => .bl (decide (i < j))) ltD := s2_int (gd := fun i j => .bl (decide (i < j))) fun i j F => .bl _
theorem s2_le : Sim2 K (rI0 fun i j => .bl (decide (i ≤ j))) leD := s2_int (gd := fun i j => .bl (decide (i ≤ j))) fun i j F => .bl _
theorem s2_gt : Sim2 K (rI0 fun i j => .bl (decide (j < i))) gtD := s2_int (gd := fun i j => .bl (decide (j < i))) fun i j F => .bl _
theorem s2_ge : Sim2 K (rI0 fun i j => .bl (decide (j ≤ i))) geD := s2_int (gd := fun i j => .bl (decide (j ≤ i))) fun i j F => .bl _
theorem s1_neg : Sim1 K (rU fun i => .int (-i)) negD := by
  intro F H M v x Q R k r h c
  cases x with
  | int i => cases r; exact ⟨i, rfl, c _ F H M _ Go.refl k (.int _) h⟩
  | _ => exact h.elim
/-- a new list, a new tuple that never change -/
theorem new_lst {F H : Hp} {M : Mem} {vs : List V} {ds : List D} {Q : QD} {R : VK} (k : Ok K F H M) (r : RepL K F vs ds) (h : Q (.lst ds) M) (c : CV K F H M Q R) : ∀ p, H p = none → R (.ref p) (upd H p (.lst vs)) := fun p hp =>
  c _ _ _ _ _ (k.goF hp _) (k.newF hp _) (.lst upd_same (r.mono (k.goF hp _).ext)) h
theorem new_tup {F H : Hp} {M : Mem} {vs : List V} {ds : List D} {Q : QD} {R : VK} (k : Ok K F H M) (r : RepL K F vs ds) (h : Q (.tup ds) M) (c : CV K F H M Q R) : ∀ p, H p = none → R (.ref p) (upd H p (.tup vs)) := fun p hp =>
  c _ _ _ _ _ (k.goF hp _) (k.newF hp _) (.tup (SqT.of upd_same) (r.mono (k.goF hp _).ext)) h
def rAddAny (K : PySem.W.Frag) : R2 := fun x y H Q => rI0 (fun i j => .int (i + j)) x y H Q ∨ (rCat x y H Q ∨ (rCatA K x y H Q ∨ (∃ i j, x = .str i ∧ y = .str j ∧ i.length + j.length ≤ sizeLine ∧ Q (.str (i ++ j)) H)))
theorem s2_add : Sim2 K (rAddAny K) addD := by
  intro F H M v w x y Q R k r1 r2 h c
  unfold addD at h
  cases e1 : view M x with
  | int i =>
    cases e2 : view M y with
    | int j =>
      rw [e1, e2] at h
      have q1 := k.view r1; rw [e1] at q1; cases q1
      have q2 := k.view r2; rw [e2] at q2; cases q2
      exact .inl ⟨i, j, rfl, rfl, c _ F H M _ Go.refl k (.int _) h⟩
    | _ => rw [e1, e2] at h; exact h.elim
  | lst xs =>
    cases e2 : view M y with
    | lst ys =>
      rw [e1, e2] at h
      obtain ⟨a, vs, rfl, ha, ra⟩ := k.vlst r1 e1
      obtain ⟨b, ws, rfl, hb, rb⟩ := k.vlst r2 e2
      exact .inr (.inl ⟨a, b, vs, ws, rfl, rfl, ha, hb, by rw [ra.length, rb.length]; exact h.1, new_lst k (ra.append rb) h.2 c⟩)
    | _ => rw [e1, e2] at h; exact h.elim
  | tup xs =>
    cases e2 : view M y with
    | tup ys =>
      rw [e1, e2] at h
      obtain ⟨ex, a, vs, rfl, fa, ha, ra⟩ := k.vtup r1 e1
      obtain ⟨ey, b, ws, rfl, fb, hb, rb⟩ := k.vtup r2 e2
      refine .inr (.inr (.inl ⟨a, b, vs, ws, rfl, rfl, ha, hb, by rw [ra.length, rb.length]; exact h.1, fun e => ?_, fun _ e => ?_, fun _ _ => new_tup k (ra.append rb) h.2 c⟩))
      · subst e
        cases ra
        exact c _ F H M _ Go.refl k (.tup fb rb) h.2
      · subst e
        cases rb
        have h2 := h.2
        rw [List.append_nil] at h2
        exact c _ F H M _ Go.refl k (.tup fa ra) h2
    | _ => rw [e1, e2] at h; exact h.elim
  | str z =>
    cases e2 : view M y with
    | str z2 =>
      rw [e1, e2] at h
      have q1 := k.view r1; rw [e1] at q1; cases q1
      have q2 := k.view r2; rw [e2] at q2; cases q2
      exact .inr (.inr (.inr ⟨z, z2, rfl, rfl, h.1, c _ F H M _ Go.refl k (.str _) h.2⟩))
    | _ => rw [e1, e2] at h; exact h.elim
  | _ => rw [e1] at h; exact h.elim
theorem oop_add {X : Cx} : OpR X (binaryOp .Add) (rAddAny X.K) := op_add.or (op_cat.or (op_catA.or op_add_str))
def rMulAny : R2 := fun x y H Q => rI CMul (fun i j => .int (i * j)) x y H Q ∨ rRep x y H Q
theorem repL_rep {F : Hp} {vs : List V} {ds : List D} (r : RepL K F vs ds) : ∀ n : Nat, RepL K F (List.replicate n vs).flatten (List.replicate n ds).flatten
  | 0 => by rw [List.replicate_zero, List.replicate_zero]; exact .nil
  | n + 1 => by rw [List.replicate_succ, List.replicate_succ, List.flatten_cons, List.flatten_cons]; exact r.append (repL_rep r n)
theorem s2_mul : Sim2 K rMulAny mulD := by
  intro F H M v w x y Q R k r1 r2 h c
  unfold mulD at h
  cases e1 : view M x with
  | int i =>
    cases y with
    | int j =>
      rw [e1] at h
      have q1 := k.view r1; rw [e1] at q1; cases q1
      cases r2
      exact .inl ⟨i, j, rfl, rfl, h.1, c _ F H M _ Go.refl k (.int _) h.2⟩
    | _ => rw [e1] at h; exact h.elim
  | lst xs =>
    cases y with
    | int j =>
      rw [e1] at h
      obtain ⟨a, vs, rfl, ha, ra⟩ := k.vlst r1 e1
      cases r2
      exact .inr ⟨a, j, vs, rfl, rfl, ha, h.1, h.2.1, by rw [ra.length]; exact h.2.2.1, new_lst k (repL_rep ra _) h.2.2.2 c⟩
    | _ => rw [e1] at h; exact h.elim
  | _ => rw [e1] at h; exact h.elim
theorem oop_mul {X : Cx} : OpR X (binaryOp .Mult) rMulAny := op_mul.or op_rep
def rEqAny (K : PySem.W.Frag) : R2 := fun x y H Q => rEq x y H Q ∨ rEqD K x y H Q
def rNeAny (K : PySem.W.Frag) : R2 := fun x y H Q => rNe x y H Q ∨ rNeD K x y H Q
theorem sEq_some {F : Hp} {v w : V} {x y : D} {b : Bool} (r : Rep K F v x) (q : Rep K F w y) (h : sEq x y = some b) : scal v w = true ∧ decide (v = w) = b := by
  cases r <;> cases q <;> first
    | (cases h; refine ⟨rfl, ?_⟩; first | rfl | (rw [decide_eq_decide]; simp) | simp)
    | (cases h)
theorem s2_eq : Sim2 K (rEqAny K) eqD := by
  intro F H M v w x y Q R k r1 r2 h c
  unfold eqD at h
  cases e : sEq x y with
  | some b =>
    rw [e] at h
    obtain ⟨h1, h2⟩ := sEq_some r1 r2 e
    refine .inl ⟨h1, ?_⟩
    rw [h2]
    exact c _ F H M _ Go.refl k (.bl _) h
  | none =>
    rw [e] at h
    obtain ⟨p1, p2, s1, s2, h⟩ := h
    exact .inr ⟨_, _, (k.view r1).dp p1, (k.view r2).dp p2, s1, s2, c _ F H M _ Go.refl k (.bl _) h⟩
theorem s2_ne : Sim2 K (rNeAny K) neD := by
  intro F H M v w x y Q R k r1 r2 h c
  unfold neD at h
  cases e : sEq x y with
  | some b =>
    rw [e] at h
    obtain ⟨h1, h2⟩ := sEq_some r1 r2 e
    refine .inl ⟨h1, ?_⟩
    rw [h2]
    exact c _ F H M _ Go.refl k (.bl _) h
  | none =>
    rw [e] at h
    obtain ⟨p1, p2, s1, s2, h⟩ := h
    exact .inr ⟨_, _, (k.view r1).dp p1, (k.view r2).dp p2, s1, s2, c _ F H M _ Go.refl k (.bl _) h⟩
theorem oop_eq {X : Cx} (hu : X.A.units + 64 < cLine) : OpR X (compareOp .Eq) (rEqAny X.K) := op_eq.or (op_eqD hu)
theorem oop_ne {X : Cx} (hu : X.A.units + 64 < cLine) : OpR X (compareOp .NotEq) (rNeAny X.K) := op_ne.or (op_neD hu)
def rIsAny : R2 := fun x y H Q => (y = .non ∧ Q (.bl (decide (x = .non))) H) ∨ rIsB x y H Q
def rNotAny : R2 := fun x y H Q => (y = .non ∧ Q (.bl (!decide (x = .non))) H) ∨ rNotB x y H Q
theorem rep_non {F : Hp} {v : V} {x : D} (r : Rep K F v x) : decide (v = .non) = isNonD x := by cases r <;> rfl
theorem s2_is : Sim2 K rIsAny isD := by
  intro F H M v w x y Q R k r1 r2 h c
  cases y with
  | non => cases r2; exact .inl ⟨rfl, by rw [rep_non r1]; exact c _ F H M _ Go.refl k (.bl _) h⟩
  | bl b =>
    cases x with
    | bl a => cases r1; cases r2; exact .inr ⟨a, b, rfl, rfl, c _ F H M _ Go.refl k (.bl _) h⟩
    | _ => exact h.elim
  | _ => exact h.elim
theorem s2_not : Sim2 K rNotAny notD := by
  intro F H M v w x y Q R k r1 r2 h c
  cases y with
  | non => cases r2; exact .inl ⟨rfl, by rw [rep_non r1]; exact c _ F H M _ Go.refl k (.bl _) h⟩
  | bl b =>
    cases x with
    | bl a => cases r1; cases r2; exact .inr ⟨a, b, rfl, rfl, c _ F H M _ Go.refl k (.bl _) h⟩
    | _ => exact h.elim
  | _ => exact h.elim
theorem oop_is {X : Cx} : OpR X (compareOp .Is) rIsAny := op_isN.or op_isBl
theorem oop_not {X : Cx} : OpR X (compareOp .IsNot) rNotAny := op_notN.or op_notBl
theorem s2_in : Sim2 K (rIn K false) inD := by
  intro F H M v w x y Q R k r1 r2 h c
  unfold inD inSeq at h
  cases e : itemsD M y with
  | none => rw [e] at h; exact h.elim
  | some ds =>
    rw [e] at h
    obtain ⟨a, vs, rfl, hq, ra⟩ := k.items r2 e
    refine ⟨a, vs, rfl, hq, rep_flat r1 h.1, repL_flat ra h.2.1, ?_⟩
    show R (.bl (vs.any fun z => eqV z v)) H
    rw [repL_any r1 h.1 ra h.2.1]
    exact c _ F H M _ Go.refl k (.bl _) h.2.2
theorem s2_notIn : Sim2 K (rIn K true) notInD := by
  intro F H M v w x y Q R k r1 r2 h c
  unfold notInD inSeq at h
  cases e : itemsD M y with
  | none => rw [e] at h; exact h.elim
  | some ds =>
    rw [e] at h
    obtain ⟨a, vs, rfl, hq, ra⟩ := k.items r2 e
    refine ⟨a, vs, rfl, hq, rep_flat r1 h.1, repL_flat ra h.2.1, ?_⟩
    show R (.bl (!(vs.any fun z => eqV z v))) H
    rw [repL_any r1 h.1 ra h.2.1]
    exact c _ F H M _ Go.refl k (.bl _) h.2.2
def rIxAny (K : PySem.W.Frag) : R2 := fun x y H Q => rIxL K x y H Q ∨ rIxT K x y H Q
theorem s2_ix : Sim2 K (rIxAny K) ixD := by
  intro F H M v w x y Q R k r1 r2 h c
  unfold ixD at h
  cases y with
  | int i =>
    cases r2
    cases e : itemsD M x with
    | none => simp only [e] at h
    | some ds =>
      simp only [e] at h
      obtain ⟨d, e1, h⟩ := nth_of h
      obtain ⟨a, vs, rfl, hq, ra⟩ := k.items r1 e
      obtain ⟨z, e2, rz⟩ := ra.atI e1
      rcases hq with hq | hq
      · exact .inl ⟨a, vs, i, z, rfl, rfl, hq, e2, c _ F H M _ Go.refl k rz h⟩
      · exact .inr ⟨a, vs, i, z, rfl, rfl, hq, e2, c _ F H M _ Go.refl k rz h⟩
  | _ => exact h.elim
theorem oix {X : Cx} : IxR X (rIxAny X.K) := ix_list.or ix_tup
end

/-! ### arguments, displays, calls of built-ins -/
def dNil : TDA := fun _ M Q => Q [] M
def dCons (a : TD) (r : TDA) : TDA := fun Γ M Q => a Γ M fun x M1 => r Γ M1 fun xs M2 => Q (x :: xs) M2
def dTup (a : TDA) : TD := fun Γ M Q => a Γ M fun xs M1 => xs.length ≤ sizeLine ∧ Q (.tup xs) M1
def dLst (a : TDA) : TD := fun Γ M Q => a Γ M fun xs M1 => xs.length ≤ sizeLine ∧ Q (.lst xs) M1
/-- a list that may change -/
def dLstM (a : TDA) : TD := fun Γ M Q => a Γ M fun xs M1 => xs.length ≤ sizeLine ∧ ∀ p, M1 p = none → Q (.ref p) (mput M1 p (.lst xs))
def dCB (r : RCD) (a : TDA) : TD := fun Γ M Q => a Γ M fun xs M1 => r xs M1 Q
section
variable {K : PySem.W.Frag}
theorem sim_nil : SimA K tNil dNil := fun F H M σ Γ Q R k s h c => c [] F H M [] Go.refl k .nil h
theorem sim_cons {ta : TE} {da : TD} {tr : TA} {dr : TDA} (ha : SimE K ta da) (hr : SimA K tr dr) : SimA K (tCons ta tr) (dCons da dr) := fun F H M σ Γ Q R k s h c =>
  ha F H M σ Γ _ _ k s h fun v F1 H1 M1 x g1 k1 r1 h1 => hr F1 H1 M1 σ Γ _ _ k1 (s.mono g1.ext) h1 fun vs F2 H2 M2 xs g2 k2 r2 h2 =>
    c _ F2 H2 M2 _ (g1.trans g2) k2 (.cons (r1.mono g2.ext) r2) h2
theorem sim_tup {ta : TA} {da : TDA} (ha : SimA K ta da) : SimE K (tTup ta) (dTup da) := fun F H M σ Γ Q R k s h c =>
  ha F H M σ Γ _ _ k s h fun vs F1 H1 M1 xs g1 k1 r1 h1 => ⟨by rw [r1.length]; exact h1.1, new_tup k1 r1 h1.2 (c.go g1)⟩
theorem sim_lst {ta : TA} {da : TDA} (ha : SimA K ta da) : SimE K (tLst ta) (dLst da) := fun F H M σ Γ Q R k s h c =>
  ha F H M σ Γ _ _ k s h fun vs F1 H1 M1 xs g1 k1 r1 h1 => ⟨by rw [r1.length]; exact h1.1, new_lst k1 r1 h1.2 (c.go g1)⟩
theorem new_lstM {F H : Hp} {M : Mem} {vs : List V} {ds : List D} {Q : QD} {R : VK} (k : Ok K F H M) (r : RepL K F vs ds) (h : ∀ p, M p = none → Q (.ref p) (mput M p (.lst ds))) (c : CV K F H M Q R) : ∀ p, H p = none → R (.ref p) (upd H p (.lst vs)) := fun p hp =>
  c _ _ _ _ _ (k.goM hp _ (.lst ds)) (k.newM hp ⟨vs, upd_same, r⟩) (.ref p) (h p (k.free hp).2)
theorem sim_lstM {ta : TA} {da : TDA} (ha : SimA K ta da) : SimE K (tLst ta) (dLstM da) := fun F H M σ Γ Q R k s h c =>
  ha F H M σ Γ _ _ k s h fun vs F1 H1 M1 xs g1 k1 r1 h1 => ⟨by rw [r1.length]; exact h1.1, new_lstM k1 r1 h1.2 (c.go g1)⟩
theorem sim_cb {r : List V → Hp → VK → Prop} {dr : RCD} {ta : TA} {da : TDA} (hr : SimC K r dr) (ha : SimA K ta da) : SimE K (tCB r ta) (dCB dr da) := fun F H M σ Γ Q R k s h c =>
  ha F H M σ Γ _ _ k s h fun vs F1 H1 M1 xs g1 k1 r1 h1 => hr F1 H1 M1 vs xs Q R k1 r1 h1 (c.go g1)
variable {X : Cx} {e : Expr} {es : List Expr} {te : TE} {de : TD} {t : TA} {d : TDA} {pos p : Pos} {x : Str} {id T : String} {r : List V → Hp → VK → Prop} {dr : RCD}
theorem pda_nil : PDA X [] tNil dNil := ⟨pa_nil, sim_nil⟩
theorem pda_cons (ha : PD X e te de) (hr : PDA X es t d) (hs : starEach (e :: es) X.env = (false, eval e X.env) :: starEach es X.env := by rfl) : PDA X (e :: es) (tCons te t) (dCons de d) := ⟨pa_cons ha.pe hr.pe hs, sim_cons ha.sim hr.sim⟩
theorem pd_tup {x1} (h : PDA X es t d) : PD X (.Tuple es x1 pos) (tTup t) (dTup d) := ⟨pe_tup h.pe, sim_tup h.sim⟩
theorem pd_lst (h : PDA X es t d) : PD X (.List es pos) (tLst t) (dLst d) := ⟨pe_lst h.pe, sim_lst h.sim⟩
theorem pd_lstM (h : PDA X es t d) : PD X (.List es pos) (tLst t) (dLstM d) := ⟨pe_lst h.pe, sim_lstM h.sim⟩
theorem pd_callB (hc : CallR X (.builtin id) r) (hr : SimC X.K r dr) (hg : Gl X x) (hm : X.mg x = none) (hv : bootBuiltins x = some (.builtin id)) (ha : PDA X (e :: es) t d) (hn : x ≠ "__name__" := by decide) (hdb : (x == ("__debug__" : Str)) = false := by decide)
    (he : starEach (e :: es) X.env = (false, eval e X.env) :: starEach es X.env := by rfl) (hpl : (backTo pos (starEach es X.env)).any (·.1) = false := by rfl) : PD X (.Call (.Name x p) (e :: es) [] pos) (tCB r t) (dCB dr d) :=
  ⟨pe_callB hc hg hm hv ha.pe hn hdb he hpl, sim_cb hr ha.sim⟩
theorem pd_callTy (hc : CallR X (.type T) r) (hr : SimC X.K r dr) (hg : Gl X x) (hm : X.mg x = none) (hv : bootBuiltins x = some (.type T)) (ha : PDA X (e :: es) t d) (hn : x ≠ "__name__" := by decide) (hdb : (x == ("__debug__" : Str)) = false := by decide)
    (he : starEach (e :: es) X.env = (false, eval e X.env) :: starEach es X.env := by rfl) (hpl : (backTo pos (starEach es X.env)).any (·.1) = false := by rfl) : PD X (.Call (.Name x p) (e :: es) [] pos) (tCB r t) (dCB dr d) :=
  ⟨pe_callTy hc hg hm hv ha.pe hn hdb he hpl, sim_cb hr ha.sim⟩
end
def lenD : RCD := fun xs M Q => match xs with
  | [x] => (match view M x with
    | .lst ds => Q (.int (ds.length : Nat)) M
    | .tup ds => Q (.int (ds.length : Nat)) M
    | .scr ds => Q (.int (ds.length : Nat)) M
    | .str z => z.length ≤ sizeLine ∧ Q (.int (z.length : Nat)) M
    | _ => False)
  | _ => False
def absD : RCD := fun xs M Q => match xs with
  | [.int i] => Q (.int (if i < 0 then -i else i)) M
  | _ => False
def max2D : RCD := fun xs M Q => match xs with
  | [.int i, .int j] => Q (.int (if j > i then j else i)) M
  | _ => False
def min2D : RCD := fun xs M Q => match xs with
  | [.int i, .int j] => Q (.int (if j < i then j else i)) M
  | _ => False
def intD : RCD := fun xs M Q => match xs with
  | [.int i] => Q (.int i) M
  | [.bl k] => Q (.int (if k then 1 else 0)) M
  | _ => False
/-- min, max, sum of a list of numbers; any, all of one of truth values -/
def minLD : RCD := fun xs M Q => match xs with
  | [x] => ∃ ns : List Int, view M x = .lst (ns.map D.int) ∧ 0 < ns.length ∧ ∀ m, m ∈ ns → (∀ y, y ∈ ns → m ≤ y) → Q (.int m) M
  | _ => False
def maxLD : RCD := fun xs M Q => match xs with
  | [x] => ∃ ns : List Int, view M x = .lst (ns.map D.int) ∧ 0 < ns.length ∧ ∀ m, m ∈ ns → (∀ y, y ∈ ns → y ≤ m) → Q (.int m) M
  | _ => False
def sumLD : RCD := fun xs M Q => match xs with
  | [x] => ∃ ns : List Int, view M x = .lst (ns.map D.int) ∧ Q (.int ns.sum) M
  | _ => False
def allLD : RCD := fun xs M Q => match xs with
  | [x] => ∃ bs : List Bool, view M x = .lst (bs.map D.bl) ∧ Q (.bl (bs.all id)) M
  | _ => False
def anyLD : RCD := fun xs M Q => match xs with
  | [x] => ∃ bs : List Bool, view M x = .lst (bs.map D.bl) ∧ Q (.bl (bs.any id)) M
  | _ => False
def tupleD : RCD := fun xs M Q => match xs with
  | [x] => (match itemsD M x with | some ds => Q (.tup ds) M | none => False)
  | _ => False
def listD : RCD := fun xs M Q => match xs with
  | [x] => (match itemsD M x with | some ds => Q (.lst ds) M | none => False)
  | _ => False
def listMD : RCD := fun xs M Q => match xs with
  | [x] => (match itemsD M x with | some ds => ∀ p, M p = none → Q (.ref p) (mput M p (.lst ds)) | none => False)
  | _ => False
section
variable {K : PySem.W.Frag}
theorem repL1 {F : Hp} {vs : List V} {x : D} (r : RepL K F vs [x]) : ∃ v, vs = [v] ∧ Rep K F v x := by
  cases r with
  | cons r t => cases t; exact ⟨_, rfl, r⟩
theorem repL2 {F : Hp} {vs : List V} {x y : D} (r : RepL K F vs [x, y]) : ∃ v w, vs = [v, w] ∧ Rep K F v x ∧ Rep K F w y := by
  cases r with
  | cons r t =>
    obtain ⟨w, rfl, q⟩ := repL1 t
    exact ⟨_, w, rfl, r, q⟩
theorem sc_len : SimC K (fun xs H Q => ∃ x n, xs = [x] ∧ LenV K x H n ∧ Q (.int n) H) lenD := by
  intro F H M vs xs Q R k r h c
  match xs, r, h with
  | [], _, h => exact h.elim
  | [x], r, h =>
    obtain ⟨v, rfl, q1⟩ := repL1 r
    unfold lenD at h
    cases e : view M x with
    | lst ds =>
      simp only [e] at h
      obtain ⟨a, vs, rfl, ha, ra⟩ := k.vlst q1 e
      exact ⟨_, ds.length, rfl, .inl ⟨vs, SqL.of ha, ra.length.symm⟩, c _ F H M _ Go.refl k (.int _) h⟩
    | tup ds =>
      simp only [e] at h
      obtain ⟨_, a, vs, rfl, _, ha, ra⟩ := k.vtup q1 e
      exact ⟨_, ds.length, rfl, .inr ⟨vs, ha, ra.length.symm⟩, c _ F H M _ Go.refl k (.int _) h⟩
    | scr ds =>
      simp only [e] at h
      obtain ⟨a, vs, rfl, ha, ra⟩ := k.vscr q1 e
      exact ⟨_, ds.length, rfl, .inl ⟨vs, ha, ra.length.symm⟩, c _ F H M _ Go.refl k (.int _) h⟩
    | str z =>
      simp only [e] at h
      cases k.vstr q1 e
      exact ⟨_, z.length, rfl, ⟨h.1, rfl⟩, c _ F H M _ Go.refl k (.int _) h.2⟩
    | _ => simp only [e] at h
  | _ :: _ :: _, _, h => exact h.elim
theorem sc_abs : SimC K (fun xs H Q => ∃ i, xs = [.int i] ∧ Q (.int (if i < 0 then -i else i)) H) absD := by
  intro F H M vs xs Q R k r h c
  match xs, r, h with
  | [], _, h => exact h.elim
  | [x], r, h =>
    obtain ⟨v, rfl, q1⟩ := repL1 r
    cases x with
    | int i => cases q1; exact ⟨i, rfl, c _ F H M _ Go.refl k (.int _) h⟩
    | _ => exact h.elim
  | x :: _ :: _, _, h => cases x <;> exact h.elim
theorem sc_max2 : SimC K (fun xs H Q => ∃ i j, xs = [.int i, .int j] ∧ Q (.int (if j > i then j else i)) H) max2D := by
  intro F H M vs xs Q R k r h c
  match xs, r, h with
  | [], _, h => exact h.elim
  | [x], _, h => cases x <;> exact h.elim
  | [x, y], r, h =>
    obtain ⟨v, w, rfl, r1, r2⟩ := repL2 r
    cases x with
    | int i =>
      cases y with
      | int j => cases r1; cases r2; exact ⟨i, j, rfl, c _ F H M _ Go.refl k (.int _) h⟩
      | _ => exact h.elim
    | _ => exact h.elim
  | x :: y :: _ :: _, _, h => cases x <;> first | exact h.elim | (cases y <;> exact h.elim)
theorem sc_min2 : SimC K (fun xs H Q => ∃ i j, xs = [.int i, .int j] ∧ Q (.int (if j < i then j else i)) H) min2D := by
  intro F H M vs xs Q R k r h c
  match xs, r, h with
  | [], _, h => exact h.elim
  | [x], _, h => cases x <;> exact h.elim
  | [x, y], r, h =>
    obtain ⟨v, w, rfl, r1, r2⟩ := repL2 r
    cases x with
    | int i =>
      cases y with
      | int j => cases r1; cases r2; exact ⟨i, j, rfl, c _ F H M _ Go.refl k (.int _) h⟩
      | _ => exact h.elim
    | _ => exact h.elim
  | x :: y :: _ :: _, _, h => cases x <;> first | exact h.elim | (cases y <;> exact h.elim)
theorem sc_int : SimC K (fun xs H Q => (∃ i, xs = [.int i] ∧ Q (.int i) H) ∨ ∃ k, xs = [.bl k] ∧ Q (.int (if k then 1 else 0)) H) intD := by
  intro F H M vs xs Q R k r h c
  match xs, r, h with
  | [], _, h => exact h.elim
  | [x], r, h =>
    obtain ⟨v, rfl, q1⟩ := repL1 r
    cases x with
    | int i => cases q1; exact .inl ⟨i, rfl, c _ F H M _ Go.refl k (.int _) h⟩
    | bl b => cases q1; exact .inr ⟨b, rfl, c _ F H M _ Go.refl k (.int _) h⟩
    | _ => exact h.elim
  | x :: _ :: _, _, h => cases x <;> exact h.elim
theorem sc_minL : SimC K (rMin K) minLD := by
  intro F H M vs xs Q R k r h c
  match xs, r, h with
  | [], _, h => exact h.elim
  | [x], r, h =>
    obtain ⟨v, rfl, q1⟩ := repL1 r
    obtain ⟨ns, e, h0, h⟩ := h
    obtain ⟨a, vs, rfl, ha, ra⟩ := k.vlst q1 e
    cases ra.ints
    exact ⟨a, ns, rfl, SqL.of ha, h0, fun m h1 h2 => c _ F H M _ Go.refl k (.int _) (h m h1 h2)⟩
  | _ :: _ :: _, _, h => exact h.elim
theorem sc_maxL : SimC K (rMax K) maxLD := by
  intro F H M vs xs Q R k r h c
  match xs, r, h with
  | [], _, h => exact h.elim
  | [x], r, h =>
    obtain ⟨v, rfl, q1⟩ := repL1 r
    obtain ⟨ns, e, h0, h⟩ := h
    obtain ⟨a, vs, rfl, ha, ra⟩ := k.vlst q1 e
    cases ra.ints
    exact ⟨a, ns, rfl, SqL.of ha, h0, fun m h1 h2 => c _ F H M _ Go.refl k (.int _) (h m h1 h2)⟩
  | _ :: _ :: _, _, h => exact h.elim
theorem sc_sumL : SimC K (rSum K) sumLD := by
  intro F H M vs xs Q R k r h c
  match xs, r, h with
  | [], _, h => exact h.elim
  | [x], r, h =>
    obtain ⟨v, rfl, q1⟩ := repL1 r
    obtain ⟨ns, e, h⟩ := h
    obtain ⟨a, vs, rfl, ha, ra⟩ := k.vlst q1 e
    cases ra.ints
    exact ⟨a, ns, rfl, SqL.of ha, c _ F H M _ Go.refl k (.int _) h⟩
  | _ :: _ :: _, _, h => exact h.elim
theorem sc_allL : SimC K (rAll K) allLD := by
  intro F H M vs xs Q R k r h c
  match xs, r, h with
  | [], _, h => exact h.elim
  | [x], r, h =>
    obtain ⟨v, rfl, q1⟩ := repL1 r
    obtain ⟨ns, e, h⟩ := h
    obtain ⟨a, vs, rfl, ha, ra⟩ := k.vlst q1 e
    cases ra.bools
    exact ⟨a, ns, rfl, SqL.of ha, c _ F H M _ Go.refl k (.bl _) h⟩
  | _ :: _ :: _, _, h => exact h.elim
theorem sc_anyL : SimC K (rAny K) anyLD := by
  intro F H M vs xs Q R k r h c
  match xs, r, h with
  | [], _, h => exact h.elim
  | [x], r, h =>
    obtain ⟨v, rfl, q1⟩ := repL1 r
    obtain ⟨ns, e, h⟩ := h
    obtain ⟨a, vs, rfl, ha, ra⟩ := k.vlst q1 e
    cases ra.bools
    exact ⟨a, ns, rfl, SqL.of ha, c _ F H M _ Go.refl k (.bl _) h⟩
  | _ :: _ :: _, _, h => exact h.elim
theorem sc_tuple : SimC K (fun xs H Q => ∃ p ys, xs = [.ref p] ∧ ((SqL K H p ys ∧ ∀ l, H l = none → Q (.ref l) (upd H l (.tup ys))) ∨ (SqT K H p ys ∧ Q (.ref p) H))) tupleD := by
  intro F H M vs xs Q R k r h c
  match xs, r, h with
  | [], _, h => exact h.elim
  | [x], r, h =>
    obtain ⟨v, rfl, q1⟩ := repL1 r
    unfold tupleD at h
    cases e : itemsD M x with
    | none => simp only [e] at h
    | some ds =>
      simp only [e] at h
      unfold itemsD at e
      cases q : view M x with
      | lst xs => rw [q] at e; cases e; obtain ⟨a, vs, rfl, h2, h3⟩ := k.vlst q1 q; exact ⟨a, vs, rfl, .inl ⟨SqL.of h2, new_tup k h3 h c⟩⟩
      | tup xs => rw [q] at e; cases e; obtain ⟨_, a, vs, rfl, h1, h2, h3⟩ := k.vtup q1 q; exact ⟨a, vs, rfl, .inr ⟨h2, c _ F H M _ Go.refl k (.tup h1 h3) h⟩⟩
      | scr xs => rw [q] at e; cases e; obtain ⟨a, vs, rfl, h2, h3⟩ := k.vscr q1 q; exact ⟨a, vs, rfl, .inl ⟨h2, new_tup k h3 h c⟩⟩
      | _ => rw [q] at e; cases e
  | _ :: _ :: _, _, h => exact h.elim
theorem sc_list : SimC K (fun xs H Q => ∃ p ys, xs = [.ref p] ∧ (SqL K H p ys ∨ SqT K H p ys) ∧ ∀ l, H l = none → Q (.ref l) (upd H l (.lst ys))) listD := by
  intro F H M vs xs Q R k r h c
  match xs, r, h with
  | [], _, h => exact h.elim
  | [x], r, h =>
    obtain ⟨v, rfl, q1⟩ := repL1 r
    unfold listD at h
    cases e : itemsD M x with
    | none => simp only [e] at h
    | some ds =>
      simp only [e] at h
      obtain ⟨a, vs, rfl, hq, ra⟩ := k.items q1 e
      exact ⟨a, vs, rfl, hq, new_lst k ra h c⟩
  | _ :: _ :: _, _, h => exact h.elim
theorem sc_listM : SimC K (fun xs H Q => ∃ p ys, xs = [.ref p] ∧ (SqL K H p ys ∨ SqT K H p ys) ∧ ∀ l, H l = none → Q (.ref l) (upd H l (.lst ys))) listMD := by
  intro F H M vs xs Q R k r h c
  match xs, r, h with
  | [], _, h => exact h.elim
  | [x], r, h =>
    obtain ⟨v, rfl, q1⟩ := repL1 r
    unfold listMD at h
    cases e : itemsD M x with
    | none => simp only [e] at h
    | some ds =>
      simp only [e] at h
      obtain ⟨a, vs, rfl, hq, ra⟩ := k.items q1 e
      exact ⟨a, vs, rfl, hq, new_lstM k ra h c⟩
  | _ :: _ :: _, _, h => exact h.elim
end
end DL

set_option Elab.async false
set_option linter.all false
set_option maxRecDepth 100000
set_option maxHeartbeats 4000000
namespace DL
open PySem PySem.Spec PyProof.Rows L2

/-! ### slices -/
def cutD (xs : List D) (lo hi : Option Int) : List D := (xs.drop (HT.sIx xs.length 0 lo)).take (HT.sIx xs.length xs.length hi - HT.sIx xs.length 0 lo)
def dNoPart : TDO := fun _ M Q => Q none M
def dPart (t : TD) : TDO := fun Γ M Q => t Γ M fun x M1 => match x with | .int i => Q (some i) M1 | _ => False
def slD (x : D) (lo hi : Option Int) (M : Mem) (Q : QD) : Prop := match view M x with
  | .lst xs => Q (.lst (cutD xs lo hi)) M
  | .scr xs => Q (.lst (cutD xs lo hi)) M
  | .tup xs => Q (.tup (cutD xs lo hi)) M
  | _ => False
def dSl (a : TD) (l h : TDO) : TD := fun Γ M Q => a Γ M fun x M1 => l Γ M1 fun lo M2 => h Γ M2 fun hi M3 => slD x lo hi M3 Q
def revD (x : D) (M : Mem) (Q : QD) : Prop := match view M x with
  | .lst xs => Q (.lst xs.reverse) M
  | .scr xs => Q (.lst xs.reverse) M
  | _ => False
def revMD (x : D) (M : Mem) (Q : QD) : Prop := match view M x with
  | .lst xs => ∀ p, M p = none → Q (.ref p) (mput M p (.lst xs.reverse))
  | .scr xs => ∀ p, M p = none → Q (.ref p) (mput M p (.lst xs.reverse))
  | _ => False
def dRev (a : TD) : TD := fun Γ M Q => a Γ M fun x M1 => revD x M1 Q
def dRevM (a : TD) : TD := fun Γ M Q => a Γ M fun x M1 => revMD x M1 Q
section
variable {K : PySem.W.Frag} {X : Cx}
theorem RepL.cut {F : Hp} {vs : List V} {ds : List D} (r : RepL K F vs ds) (lo hi : Option Int) : RepL K F (cutV vs lo hi) (cutD ds lo hi) := by
  unfold cutV cutD
  rw [r.length]
  exact (r.drop _).take _
theorem sim_noPart : SimO K tNoPart dNoPart := fun F H M σ Γ Q R k s h c => c none F H M Go.refl k h
theorem sim_part {te : TE} {de : TD} (he : SimE K te de) : SimO K (tPart te) (dPart de) := fun F H M σ Γ Q R k s h c =>
  he F H M σ Γ _ _ k s h fun v F1 H1 M1 x g1 k1 r1 h1 => by
    cases x with
    | int i => cases r1; exact ⟨i, rfl, c _ F1 H1 M1 g1 k1 h1⟩
    | _ => exact h1.elim
def rSlAny (K : PySem.W.Frag) : V → Option Int → Option Int → Hp → VK → Prop := fun x lo hi H Q => rSlL K x lo hi H Q ∨ rSlA K x lo hi H Q
theorem cutD_whole {xs : List D} {lo hi : Option Int} (h : HT.sIx xs.length 0 lo = 0 ∧ HT.sIx xs.length xs.length hi = xs.length) : cutD xs lo hi = xs := by
  unfold cutD
  rw [h.1, h.2, List.drop_zero, Nat.sub_zero, List.take_length]
theorem sim_sl {te : TE} {de : TD} {tl th : TO} {dl dh : TDO} (he : SimE K te de) (hl : SimO K tl dl) (hh : SimO K th dh) : SimE K (tSl (rSlAny K) te tl th) (dSl de dl dh) := fun F H M σ Γ Q R k s h c =>
  he F H M σ Γ _ _ k s h fun v F1 H1 M1 x g1 k1 r1 h1 => hl F1 H1 M1 σ Γ _ _ k1 (s.mono g1.ext) h1 fun lo F2 H2 M2 g2 k2 h2 => hh F2 H2 M2 σ Γ _ _ k2 (s.mono (g1.trans g2).ext) h2 fun hi F3 H3 M3 g3 k3 h3 => by
    have r3 := r1.mono (g2.trans g3).ext
    have c3 := c.go ((g1.trans g2).trans g3)
    unfold slD at h3
    cases e : view M3 x with
    | lst xs =>
      rw [e] at h3
      obtain ⟨a, vs, rfl, ha, ra⟩ := k3.vlst r3 e
      exact .inl ⟨a, vs, rfl, SqL.of ha, new_lst k3 (ra.cut lo hi) h3 c3⟩
    | scr xs =>
      rw [e] at h3
      obtain ⟨a, vs, rfl, ha, ra⟩ := k3.vscr r3 e
      exact .inl ⟨a, vs, rfl, ha, new_lst k3 (ra.cut lo hi) h3 c3⟩
    | tup xs =>
      rw [e] at h3
      obtain ⟨_, a, vs, rfl, fa, ha, ra⟩ := k3.vtup r3 e
      refine .inr ⟨a, vs, rfl, ha, fun hw => ?_, fun _ => new_tup k3 (ra.cut lo hi) h3 c3⟩
      rw [ra.length] at hw
      have h4 : Q (.tup (cutD xs lo hi)) M3 := h3
      rw [cutD_whole hw] at h4
      exact c3 _ F3 H3 M3 _ Go.refl k3 (.tup fa ra) h4
    | _ => rw [e] at h3; exact h3.elim
theorem osl : SlR X (rSlAny X.K) := sl_list.or sl_tupA
theorem sim_rev {te : TE} {de : TD} (he : SimE K te de) : SimE K (tRevL K te) (dRev de) := fun F H M σ Γ Q R k s h c =>
  he F H M σ Γ _ _ k s h fun v F1 H1 M1 x g1 k1 r1 h1 => by
    unfold revD at h1
    cases e : view M1 x with
    | lst xs =>
      rw [e] at h1
      obtain ⟨a, vs, rfl, ha, ra⟩ := k1.vlst r1 e
      exact ⟨a, vs, rfl, SqL.of ha, new_lst k1 ra.rev h1 (c.go g1)⟩
    | scr xs =>
      rw [e] at h1
      obtain ⟨a, vs, rfl, ha, ra⟩ := k1.vscr r1 e
      exact ⟨a, vs, rfl, ha, new_lst k1 ra.rev h1 (c.go g1)⟩
    | _ => rw [e] at h1; exact h1.elim
theorem sim_revM {te : TE} {de : TD} (he : SimE K te de) : SimE K (tRevL K te) (dRevM de) := fun F H M σ Γ Q R k s h c =>
  he F H M σ Γ _ _ k s h fun v F1 H1 M1 x g1 k1 r1 h1 => by
    unfold revMD at h1
    cases e : view M1 x with
    | lst xs =>
      rw [e] at h1
      obtain ⟨a, vs, rfl, ha, ra⟩ := k1.vlst r1 e
      exact ⟨a, vs, rfl, SqL.of ha, new_lstM k1 ra.rev h1 (c.go g1)⟩
    | scr xs =>
      rw [e] at h1
      obtain ⟨a, vs, rfl, ha, ra⟩ := k1.vscr r1 e
      exact ⟨a, vs, rfl, ha, new_lstM k1 ra.rev h1 (c.go g1)⟩
    | _ => rw [e] at h1; exact h1.elim
variable {e : Expr} {te : TE} {de : TD} {lo hi : Option Expr} {tl th : TO} {dl dh : TDO} {pos p2 p1 p3 : Pos} {n : Nat}
theorem pdo_none : PDO X none tNoPart dNoPart := ⟨po_none, sim_noPart⟩
theorem pdo_some (h : PD X e te de) : PDO X (some e) (tPart te) (dPart de) := ⟨po_some h.pe, sim_part h.sim⟩
theorem pd_slice (he : PD X e te de) (hl : PDO X lo tl dl) (hh : PDO X hi th dh) : PD X (.Subscript e (.Slice lo hi none p2) pos) (tSl (rSlAny X.K) te tl th) (dSl de dl dh) := ⟨pe_slice osl he.pe hl.pe hh.pe, sim_sl he.sim hl.sim hh.sim⟩
theorem pd_rev (he : PD X e te de) : PD X (.Subscript e (.Slice none none (some (.UnaryOp .USub (.Constant (.int 1) n p1) p2)) p3) pos) (tRevL X.K te) (dRev de) := ⟨pe_revL he.pe, sim_rev he.sim⟩
theorem pd_revM (he : PD X e te de) : PD X (.Subscript e (.Slice none none (some (.UnaryOp .USub (.Constant (.int 1) n p1) p2)) p3) pos) (tRevL X.K te) (dRevM de) := ⟨pe_revL he.pe, sim_revM he.sim⟩
end

/-! ### attributes -/
/-- the i-th of them -/
def nthN (xs : List D) (i : Nat) (k : D → Prop) : Prop := match xs[i]? with
  | some d => k d
  | none => False
theorem nthN_of {xs : List D} {i : Nat} {k : D → Prop} (h : nthN xs i k) : ∃ d, xs[i]? = some d ∧ k d := by
  unfold nthN at h
  cases e : xs[i]? with
  | none => rw [e] at h; exact h.elim
  | some d => rw [e] at h; exact ⟨d, rfl, h⟩
def fldsD (M : Mem) (x : D) : Option (Addr × List Str × List D) := match x with
  | .obj C ns ds => some (C, ns, ds)
  | .ref a => (match M a with
    | some (.ins C ns ds) => some (C, ns, ds)
    | _ => none)
  | _ => none
/-- e.f, the i-th attribute of the class at C -/
def dFld (C : Addr) (ns : List Str) (i : Nat) (a : TD) : TD := fun Γ M Q => a Γ M fun x M1 => match fldsD M1 x with
  | some (C', ns', ds) => C' = C ∧ ns' = ns ∧ nthN ds i fun d => Q d M1
  | none => False
section
variable {K : PySem.W.Frag} {X : Cx}
theorem flds_of {F H : Hp} {M : Mem} (k : Ok K F H M) {v : V} {x : D} (r : Rep K F v x) {C : Addr} {ns : List Str} {ds : List D} (e : fldsD M x = some (C, ns, ds)) :
    ∃ a dx fs, v = .ref a ∧ H a = some (.ins C dx fs) ∧ fs.map (·.1) = ns ∧ RepL K F (fs.map (·.2)) ds := by
  cases x with
  | obj C' ns' ds' =>
    cases e
    cases r with
    | obj h1 h2 h3 => exact ⟨_, _, _, rfl, k.sub _ _ h1, h2, h3⟩
  | ref a =>
    cases r
    unfold fldsD at e
    cases q : M a with
    | none => simp only [q] at e; cases e
    | some o =>
      simp only [q] at e
      cases o with
      | ins C' ns' ds' =>
        cases e
        obtain ⟨_, dx, fs, h1, h2, h3⟩ := k.mem a _ q
        exact ⟨a, dx, fs, rfl, h1, h2, h3⟩
      | _ => cases e
  | _ => cases e
theorem lookup_ix {α : Type} : ∀ {fs : List (Str × α)} {i : Nat} {f : Str} {v : α}, (fs.map (·.1)).idxOf? f = some i → (fs.map (·.2))[i]? = some v → fs.lookup f = some v
  | [], _, _, _, h, _ => by simp [List.idxOf?] at h
  | (g, x) :: fs, i, f, v, h, hv => by
    rw [List.map_cons, List.idxOf?_cons] at h
    rw [List.lookup_cons]
    by_cases e : g = f
    · have e1 : (g == f) = true := beq_iff_eq.mpr e
      have e2 : (f == g) = true := beq_iff_eq.mpr e.symm
      simp only [e1, if_true] at h
      cases h
      rw [e2]
      simpa using hv
    · have e1 : (g == f) = false := beq_eq_false_iff_ne.mpr e
      have e2 : (f == g) = false := beq_eq_false_iff_ne.mpr (fun q => e q.symm)
      simp only [e1, Bool.false_eq_true, if_false] at h
      rw [e2]
      cases q : (fs.map (·.1)).idxOf? f with
      | none => rw [q] at h; cases h
      | some j =>
        rw [q] at h
        cases h
        exact lookup_ix q (by simpa using hv)
theorem sim_fld {C : Addr} {ns : List Str} {i : Nat} {f : Str} {ta : TE} {da : TD} (cl : Cls K C) (na : NoAttr K C f) (hi : ns.idxOf? f = some i) (ha : SimE K ta da) : SimE K (tFld K ta f) (dFld C ns i da) := fun F H M σ Γ Q R k s h c =>
  ha F H M σ Γ _ _ k s h fun v F1 H1 M1 x g1 k1 r1 h1 => by
    cases e : fldsD M1 x with
    | none => simp only [e] at h1
    | some z =>
      obtain ⟨C', ns', ds⟩ := z
      simp only [e] at h1
      obtain ⟨rfl, rfl, h1⟩ := h1
      obtain ⟨d, e1, h1⟩ := nthN_of h1
      obtain ⟨a, dx, fs, rfl, e2, e3, rf⟩ := flds_of k1 r1 e
      obtain ⟨w, e4, rw'⟩ := rf.get e1
      exact ⟨a, C', dx, fs, w, rfl, e2, cl, na, lookup_ix (by rw [e3]; exact hi) e4, c _ F1 H1 M1 _ g1 k1 rw' h1⟩
theorem pd_fld {C : Addr} {ns : List Str} {i : Nat} {f : Str} {e : Expr} {ta : TE} {da : TD} {pos : Pos} (cl : Cls X.K C) (na : NoAttr X.K C f) (hi : ns.idxOf? f = some i) (ha : PD X e ta da) (hb : attributeBase e f X.env (eval e X.env) = eval e X.env := by rfl) :
    PD X (.Attribute e f pos) (tFld X.K ta f) (dFld C ns i da) := ⟨pe_fld ha.pe hb, sim_fld cl na hi ha.sim⟩
end

/-! ### statements -/
def dNext : TDS := fun E Γ M => E.nx Γ M
def dSeq (t u : TDS) : TDS := fun E Γ M => t { E with nx := u E } Γ M
def dBreak : TDS := fun E Γ M => E.bk Γ M
def dCont : TDS := fun E Γ M => E.ct Γ M
def dDrop (a : TD) : TDS := fun E Γ M => a Γ M fun _ M1 => E.nx Γ M1
def dRet (a : TD) : TDS := fun E Γ M => a Γ M E.rt
def dRetN : TDS := fun E _ M => E.rt .non M
def dIfS (t : TDT) (u w : TDS) : TDS := fun E Γ M => t Γ M fun b M1 => if b = true then u E Γ M1 else w E Γ M1
def dNever : TDS := fun _ _ _ => False
def dgName (i : Nat) : TDG := fun d Γ M Q => Q (Γ.set i (some d)) M
def dgNil : TDGs := fun xs Γ M Q => xs = [] ∧ Q Γ M
def dgCons (g : TDG) (u : TDGs) : TDGs := fun xs Γ M Q => match xs with
  | [] => False
  | x :: r => g x Γ M fun Γ1 M1 => u r Γ1 M1 Q
def dgTup (n : Nat) (u : TDGs) : TDG := fun x Γ M Q => match x with
  | .tup xs => xs.length = n ∧ u xs Γ M Q
  | _ => False
def dAsg (a : TD) (g : TDG) : TDS := fun E Γ M => a Γ M fun x M1 => g x Γ M1 E.nx
/-- names = values, side by side -/
def setMany : List Nat → List D → DE → DE
  | i :: is, d :: ds, Γ => setMany is ds (Γ.set i (some d))
  | _, _, Γ => Γ
def dPar (is : List Nat) (a : TDA) : TDS := fun E Γ M => a Γ M fun xs M1 => xs.length = is.length ∧ E.nx (setMany is xs Γ) M1
def dAug (i : Nat) (r : R2D) (a : TD) : TDS := fun E Γ M => look Γ i fun x => a Γ M fun y M1 => r x y M1 fun z M2 => E.nx (Γ.set i (some z)) M2
section
variable {K : PySem.W.Frag} {X : Cx} {st : Stmt} {rest : List Stmt} {t u : TS} {dt du : TDS} {e : Expr} {te : TE} {de : TD} {pos : Pos}
theorem sim_next : SimS K tNext dNext := fun F H M σ Γ E D k s h n r b c => n σ F H M Γ Go.refl k s h
theorem sim_seq (ht : SimS K t dt) (hu : SimS K u du) : SimS K (tSeq t u) (dSeq dt du) := fun F H M σ Γ E D k s h n r b c =>
  ht F H M σ Γ { E with nx := du E } { D with nx := u D } k s h (fun σ1 F1 H1 M1 Γ1 g1 k1 s1 h1 => hu F1 H1 M1 σ1 Γ1 E D k1 s1 h1 (n.go g1) (r.go g1) (b.go g1) (c.go g1)) r b c
theorem pdss_nil : PDSs X [] tNext dNext := ⟨pss_nil, sim_next⟩
theorem pdss_cons (h1 : PDS X st t dt) (h2 : PDSs X rest u du) : PDSs X (st :: rest) (tSeq t u) (dSeq dt du) := ⟨pss_cons h1.pe h2.pe, sim_seq h1.sim h2.sim⟩
theorem pdss_one (h1 : PDS X st t dt) : PDSs X [st] t dt := ⟨pss_one h1.pe, h1.sim⟩
theorem pds_pass : PDS X (.Pass pos) tNext dNext := ⟨ps_pass, sim_next⟩
theorem pds_break : PDS X (.Break pos) tBreak dBreak := ⟨ps_break, fun F H M σ Γ E D k s h n r b c => b σ F H M Γ Go.refl k s h⟩
theorem pds_continue : PDS X (.Continue pos) tCont dCont := ⟨ps_continue, fun F H M σ Γ E D k s h n r b c => c σ F H M Γ Go.refl k s h⟩
theorem sim_drop (he : SimE K te de) : SimS K (tDrop te) (dDrop de) := fun F H M σ Γ E D k s h n r b c =>
  he F H M σ Γ _ _ k s h fun v F1 H1 M1 x g1 k1 r1 h1 => n σ F1 H1 M1 Γ g1 k1 (s.mono g1.ext) h1
theorem sim_ret (he : SimE K te de) : SimS K (tRet te) (dRet de) := fun F H M σ Γ E D k s h n r b c => he F H M σ Γ _ _ k s h r
theorem sim_ifS {tc : TT} {dc : TDT} (hc : SimT K tc dc) (ht : SimS K t dt) (hu : SimS K u du) : SimS K (tIfS tc t u) (dIfS dc dt du) := fun F H M σ Γ E D k s h n r b c =>
  hc F H M σ Γ _ _ k s h fun z F1 H1 M1 g1 k1 h1 => by
    cases z with
    | true => rw [if_pos rfl] at h1 ⊢; exact ht F1 H1 M1 σ Γ E D k1 (s.mono g1.ext) h1 (n.go g1) (r.go g1) (b.go g1) (c.go g1)
    | false => rw [if_neg Bool.false_ne_true] at h1 ⊢; exact hu F1 H1 M1 σ Γ E D k1 (s.mono g1.ext) h1 (n.go g1) (r.go g1) (b.go g1) (c.go g1)
theorem pds_expr (he : PD X e te de) (hs : swapsWith e none pos.line X.env = pure false := by rfl) : PDS X (.Expr e pos) (tDrop te) (dDrop de) := ⟨ps_expr he.pe hs, sim_drop he.sim⟩
theorem pds_ret (he : PD X e te de) : PDS X (.Return (some e) pos) (tRet te) (dRet de) := ⟨ps_ret he.pe, sim_ret he.sim⟩
theorem pds_retN : PDS X (.Return none pos) tRetN dRetN := ⟨ps_retN, fun F H M σ Γ E D k s h n r b c => r _ F H M _ Go.refl k .non h⟩
theorem pds_if {c : Expr} {a b : List Stmt} {tc : TT} {dc : TDT} (hc : PDT X c tc dc) (ha : PDSs X a t dt) (hb : PDSs X b u du) : PDS X (.If c a b pos) (tIfS tc t u) (dIfS dc dt du) := ⟨ps_if hc.pe ha.pe hb.pe, sim_ifS hc.sim ha.sim hb.sim⟩
theorem pds_never : PDS X st tNever dNever := ⟨ps_never, fun F H M σ Γ E D k s h n r b c => h.elim⟩
theorem pdss_never {sts : List Stmt} : PDSs X sts tNever dNever := ⟨pss_never, fun F H M σ Γ E D k s h n r b c => h.elim⟩
theorem sim_gName {i : Nat} : SimG K (gName i) (dgName i) := fun F H M v x σ Γ Q R k s r h c => c _ F H M _ Go.refl k (s.set i r) h
theorem pdg_name {i : Nat} {x : Str} (p : PG X (.Name x pos) (gName i)) : PDG X (.Name x pos) (gName i) (dgName i) := ⟨p, sim_gName⟩
theorem sim_gNil : SimGs K gNil dgNil := fun F H M vs xs σ Γ Q R k s r h c => by
  obtain ⟨rfl, h⟩ := h
  cases r
  exact ⟨rfl, c _ F H M _ Go.refl k s h⟩
theorem sim_gCons {g : TG} {dg : TDG} {w : TGs} {dw : TDGs} (hg : SimG K g dg) (hw : SimGs K w dw) : SimGs K (gCons g w) (dgCons dg dw) := fun F H M vs xs σ Γ Q R k s r h c => by
  cases r with
  | nil => exact h.elim
  | cons r t =>
    refine ⟨_, _, rfl, hg F H M _ _ σ Γ _ _ k s r h fun σ1 F1 H1 M1 Γ1 g1 k1 s1 h1 => ?_⟩
    exact hw F1 H1 M1 _ _ σ1 Γ1 _ _ k1 s1 (t.mono g1.ext) h1 (c.go g1)
theorem sim_gTup {n : Nat} {w : TGs} {dw : TDGs} (hw : SimGs K w dw) : SimG K (gTup K n w) (dgTup n dw) := fun F H M v x σ Γ Q R k s r h c => by
  cases x with
  | tup xs =>
    cases r with
    | tup h1 h2 => exact ⟨_, _, rfl, k.sub.sqT h1, by rw [h2.length]; exact h.1, hw F H M _ _ σ Γ Q R k s h2 h.2 c⟩
  | _ => exact h.elim
theorem pdgs_nil : PDGs X [] gNil dgNil := ⟨pgs_nil, sim_gNil⟩
theorem pdgs_cons {es : List Expr} {g : TG} {dg : TDG} {w : TGs} {dw : TDGs} (h1 : PDG X e g dg) (h2 : PDGs X es w dw) (hs : (assignEach (e :: es) X.env).map (·.2) = assign e X.env :: (assignEach es X.env).map (·.2) := by rfl) : PDGs X (e :: es) (gCons g w) (dgCons dg dw) :=
  ⟨pgs_cons h1.pe h2.pe hs, sim_gCons h1.sim h2.sim⟩
theorem pdg_tup {es : List Expr} {k : Nat} {w : TGs} {dw : TDGs} {n : Nat} (hc : X.calm = true) (h : PDGs X es w dw) (hn : (assignEach es X.env).length = n := by rfl) (hst : (assignEach es X.env).findIdx? (·.1) = none := by rfl) : PDG X (.Tuple es k pos) (gTup X.K n w) (dgTup n dw) :=
  ⟨pg_tup hc h.pe hn hst, sim_gTup h.sim⟩
theorem sim_asg {g : TG} {dg : TDG} (he : SimE K te de) (hg : SimG K g dg) : SimS K (tAsg te g) (dAsg de dg) := fun F H M σ Γ E D k s h n r b c =>
  he F H M σ Γ _ _ k s h fun v F1 H1 M1 x g1 k1 r1 h1 => hg F1 H1 M1 v x σ Γ _ _ k1 (s.mono g1.ext) r1 h1 (n.go g1)
theorem pds_asg {tg : Expr} {g : TG} {dg : TDG} (he : PD X e te de) (hg : PDG X tg g dg) (hs : swapsWithSole [tg] e pos.line X.env = pure false := by rfl) (hw : swappedStores [tg] e X.env = pure none := by rfl)
    (h1 : (assignEach [tg] X.env).map (·.2) = [assign tg X.env] := by rfl) : PDS X (.Assign [tg] e pos) (tAsg te g) (dAsg de dg) := ⟨ps_asg he.pe hg.pe hs hw h1, sim_asg he.sim hg.sim⟩
theorem pds_set {i : Nat} {x : Str} {pos' : Pos} (hN : X.N.Nodup) (hi : X.N[i]? = some x) (hx : Loc X.env.scope x) (he : PD X e te de) (hs : swapsWith e (some (.Name x pos')) pos.line X.env = pure false := by rfl) (hf : X.fn x = true ∨ X.env.scope.names.lookup x = some .local := by first | exact .inl rfl | exact .inr rfl | assumption) :
    PDS X (.Assign [.Name x pos'] e pos) (tAsg te (gName i)) (dAsg de (dgName i)) := ⟨ps_set hN hi hx he.pe hs hf, sim_asg he.sim sim_gName⟩
theorem sim_par2 {i j : Nat} {ta : TA} {da : TDA} (ha : SimA K ta da) : SimS K (tPar i j ta) (dPar [i, j] da) := fun F H M σ Γ E D k s h n r b c =>
  ha F H M σ Γ _ _ k s h fun vs F1 H1 M1 xs g1 k1 r1 h1 => by
    obtain ⟨hl, h1⟩ := h1
    cases r1 with
    | nil => cases hl
    | cons ra rt =>
      cases rt with
      | nil => cases hl
      | cons rb rt =>
        cases rt with
        | nil => exact ⟨_, _, rfl, n _ F1 H1 M1 _ g1 k1 (((s.mono g1.ext).set i ra).set j rb) h1⟩
        | cons _ _ => simp at hl
theorem sim_par3 {i j l : Nat} {ta : TA} {da : TDA} (ha : SimA K ta da) : SimS K (tPar3 i j l ta) (dPar [i, j, l] da) := fun F H M σ Γ E D k s h n r b c =>
  ha F H M σ Γ _ _ k s h fun vs F1 H1 M1 xs g1 k1 r1 h1 => by
    obtain ⟨hl, h1⟩ := h1
    cases r1 with
    | nil => cases hl
    | cons ra rt =>
      cases rt with
      | nil => cases hl
      | cons rb rt =>
        cases rt with
        | nil => simp at hl
        | cons rc rt =>
          cases rt with
          | nil => exact ⟨_, _, _, rfl, n _ F1 H1 M1 _ g1 k1 ((((s.mono g1.ext).set i ra).set j rb).set l rc) h1⟩
          | cons _ _ => simp at hl
theorem pds_par {i j : Nat} {x y : Str} {a b : Expr} {ta : TA} {da : TDA} {px py pt : Pos} {kt k2 pt2} (p : PS X (.Assign [.Tuple [.Name x px, .Name y py] kt pt] (.Tuple [a, b] k2 pt2) pos) (tPar i j ta)) (ha : SimA X.K ta da) :
    PDS X (.Assign [.Tuple [.Name x px, .Name y py] kt pt] (.Tuple [a, b] k2 pt2) pos) (tPar i j ta) (dPar [i, j] da) := ⟨p, sim_par2 ha⟩
theorem pds_par3 {i j l : Nat} {x y z : Str} {a b c : Expr} {ta : TA} {da : TDA} {px py pz pt : Pos} {kt k2 pt2} (p : PS X (.Assign [.Tuple [.Name x px, .Name y py, .Name z pz] kt pt] (.Tuple [a, b, c] k2 pt2) pos) (tPar3 i j l ta)) (ha : SimA X.K ta da) :
    PDS X (.Assign [.Tuple [.Name x px, .Name y py, .Name z pz] kt pt] (.Tuple [a, b, c] k2 pt2) pos) (tPar3 i j l ta) (dPar [i, j, l] da) := ⟨p, sim_par3 ha⟩
end

/-! ### stores: xs[i] = v, o.f = v, methods of a list -/
def setLD (o i v : D) (M : Mem) (Q : Mem → Prop) : Prop := match o, i with
  | .ref p, .int k => (match M p with
    | some (.lst xs) => (match ixN xs.length k with
      | some j => Q (mput M p (.lst (xs.set j v)))
      | none => False)
    | _ => False)
  | _, _ => False
def dgSub (o i : TD) : TDG := fun v Γ M Q => o Γ M fun x M1 => i Γ M1 fun y M2 => setLD x y v M2 fun M3 => Q Γ M3
/-- a new attribute | one that is there -/
def dSetNew (C : Addr) (f : Str) (o a : TD) : TDS := fun E Γ M => a Γ M fun y M1 => o Γ M1 fun x M2 => match x with
  | .ref p => (match M2 p with
    | some (.ins C' ns ds) => C' = C ∧ ns.length < 1000 ∧ ns.contains f = false ∧ E.nx Γ (mput M2 p (.ins C (ns ++ [f]) (ds ++ [y])))
    | _ => False)
  | _ => False
def dSetOld (C : Addr) (ns0 : List Str) (i : Nat) (o a : TD) : TDS := fun E Γ M => a Γ M fun y M1 => o Γ M1 fun x M2 => match x with
  | .ref p => (match M2 p with
    | some (.ins C' ns ds) => C' = C ∧ ns = ns0 ∧ E.nx Γ (mput M2 p (.ins C ns (ds.set i y)))
    | _ => False)
  | _ => False
def appD (x : D) (xs : List D) (M : Mem) (Q : QD) : Prop := match x, xs with
  | .ref p, [y] => (match M p with
    | some (.lst ds) => ds.length < sizeLine ∧ Q .non (mput M p (.lst (ds ++ [y])))
    | _ => False)
  | _, _ => False
def extD (x : D) (xs : List D) (M : Mem) (Q : QD) : Prop := match x, xs with
  | .ref p, [y] => (match M p, view M y with
    | some (.lst ds), .lst es => ds.length + es.length ≤ sizeLine ∧ Q .non (mput M p (.lst (ds ++ es)))
    | _, _ => False)
  | _, _ => False
def popD (x : D) (xs : List D) (M : Mem) (Q : QD) : Prop := match x, xs with
  | .ref p, [] => (match M p with
    | some (.lst ds) => nthN ds (ds.length - 1) fun y => Q y (mput M p (.lst ds.dropLast))
    | _ => False)
  | _, _ => False
def popAtD (x : D) (xs : List D) (M : Mem) (Q : QD) : Prop := match x, xs with
  | .ref p, [.int i] => (match M p with
    | some (.lst ds) => -(2 ^ 63) ≤ i ∧ i < 2 ^ 63 ∧ (match seqIndex? i ds.length with
      | some k => nthN ds k fun y => Q y (mput M p (.lst (ds.eraseIdx k)))
      | none => False)
    | _ => False)
  | _, _ => False
def isLstD (M : Mem) (x : D) : Prop := match view M x with
  | .lst _ => True
  | _ => False
def dBM (r : D → List D → Mem → QD → Prop) (o : TD) (a : TDA) : TD := fun Γ M Q => o Γ M fun x M1 => isLstD M1 x ∧ a Γ M1 fun xs M2 => r x xs M2 Q
def dBM0 (r : D → List D → Mem → QD → Prop) (o : TD) : TD := fun Γ M Q => o Γ M fun x M1 => isLstD M1 x ∧ r x [] M1 Q
section
variable {K : PySem.W.Frag} {X : Cx}
theorem Ok.writeL {F H : Hp} {M : Mem} (k : Ok K F H M) {p : Addr} {m0 : MO} (h : M p = some m0) {vs : List V} {ds : List D} (r : RepL K F vs ds) : Ok K F (upd H p (.lst vs)) (mput M p (.lst ds)) := k.write (m := .lst ds) h ⟨vs, upd_same, r⟩
theorem Ok.writeI {F H : Hp} {M : Mem} (k : Ok K F H M) {p C dx : Addr} {m0 : MO} (h : M p = some m0) {fs : List (Str × V)} {ns : List Str} {ds : List D} (hn : fs.map (·.1) = ns) (r : RepL K F (fs.map (·.2)) ds) : Ok K F (upd H p (.ins C dx fs)) (mput M p (.ins C ns ds)) := k.write (m := .ins C ns ds) h ⟨dx, fs, upd_same, hn, r⟩
theorem sim_gSub {to ti : TE} {do_ di : TD} (ho : SimE K to do_) (hi : SimE K ti di) : SimG K (gSub to ti rSetL) (dgSub do_ di) := fun F H M v x σ Γ Q R k s r h c =>
  ho F H M σ Γ _ _ k s h fun vo F1 H1 M1 o g1 k1 r1 h1 => hi F1 H1 M1 σ Γ _ _ k1 (s.mono g1.ext) h1 fun vi F2 H2 M2 i g2 k2 r2 h2 => by
    have g := g1.trans g2
    have r1' := r1.mono g2.ext
    unfold setLD at h2
    cases o with
    | ref p =>
      cases i with
      | int z =>
        cases r1'
        cases r2
        cases e : M2 p with
        | none => simp only [e] at h2
        | some m =>
          cases m with
          | lst xs =>
            simp only [e] at h2
            obtain ⟨_, vs, hv, rv⟩ := k2.mem p _ e
            cases ej : ixN xs.length z with
            | none => simp only [ej] at h2
            | some j =>
              simp only [ej] at h2
              refine ⟨p, vs, z, j, rfl, rfl, hv, by rw [rv.length]; exact ej, ?_⟩
              have rr := RepL.set j (r.mono g.ext) rv
              exact c σ F2 _ _ Γ (g.trans (k2.goW e _ _)) (k2.writeL e rr) (s.mono g.ext) h2
          | _ => simp only [e] at h2
      | _ => exact h2.elim
    | _ => exact h2.elim
theorem pdg_sub {o i : Expr} {to ti : TE} {do_ di : TD} {pos : Pos} (ho : PD X o to do_) (hi : PD X i ti di)
    (ha : ∀ v, assign (.Subscript o i pos) X.env v = (do
      let ov ← holding [v] (eval o X.env)
      let iv ← holding [v, ov] (eval i X.env)
      standAt pos
      holding [v, ov, iv] (setItem ov iv v)
      release [v, ov, iv] []) := by intro _; rfl) : PDG X (.Subscript o i pos) (gSub to ti rSetL) (dgSub do_ di) := ⟨pg_sub ho.pe hi.pe set_list ha, sim_gSub ho.sim hi.sim⟩
theorem putF_new {f : Str} {v : V} : ∀ {fs : List (Str × V)}, (fs.map (·.1)).contains f = false → putF f v fs = fs ++ [(f, v)]
  | [], _ => rfl
  | (g, x) :: r, h => by
    rw [List.map_cons, List.contains_cons, Bool.or_eq_false_iff] at h
    have ne : ¬ g = f := fun q => by subst q; simp at h
    show (if g = f then (g, v) :: r else (g, x) :: putF f v r) = _
    rw [if_neg ne, putF_new h.2]
    rfl
theorem putF_old {f : Str} {v : V} : ∀ {fs : List (Str × V)} {i : Nat}, (fs.map (·.1)).idxOf? f = some i → (putF f v fs).map (·.1) = fs.map (·.1) ∧ (putF f v fs).map (·.2) = (fs.map (·.2)).set i v
  | [], _, h => by simp [List.idxOf?] at h
  | (g, x) :: r, i, h => by
    rw [List.map_cons, List.idxOf?_cons] at h
    by_cases e : g = f
    · have e1 : (g == f) = true := beq_iff_eq.mpr e
      simp only [e1, if_true] at h
      cases h
      show (((if g = f then (g, v) :: r else (g, x) :: putF f v r) : List (Str × V)).map (·.1) = _) ∧ (((if g = f then (g, v) :: r else (g, x) :: putF f v r) : List (Str × V)).map (·.2) = _)
      rw [if_pos e]
      exact ⟨rfl, rfl⟩
    · have e1 : (g == f) = false := beq_eq_false_iff_ne.mpr e
      simp only [e1, Bool.false_eq_true, if_false] at h
      cases q : (r.map (·.1)).idxOf? f with
      | none => rw [q] at h; cases h
      | some j =>
        rw [q] at h
        cases h
        obtain ⟨q1, q2⟩ := putF_old (v := v) q
        show (((if g = f then (g, v) :: r else (g, x) :: putF f v r) : List (Str × V)).map (·.1) = _) ∧ (((if g = f then (g, v) :: r else (g, x) :: putF f v r) : List (Str × V)).map (·.2) = _)
        rw [if_neg e]
        exact ⟨by rw [List.map_cons, q1]; rfl, by rw [List.map_cons, q2]; rfl⟩
theorem sim_setNew {C : Addr} {f : Str} {to ta : TE} {do_ da : TD} (cl : Cls K C) (na : NoAttr K C f) (ho : SimE K to do_) (ha : SimE K ta da) : SimS K (sFld K to ta f) (dSetNew C f do_ da) := fun F H M σ Γ E D k s h n r b c =>
  ha F H M σ Γ _ _ k s h fun v F1 H1 M1 y g1 k1 r1 h1 => ho F1 H1 M1 σ Γ _ _ k1 (s.mono g1.ext) h1 fun vo F2 H2 M2 x g2 k2 r2 h2 => by
    have g := g1.trans g2
    cases x with
    | ref p =>
      cases r2
      cases e : M2 p with
      | none => simp only [e] at h2
      | some m =>
        cases m with
        | ins C' ns ds =>
          simp only [e] at h2
          obtain ⟨rfl, hz, hn, h2⟩ := h2
          obtain ⟨_, dx, fs, e1, e2, rf⟩ := k2.mem p _ e
          refine ⟨p, C', dx, fs, rfl, e1, cl, na, ?_, ?_⟩
          · have q := congrArg List.length e2
            rw [List.length_map] at q
            omega
          · have pe : putF f v fs = fs ++ [(f, v)] := putF_new (by rw [e2]; exact hn)
            rw [pe]
            refine n σ F2 _ _ Γ (g.trans (k2.goW e _ _)) (k2.writeI e (by rw [List.map_append, e2]; rfl) ?_) (s.mono g.ext) h2
            rw [List.map_append]
            exact rf.append (.cons (r1.mono g2.ext) .nil)
        | _ => simp only [e] at h2
    | _ => exact h2.elim
theorem sim_setOld {C : Addr} {ns0 : List Str} {i : Nat} {f : Str} {to ta : TE} {do_ da : TD} (cl : Cls K C) (na : NoAttr K C f) (hi : ns0.idxOf? f = some i) (hlen : ns0.length < 1000) (ho : SimE K to do_) (ha : SimE K ta da) : SimS K (sFld K to ta f) (dSetOld C ns0 i do_ da) := fun F H M σ Γ E D k s h n r b c =>
  ha F H M σ Γ _ _ k s h fun v F1 H1 M1 y g1 k1 r1 h1 => ho F1 H1 M1 σ Γ _ _ k1 (s.mono g1.ext) h1 fun vo F2 H2 M2 x g2 k2 r2 h2 => by
    have g := g1.trans g2
    cases x with
    | ref p =>
      cases r2
      cases e : M2 p with
      | none => simp only [e] at h2
      | some m =>
        cases m with
        | ins C' ns ds =>
          simp only [e] at h2
          obtain ⟨rfl, rfl, h2⟩ := h2
          obtain ⟨_, dx, fs, e1, e2, rf⟩ := k2.mem p _ e
          obtain ⟨q1, q2⟩ := putF_old (v := v) (fs := fs) (by rw [e2]; exact hi)
          refine ⟨p, C', dx, fs, rfl, e1, cl, na, ?_, ?_⟩
          · have q := congrArg List.length e2
            rw [List.length_map] at q
            omega
          · refine n σ F2 _ _ Γ (g.trans (k2.goW e _ _)) (k2.writeI e (by rw [q1, e2]) ?_) (s.mono g.ext) h2
            rw [q2]
            exact RepL.set i (r1.mono g2.ext) rf
        | _ => simp only [e] at h2
    | _ => exact h2.elim
theorem pds_setNew {C : Addr} {f : Str} {o e : Expr} {to ta : TE} {do_ da : TD} {pos pos' : Pos} (cl : Cls X.K C) (na : NoAttr X.K C f) (ho : PD X o to do_) (ha : PD X e ta da) (hs : swapsWith e (some (.Attribute o f pos')) pos.line X.env = pure false := by rfl) :
    PDS X (.Assign [.Attribute o f pos'] e pos) (sFld X.K to ta f) (dSetNew C f do_ da) := ⟨ps_fld ho.pe ha.pe hs, sim_setNew cl na ho.sim ha.sim⟩
theorem pds_setOld {C : Addr} {ns0 : List Str} {i : Nat} {f : Str} {o e : Expr} {to ta : TE} {do_ da : TD} {pos pos' : Pos} (cl : Cls X.K C) (na : NoAttr X.K C f) (hi : ns0.idxOf? f = some i) (hlen : ns0.length < 1000) (ho : PD X o to do_) (ha : PD X e ta da) (hs : swapsWith e (some (.Attribute o f pos')) pos.line X.env = pure false := by rfl) :
    PDS X (.Assign [.Attribute o f pos'] e pos) (sFld X.K to ta f) (dSetOld C ns0 i do_ da) := ⟨ps_fld ho.pe ha.pe hs, sim_setOld cl na hi hlen ho.sim ha.sim⟩
theorem RepL.dropLast {F : Hp} : ∀ {vs : List V} {ds : List D}, RepL K F vs ds → RepL K F vs.dropLast ds.dropLast
  | _, _, .nil => .nil
  | _, _, .cons r .nil => .nil
  | _, _, .cons r (.cons r2 t) => .cons r (RepL.dropLast (.cons r2 t))
theorem sm_app : SimM K rAppend appD := fun F H M v vs x xs Q R k r1 r2 h c => by
  unfold appD at h
  cases x with
  | ref p =>
    cases r1
    match xs, r2, h with
    | [], _, h => exact h.elim
    | [y], r2, h =>
      obtain ⟨w, rfl, q2⟩ := repL1 r2
      cases e : M p with
      | none => simp only [e] at h
      | some m =>
        cases m with
        | lst ds =>
          simp only [e] at h
          obtain ⟨_, us, hv, rv⟩ := k.mem p _ e
          exact ⟨p, us, w, rfl, rfl, hv, by rw [rv.length]; exact h.1, c _ F _ _ _ (k.goW e _ _) (k.writeL e (rv.append (.cons q2 .nil))) .non h.2⟩
        | _ => simp only [e] at h
    | _ :: _ :: _, _, h => exact h.elim
  | _ => exact h.elim
theorem sm_pop : SimM K rPop popD := fun F H M v vs x xs Q R k r1 r2 h c => by
  unfold popD at h
  cases x with
  | ref p =>
    cases r1
    match xs, r2, h with
    | [], r2, h =>
      cases r2
      cases e : M p with
      | none => simp only [e] at h
      | some m =>
        cases m with
        | lst ds =>
          simp only [e] at h
          obtain ⟨_, us, hv, rv⟩ := k.mem p _ e
          obtain ⟨y, e1, h⟩ := nthN_of h
          obtain ⟨w, e2, rw'⟩ := rv.get e1
          exact ⟨p, us, w, rfl, rfl, hv, by rw [rv.length]; exact e2, c _ F _ _ _ (k.goW e _ _) (k.writeL e rv.dropLast) rw' h⟩
        | _ => simp only [e] at h
    | _ :: _, _, h => exact h.elim
  | _ => exact h.elim
theorem sm_popAt : SimM K rPopAt popAtD := fun F H M v vs x xs Q R k r1 r2 h c => by
  unfold popAtD at h
  cases x with
  | ref p =>
    cases r1
    match xs, r2, h with
    | [], _, h => exact h.elim
    | [y], r2, h =>
      obtain ⟨w, rfl, q2⟩ := repL1 r2
      cases y with
      | int i =>
        cases q2
        cases e : M p with
        | none => simp only [e] at h
        | some m =>
          cases m with
          | lst ds =>
            simp only [e] at h
            obtain ⟨b1, b2, h⟩ := h
            obtain ⟨_, us, hv, rv⟩ := k.mem p _ e
            cases ej : seqIndex? i ds.length with
            | none => simp only [ej] at h
            | some j =>
              simp only [ej] at h
              obtain ⟨y, e1, h⟩ := nthN_of h
              obtain ⟨w, e2, rw'⟩ := rv.get e1
              exact ⟨p, us, i, j, w, rfl, rfl, hv, b1, b2, by rw [rv.length]; exact ej, e2, c _ F _ _ _ (k.goW e _ _) (k.writeL e (rv.erase j)) rw' h⟩
          | _ => simp only [e] at h
      | _ => exact h.elim
    | y :: _ :: _, _, h => cases y <;> exact h.elim
  | _ => exact h.elim
theorem isLst_of {F H : Hp} {M : Mem} (k : Ok K F H M) {v : V} {x : D} (r : Rep K F v x) (h : isLstD M x) : tyV K "list" v H := by
  unfold isLstD at h
  cases e : view M x with
  | lst ds =>
    obtain ⟨a, vs, rfl, ha, _⟩ := k.vlst r e
    exact .inl ⟨rfl, vs, SqL.of ha⟩
  | _ => rw [e] at h; exact h.elim
theorem sim_bm {r : V → List V → Hp → VK → Prop} {dr : D → List D → Mem → QD → Prop} {to : TE} {do_ : TD} {ta : TA} {da : TDA} (hr : SimM K r dr) (ho : SimE K to do_) (ha : SimA K ta da) : SimE K (tBM K "list" r to ta) (dBM dr do_ da) := fun F H M σ Γ Q R k s h c =>
  ho F H M σ Γ _ _ k s h fun v F1 H1 M1 x g1 k1 r1 h1 => ⟨isLst_of k1 r1 h1.1, ha F1 H1 M1 σ Γ _ _ k1 (s.mono g1.ext) h1.2 fun vs F2 H2 M2 xs g2 k2 r2 h2 =>
    hr F2 H2 M2 v vs x xs Q R k2 (r1.mono g2.ext) r2 h2 ((c.go g1).go g2)⟩
theorem sim_bm0 {r : V → List V → Hp → VK → Prop} {dr : D → List D → Mem → QD → Prop} {to : TE} {do_ : TD} (hr : SimM K r dr) (ho : SimE K to do_) : SimE K (tBM0 K "list" r to) (dBM0 dr do_) := fun F H M σ Γ Q R k s h c =>
  ho F H M σ Γ _ _ k s h fun v F1 H1 M1 x g1 k1 r1 h1 => ⟨isLst_of k1 r1 h1.1, hr F1 H1 M1 v [] x [] Q R k1 r1 .nil h1.2 (c.go g1)⟩
variable {o e : Expr} {es : List Expr} {to : TE} {do_ : TD} {ta : TA} {da : TDA} {apos cpos : Pos}
theorem pd_app (p : PE X (.Call (.Attribute o "append" apos) (e :: es) [] cpos) (tBM X.K "list" rAppend to ta)) (ho : SimE X.K to do_) (ha : SimA X.K ta da) : PD X (.Call (.Attribute o "append" apos) (e :: es) [] cpos) (tBM X.K "list" rAppend to ta) (dBM appD do_ da) := ⟨p, sim_bm sm_app ho ha⟩
theorem pd_popAt (p : PE X (.Call (.Attribute o "pop" apos) (e :: es) [] cpos) (tBM X.K "list" rPopAt to ta)) (ho : SimE X.K to do_) (ha : SimA X.K ta da) : PD X (.Call (.Attribute o "pop" apos) (e :: es) [] cpos) (tBM X.K "list" rPopAt to ta) (dBM popAtD do_ da) := ⟨p, sim_bm sm_popAt ho ha⟩
theorem pd_pop (p : PE X (.Call (.Attribute o "pop" apos) [] [] cpos) (tBM0 X.K "list" rPop to)) (ho : SimE X.K to do_) : PD X (.Call (.Attribute o "pop" apos) [] [] cpos) (tBM0 X.K "list" rPop to) (dBM0 popD do_) := ⟨p, sim_bm0 sm_pop ho⟩
end
end DL

set_option Elab.async false
set_option linter.all false
set_option maxRecDepth 100000
set_option maxHeartbeats 4000000
/-! enumerate over a tuple, over a list or a tuple. -/
namespace DL
open PySem PySem.Spec PyProof.Rows L2

theorem meets_enum_one {v : Value} {o : Obj} {H : Heap → Prop} (B : Begins v o H) :
    Meets (Builtin.«enumerate.__new__» ⟨[.type "enumerate", v], []⟩) (fun _ R s => H s.heap ∧
      R (.ok (.ret (.ref (s.heap.push o).objs.size))) { s with heap := (s.heap.push o).push { cls := .type "enumerate", data := .fields #[.none, .bool false, .ref s.heap.objs.size, rawInt 0, .none, .none] } }) :=
  .of_wp fun prog w A R s h => by
    obtain ⟨hp, g, d, tk, os⟩ := s; obtain ⟨h1, h⟩ := h
    have hsub := sub_enumerate
    have q1 : ∀ {A' : Around} {E : Value → Shared → Prop} {Q : Value → Shared → Prop}, Q (.ref hp.objs.size) ⟨hp.push o, g, d, tk, os⟩ → wpAny (model prog w) A' (pyIter v) Q E ⟨hp, g, d, tk, os⟩ :=
      fun q => B.iter prog w _ _ ⟨hp, g, d, tk, os⟩ _ h1 q
    wp_walk using q1
    refine wpAny_stack_any fun st => wpAny_pure ?_
    split
    · rename_i c _ _ _ _ _
      cases (c == Value.type "enumerate")
      · wp_walk using q1
        exact ⟨_, rfl, h⟩
      · wp_walk using q1
        exact ⟨_, rfl, h⟩
    · wp_walk using q1
      exact ⟨_, rfl, h⟩
section
variable {prog : Program} {w : World} {A : Around} {E : Value → Shared → Prop} {s : Shared}
theorem enum_one {v : Value} {o : Obj} {H : Heap → Prop} {Q : Value → Shared → Prop} (B : Begins v o H) (h1 : H s.heap)
    (h : ∀ h', IsEnum h' (s.heap.objs.size + 1) s.heap.objs.size 0 .none → h'.get? s.heap.objs.size = some o → h'.objs.size = s.heap.objs.size + 2 →
      (∀ b o, s.heap.get? b = some o → h'.get? b = some o) → Q (.ref (s.heap.objs.size + 1)) { s with heap := h' }) :
    wpAny (model prog w) A (call (.type "enumerate") [v]) Q E s := by
  refine callType_new F.called_enumerate (by decide) (F.typeCall_enumerate_1 _) (F.newCall_enumerate_1 _) (fun obj => F.args_object_init_2 obj _) F.entry_enumerate_new
    (meets_enum_one B) ⟨h1, ?_⟩
  have hz : (s.heap.push o).objs.size = s.heap.objs.size + 1 := Heap.size_push ..
  show _ ∧ _
  rw [hz]
  have he : IsEnum ((s.heap.push o).push { cls := .type "enumerate", data := .fields #[.none, .bool false, .ref s.heap.objs.size, rawInt 0, .none, .none] }) (s.heap.objs.size + 1) s.heap.objs.size 0 .none := by
    have := Heap.get?_push_size (s.heap.push o) (o := { cls := .type "enumerate", data := .fields #[.none, .bool false, .ref s.heap.objs.size, rawInt 0, .none, .none] }) rfl
    rw [hz] at this; exact this
  refine ⟨⟨_, he, rfl⟩, h _ he (Heap.get?_push_of_some _ (Heap.get?_push_size _ B.free)) (by rw [Heap.size_push, hz]) fun b o x => Heap.get?_push_of_some _ (Heap.get?_push_of_some _ x)⟩
end

/-- the tuple at a, each item in a new pair -/
def IteT (K : PySem.W.Frag) (a : Addr) : It :=
  ⟨fun i H => ∃ (xs : List V) (x : V), SqT K H a xs ∧ xs[i]? = some x, fun i H v H' => ∃ T x, v = .ref T ∧ H T = none ∧ H' = upd H T (.tup [.int (i : Nat), x]) ∧ ∀ xs, SqT K H a xs → xs[i]? = some x, fun i H => ∃ xs : List V, SqT K H a xs ∧ xs.length ≤ i⟩
theorem turn_enumT {P : Program} {w : World} {K : PySem.W.Frag} {elts : List Expr} {kk : Nat} {tpos : Pos} (a e it : Addr) (hai : a ≠ it) :
    Turn P w K (.Tuple elts kk tpos) (IteT K a) [e, it] e (fun i h => (∃ old, IsEnum h e it ((i : Nat) : Int) old) ∧ h.IsTupleIter it a i ∧ e ≠ it) where
  mem := by simp
  obj := fun i h st b hb => by
    obtain ⟨⟨old, he⟩, ⟨o, ho, hc, hd⟩, _⟩ := st
    have e' : b = e ∨ b = it := by simpa using hb
    rcases e' with z | z
    · rw [z]; exact ⟨_, he, fun v q => nomatch q⟩
    · rw [z]; exact ⟨o, ho, fun v q => by rw [hd] at q; cases q⟩
  keep := fun i h h' st k => let ⟨⟨old, he⟩, hi, hne⟩ := st; ⟨⟨old, k e (by simp) _ he⟩, hi.at fun o q => k it (by simp) o q, hne⟩
  item := by
    intro X hP hw hK hc i pins s σ H E I hf st hg
    subst hP hw hK
    obtain ⟨⟨old, he⟩, hit, hne⟩ := st
    obtain ⟨xs, x, hq, hx⟩ := hg
    obtain ⟨its, rv, p, hz⟩ := I.tuple hq
    obtain ⟨u, hu, ru⟩ := rv.get hx
    have hel : e < s.heap.objs.size := Heap.lt_size he
    have hil : it < s.heap.objs.size := by obtain ⟨_, q, _⟩ := hit; exact Heap.lt_size q
    have hlt : i < its.toArray.size := by
      have q := (List.getElem?_eq_some_iff.mp hu).1
      simpa using q
    refine wpAny_pyNext_enum_itemD (A := X.A) (fp := [it, a]) (Draws.tuple (A := X.A.in1) (I.ok.hd hc) it a hai its.toArray) he ⟨hit, show s.heap.IsTuple a its.toArray from p⟩ hlt hne (by
      intro z
      have z' : e = it ∨ e = a := by simpa using z
      rcases z' with z | z
      · exact hne z
      · obtain ⟨o2, h1, h2, _⟩ := p
        rw [← z] at h1
        rw [he] at h1
        have q := Option.some.inj h1
        rw [← q] at h2
        exact absurd (Value.type.inj h2) (by decide)) fun v h' tk hv ho hst hT hsz hk => ?_
    have hv' : v = u := by
      have q : its.toArray[i]? = some u := by simpa using hu
      have hv2 : its.toArray[i]? = some v := hv
      rw [q] at hv2
      exact (Option.some.inj hv2).symm
    subst hv'
    refine ⟨_, rfl, wpAny_letOwnedTupleGo_enum (s := { s with heap := h', toks := tk + 1 }) ho fun h'' he' sb => ?_⟩
    have hT2 : h''.get? s.heap.objs.size = some { cls := .type "tuple", data := .seq #[.int i tk, v] } := (sb.2 _ (Nat.ne_of_gt hel)).trans hT
    have new : ObjOk X.prog X.w (upd H s.heap.objs.size (.tup [.int (i : Nat), x])) h'' s.heap.objs.size (.tup [.int (i : Nat), x]) :=
      ⟨by show 2 ≤ sizeLine; decide, [.int i tk, v], .cons ⟨_, rfl⟩ (.cons ru .nil), ⟨_, hT2, rfl, _, rfl⟩⟩
    have I1 : Inv X pins σ (upd H s.heap.objs.size (.tup [.int (i : Nat), x])) { s with heap := h'', toks := tk + 1 } :=
      I.turnedNew (ch := [e, it]) (fun b ob hb q => (sb.2 b (fun z => hb (by simp [z]))).trans (hk b ob (fun z => hb (by simp [z])) (fun z => hb (by simp [z])) q)) hf (Nat.le_refl _) new
    refine ⟨.ref s.heap.objs.size, _, I1, rfl, ⟨_, x, rfl, I.hok.fresh (Nat.le_refl _), rfl, fun ys hy => by rw [I.tuple_inj hy hq]; exact hx⟩, ⟨⟨v, ?_⟩, hst.1.at fun o q => (sb.2 it (Ne.symm hne)).trans q, hne⟩, fun b hb => ?_⟩
    · have e1 : ((i + 1 : Nat) : Int) = (i : Int) + 1 := by omega
      rw [e1]; exact he'
    · have hb' : b < s.heap.objs.size := by
        have e' : b = e ∨ b = it := by simpa using hb
        rcases e' with z | z
        · rw [z]; exact hel
        · rw [z]; exact hil
      rw [upd_ne (Nat.ne_of_lt hb')]
      exact (hf b hb).1
  done := by
    intro X hP hw hK hc i pins s σ H E I hf st hg
    subst hP hw hK
    obtain ⟨⟨old, he⟩, hit, hne⟩ := st
    obtain ⟨xs, hq, hx⟩ := hg
    obtain ⟨its, rv, p, hz⟩ := I.tuple hq
    obtain ⟨f0, f1, f2, f3, f4, f5⟩ := hf it (by simp)
    have hl := rv.length
    have hT : s.TypeIs (.ref e) "enumerate" := ⟨_, he, rfl⟩
    unfold pyNext
    refine wpAny_bind (wpAny_attempt (wpAny_callSpecial?_slot (name := Str.ofString "__next__") hT F.slot_enumerate_next
      (wpAny_call_entry F.slot_enumerate_next hT F.entry_enumerate_next ?_ (F.args_enumerate_next_1 _))))
    show wpAny _ _ (field (.ref e) 2 >>= _) _ _ _
    refine wpAny_bind (wpAny_field he rfl (x := .ref it) rfl ?_)
    refine wpAny_bind (wpAny_nextOf_tuple_end (I.ok.hd hc) hit (show s.heap.IsTuple a its.toArray from p) (by simp; omega) fun h' x he' hx' => ?_)
    obtain ⟨o, ho, hc'⟩ := hx'
    refine wpAny_bind (wpAny_isInstance (T := "StopIteration") (b := true) ⟨o, ho, hc'⟩ isSubtype_stop ?_)
    exact wpAny_pure ⟨rfl, I.turned (t' := s.toks) (fun b o hb q => he' b o hb q) f0 f1 f3 f4 f5⟩
  self := fun A i s Q E st h => let ⟨⟨_, he⟩, _⟩ := st; wpAny_pyIter_enum he h
def iEnumA (K : PySem.W.Frag) (ta : TA) : TI := fun σ H R => ta σ H fun vs H1 => ∃ a xs, vs = [.ref a] ∧ ((SqL K H1 a xs ∧ R (Ite K a) H1) ∨ (SqT K H1 a xs ∧ R (IteT K a) H1))
theorem pi_enumA {X : Cx} {e : Expr} {ta : TA} {p pos tpos : Pos} {elts : List Expr} {kk : Nat} (hg : Gl X "enumerate") (hm : X.mg "enumerate" = none) (ha : PA X [e] ta) (hs : starEach [e] X.env = [(false, eval e X.env)] := by rfl) :
    PI X (.Tuple elts kk tpos) (.Call (.Name "enumerate" p) [e] [] pos) (iEnumA X.K ta) := by
  refine ⟨fun pins s σ H R I h => ?_⟩
  refine Call_ (ld_blt I hg hm boot_enumerate (PyProof.Rows.callWith_type1 (thn (ha.run pos pins s σ H _ I h) fun us s1 ⟨vs, H1, I1, r1, q1⟩ => ?_) hs rfl))
  obtain ⟨a, xs, ex, q1⟩ := q1
  subst ex
  cases r1 with
  | cons r rr =>
    cases rr
    cases r
    rcases q1 with ⟨hq, q⟩ | ⟨hq, q⟩
    · obtain ⟨its, rv, p', hz⟩ := I1.list hq
      refine call_enumerate_list p'.isList fun h' he hit hsz hk => wpAny_pyIter_enum he ?_
      have I2 : Inv X pins σ H1 { s1 with heap := h' } := I1.kept (t' := s1.toks) hk
      refine ⟨s1.heap.objs.size + 1, [s1.heap.objs.size + 1, s1.heap.objs.size], _, _, H1, rfl, I2, turn_enum a (s1.heap.objs.size + 1) s1.heap.objs.size, ⟨⟨.none, he⟩, hit, Nat.succ_ne_self _⟩, fun b hb => ?_, q⟩
      have e' : b = s1.heap.objs.size + 1 ∨ b = s1.heap.objs.size := by simpa using hb
      have hle : s1.heap.objs.size ≤ b := by
        rcases e' with z | z
        · rw [z]; exact Nat.le_add_right _ _
        · rw [z]; exact Nat.le_refl _
      exact I1.fpOk hle (I1.hok.fresh hle)
    · obtain ⟨its, rv, p', hz⟩ := I1.tuple hq
      have la : a < s1.heap.objs.size := by obtain ⟨o, h1, _⟩ := p'; exact Heap.lt_size h1
      refine enum_one (begins_tuple a its.toArray) p' fun h' he hit hsz hk => wpAny_pyIter_enum he ?_
      have I2 : Inv X pins σ H1 { s1 with heap := h' } := I1.kept (t' := s1.toks) hk
      refine ⟨s1.heap.objs.size + 1, [s1.heap.objs.size + 1, s1.heap.objs.size], _, _, H1, rfl, I2, turn_enumT a (s1.heap.objs.size + 1) s1.heap.objs.size (Nat.ne_of_lt la), ⟨⟨.none, he⟩, ⟨_, hit, rfl, rfl⟩, Nat.succ_ne_self _⟩, fun b hb => ?_, q⟩
      have e' : b = s1.heap.objs.size + 1 ∨ b = s1.heap.objs.size := by simpa using hb
      have hle : s1.heap.objs.size ≤ b := by
        rcases e' with z | z
        · rw [z]; exact Nat.le_add_right _ _
        · rw [z]; exact Nat.le_refl _
      exact I1.fpOk hle (I1.hok.fresh hle)
theorem walk_enumT {K : PySem.W.Frag} {a : Addr} {xs : List V} : Walk (IteT K a) xs.length (fun H => SqT K H a xs) (YPair (fun i => some (.int (i : Nat))) (fun i => xs[i]?)) := by
  refine ⟨fun i _ hi q => ⟨xs, xs[i], q, by simp [hi]⟩, fun _ q => ⟨xs, q, Nat.le_refl _⟩, fun i H v H' _ q y => ?_⟩
  obtain ⟨T, x, h1, h2, h3, h4⟩ := y
  exact ⟨T, .int (i : Nat), x, h1, h2, h3, rfl, h4 xs q⟩

/-- a walk over a list or a tuple -/
def iAny (K : PySem.W.Frag) (tl : TE) : TI := fun σ H R => tl σ H fun x H1 => ∃ a xs, x = .ref a ∧ ((SqL K H1 a xs ∧ R (Itl K a) H1) ∨ (SqT K H1 a xs ∧ R (Itt K a) H1))
theorem pi_any {X : Cx} {tg l : Expr} {tl : TE} (hl : PE X l tl) : PI X tg l (iAny X.K tl) := by
  refine ⟨fun pins s σ H R I h => ?_⟩
  refine thn (hl.run pins s σ H _ I h) fun v s1 ⟨x, H1, I1, r1, q1⟩ => ?_
  obtain ⟨a, xs, e, q1⟩ := q1
  subst e
  rcases q1 with ⟨hq, q⟩ | ⟨hq, q⟩
  · have h0 : PI X tg l (iList X.K (tC (.ref a))) → True := fun _ => trivial
    cases r1
    obtain ⟨its, _, p, _⟩ := I1.list hq
    refine wpAny_pyIter_list p.isList ?_
    have I2 : Inv X pins σ H1 { s1 with heap := s1.heap.push { cls := .type "list_iterator", data := .fields #[.ref a, .int 0 0] } } := I1.kept (t' := s1.toks) fun b u e => Heap.get?_push_of_some _ e
    refine ⟨s1.heap.objs.size, [s1.heap.objs.size], _, _, H1, rfl, I2, turn_list a s1.heap.objs.size, ⟨_, Heap.get?_push_size _ rfl, rfl, rfl⟩, fun b hb => ?_, q⟩
    have e : b = s1.heap.objs.size := by simpa using hb
    subst e
    exact I1.fpOk (Nat.le_refl _) (I1.hok.fresh (Nat.le_refl _))
  · cases r1
    obtain ⟨its, _, p, _⟩ := I1.tuple hq
    refine wpAny_pyIter_tuple (show s1.heap.IsTuple a its.toArray from p) ?_
    have I2 : Inv X pins σ H1 { s1 with heap := s1.heap.push { cls := .type "tuple_iterator", data := .fields #[.ref a, .int 0 0] } } := I1.kept (t' := s1.toks) fun b u e => Heap.get?_push_of_some _ e
    refine ⟨s1.heap.objs.size, [s1.heap.objs.size], _, _, H1, rfl, I2, turn_tuple a s1.heap.objs.size, ⟨_, Heap.get?_push_size _ rfl, rfl, rfl⟩, fun b hb => ?_, q⟩
    have e : b = s1.heap.objs.size := by simpa using hb
    subst e
    exact I1.fpOk (Nat.le_refl _) (I1.hok.fresh (Nat.le_refl _))
end DL

set_option Elab.async false
set_option linter.all false
set_option maxRecDepth 100000
set_option maxHeartbeats 4000000
namespace DL
open PySem PySem.Spec PyProof.Rows L2

/-! ### what is walked -/
/-- the walk J gives the data ds, one behind another, while grd holds of what may change -/
structure Feeds (K : PySem.W.Frag) (F0 : Hp) (J : It) (ds : List D) (grd : Mem → Prop) : Prop where
  goes : ∀ F H M i, Ex F0 F → Ok K F H M → grd M → i < ds.length → J.go i H
  stops : ∀ F H M, Ex F0 F → Ok K F H M → grd M → J.stop ds.length H
  yields : ∀ F H M i x H', Ex F0 F → Ok K F H M → grd M → i < ds.length → J.yld i H x H' → ∃ F' d, ds[i]? = some d ∧ Go F H M F' H' M ∧ Ok K F' H' M ∧ Rep K F' x d
abbrev TDI := DE → Mem → (List D → (Mem → Prop) → Mem → Prop) → Prop
def SimI (K : PySem.W.Frag) (wi : TI) (di : TDI) : Prop := ∀ F H M σ Γ P R, Ok K F H M → SRel K F σ Γ → di Γ M P →
  (∀ J F1 H1 M1 ds grd, Go F H M F1 H1 M1 → Ok K F1 H1 M1 → Feeds K F1 J ds grd → P ds grd M1 → R J H1) → wi σ H R
structure PDI (X : Cx) (tg iter : Expr) (wi : TI) (di : TDI) : Prop where
  pe : PI X tg iter wi
  sim : SimI X.K wi di
def noGrd : Mem → Prop := fun _ => True
/-- a list or a tuple -/
def srcD (x : D) (M : Mem) (P : List D → (Mem → Prop) → Mem → Prop) : Prop := match x with
  | .lst xs => P xs noGrd M
  | .scr xs => P xs noGrd M
  | .tup xs => P xs noGrd M
  | .ref a => (match M a with
    | some (.lst xs) => P xs (fun M' => M' a = some (.lst xs)) M
    | _ => False)
  | _ => False
def diAny (a : TD) : TDI := fun Γ M P => a Γ M fun x M1 => srcD x M1 P
def rngD (lo : Int) (n : Nat) : List D := (List.range n).map fun i => D.int (lo + (i : Nat))
def diRng1 (a : TDA) : TDI := fun Γ M P => a Γ M fun xs M1 => match xs with
  | [.int j] => (-(2 ^ 62) ≤ j ∧ j < 2 ^ 62) ∧ P (rngD 0 j.toNat) noGrd M1
  | _ => False
def diRng2 (a : TDA) : TDI := fun Γ M P => a Γ M fun xs M1 => match xs with
  | [.int i, .int j] => (-(2 ^ 62) ≤ i ∧ i < 2 ^ 62 ∧ -(2 ^ 62) ≤ j ∧ j < 2 ^ 62) ∧ P (rngD i (j - i).toNat) noGrd M1
  | _ => False
def enumD (xs : List D) : List D := (List.range xs.length).map fun i => D.tup [.int (i : Nat), xs.getD i .non]
def diEnum (a : TDA) : TDI := fun Γ M P => a Γ M fun xs M1 => match xs with
  | [x] => srcD x M1 fun ds grd M2 => P (enumD ds) grd M2
  | _ => False
def zipD (xs ys : List D) : List D := List.zipWith (fun x y => D.tup [x, y]) xs ys
def diZip (a : TDA) : TDI := fun Γ M P => a Γ M fun xs M1 => match xs with
  | [.lst xs, .lst ys] => P (zipD xs ys) noGrd M1
  | [.tup xs, .tup ys] => P (zipD xs ys) noGrd M1
  | _ => False
section
variable {K : PySem.W.Frag} {X : Cx}
theorem feeds_lst {F0 : Hp} {a : Addr} {vs : List V} {ds : List D} (h : ∀ F H M, Ex F0 F → Ok K F H M → SqL K H a vs) (r : RepL K F0 vs ds) : Feeds K F0 (Itl K a) ds noGrd := by
  have w := walk_list (K := K) (a := a) (xs := vs)
  refine ⟨fun F H M i e k _ hi => w.goes i H (by rw [r.length]; exact hi) (h F H M e k), fun F H M e k _ => by rw [← r.length]; exact w.stops H (h F H M e k), fun F H M i x H' e k _ hi y => ?_⟩
  obtain ⟨rfl, hx⟩ := w.yields i H x H' (by rw [r.length]; exact hi) (h F H M e k) y
  obtain ⟨d, hd, rd⟩ := r.get' hx
  exact ⟨F, d, hd, Go.refl, k, rd.mono e⟩
theorem feeds_mut {F0 : Hp} {a : Addr} {vs : List V} {ds : List D} (r : RepL K F0 vs ds) : Feeds K F0 (Itl K a) ds (fun M => M a = some (.lst ds)) := by
  have get : ∀ F H M, Ok K F H M → M a = some (.lst ds) → ∃ ws, SqL K H a ws ∧ RepL K F ws ds := fun F H M k h => by
    obtain ⟨_, ws, h1, h2⟩ := k.mem a _ h
    exact ⟨ws, SqL.of h1, h2⟩
  refine ⟨fun F H M i e k g hi => ?_, fun F H M e k g => ?_, fun F H M i x H' e k g hi y => ?_⟩
  · obtain ⟨ws, h1, h2⟩ := get F H M k g
    exact (walk_list (K := K) (a := a) (xs := ws)).goes i H (by rw [h2.length]; exact hi) h1
  · obtain ⟨ws, h1, h2⟩ := get F H M k g
    rw [← h2.length]
    exact (walk_list (K := K) (a := a) (xs := ws)).stops H h1
  · obtain ⟨ws, h1, h2⟩ := get F H M k g
    obtain ⟨rfl, hx⟩ := (walk_list (K := K) (a := a) (xs := ws)).yields i H x H' (by rw [h2.length]; exact hi) h1 y
    obtain ⟨d, hd, rd⟩ := h2.get' hx
    exact ⟨F, d, hd, Go.refl, k, rd⟩
theorem feeds_tup {F0 : Hp} {a : Addr} {vs : List V} {ds : List D} (h : SqT K F0 a vs) (r : RepL K F0 vs ds) : Feeds K F0 (Itt K a) ds noGrd := by
  have w := walk_tup (K := K) (a := a) (xs := vs)
  have q : ∀ F H M, Ex F0 F → Ok K F H M → SqT K H a vs := fun F H M e k => k.sub.sqT (e.sqT h)
  refine ⟨fun F H M i e k _ hi => w.goes i H (by rw [r.length]; exact hi) (q F H M e k), fun F H M e k _ => by rw [← r.length]; exact w.stops H (q F H M e k), fun F H M i x H' e k _ hi y => ?_⟩
  obtain ⟨rfl, hx⟩ := w.yields i H x H' (by rw [r.length]; exact hi) (q F H M e k) y
  obtain ⟨d, hd, rd⟩ := r.get' hx
  exact ⟨F, d, hd, Go.refl, k, rd.mono e⟩
theorem rngD_get {lo : Int} {n i : Nat} (h : i < n) : (rngD lo n)[i]? = some (.int (lo + (i : Nat))) := by
  unfold rngD
  rw [List.getElem?_map, List.getElem?_range h]
  rfl
theorem rngD_length {lo : Int} {n : Nat} : (rngD lo n).length = n := by unfold rngD; simp
theorem feeds_rng {F0 : Hp} {lo : Int} {n : Nat} : Feeds K F0 (Itr lo n) (rngD lo n) noGrd := by
  have w := walk_range (lo := lo) (n := n)
  refine ⟨fun F H M i e k _ hi => w.goes i H (by rwa [rngD_length] at hi) trivial, fun F H M e k _ => by rw [rngD_length]; exact w.stops H trivial, fun F H M i x H' e k _ hi y => ?_⟩
  rw [rngD_length] at hi
  obtain ⟨rfl, rfl⟩ := w.yields i H x H' hi trivial y
  exact ⟨F, _, rngD_get hi, Go.refl, k, .int _⟩
theorem pair_new {F H H' : Hp} {M : Mem} {T : Addr} {x y : V} {dx dy : D} (k : Ok K F H M) (hT : H T = none) (hH : H' = upd H T (.tup [x, y])) (rx : Rep K F x dx) (ry : Rep K F y dy) : ∃ F', Go F H M F' H' M ∧ Ok K F' H' M ∧ Rep K F' (.ref T) (.tup [dx, dy]) := by
  subst hH
  have g := k.goF hT (.tup [x, y])
  exact ⟨_, g, k.newF hT _, .tup (SqT.of upd_same) (.cons (rx.mono g.ext) (.cons (ry.mono g.ext) .nil))⟩
theorem enumD_length {ds : List D} : (enumD ds).length = ds.length := by unfold enumD; simp
theorem enumD_get {ds : List D} {i : Nat} {d : D} (h : ds[i]? = some d) : (enumD ds)[i]? = some (.tup [.int (i : Nat), d]) := by
  have hi := (List.getElem?_eq_some_iff.mp h).1
  unfold enumD
  rw [List.getElem?_map, List.getElem?_range hi]
  simp [List.getD, h]
theorem feeds_enumL {F0 : Hp} {a : Addr} {grd : Mem → Prop} {ds : List D} (h : ∀ F H M, Ex F0 F → Ok K F H M → grd M → ∃ vs, SqL K H a vs ∧ RepL K F vs ds) : Feeds K F0 (Ite K a) (enumD ds) grd := by
  refine ⟨fun F H M i e k g hi => ?_, fun F H M e k g => ?_, fun F H M i x H' e k g hi y => ?_⟩
  · obtain ⟨vs, h1, h2⟩ := h F H M e k g
    rw [enumD_length] at hi
    exact (walk_enum (K := K) (a := a) (xs := vs)).goes i H (by rw [h2.length]; exact hi) h1
  · obtain ⟨vs, h1, h2⟩ := h F H M e k g
    rw [enumD_length, ← h2.length]
    exact (walk_enum (K := K) (a := a) (xs := vs)).stops H h1
  · obtain ⟨vs, h1, h2⟩ := h F H M e k g
    rw [enumD_length] at hi
    obtain ⟨T, x1, x2, rfl, hT, hH, e1, e2⟩ := (walk_enum (K := K) (a := a) (xs := vs)).yields i H x H' (by rw [h2.length]; exact hi) h1 y
    cases e1
    obtain ⟨d, hd, rd⟩ := h2.get' e2
    obtain ⟨F', g', k', r'⟩ := pair_new k hT hH (.int (i : Nat)) rd
    exact ⟨F', _, enumD_get hd, g', k', r'⟩
theorem feeds_enumT {F0 : Hp} {a : Addr} {vs : List V} {ds : List D} (h : SqT K F0 a vs) (r : RepL K F0 vs ds) : Feeds K F0 (IteT K a) (enumD ds) noGrd := by
  have w := walk_enumT (K := K) (a := a) (xs := vs)
  have q : ∀ F H M, Ex F0 F → Ok K F H M → SqT K H a vs := fun F H M e k => k.sub.sqT (e.sqT h)
  refine ⟨fun F H M i e k _ hi => w.goes i H (by rw [r.length]; rwa [enumD_length] at hi) (q F H M e k), fun F H M e k _ => by rw [enumD_length, ← r.length]; exact w.stops H (q F H M e k), fun F H M i x H' e k _ hi y => ?_⟩
  rw [enumD_length] at hi
  obtain ⟨T, x1, x2, rfl, hT, hH, e1, e2⟩ := w.yields i H x H' (by rw [r.length]; exact hi) (q F H M e k) y
  cases e1
  obtain ⟨d, hd, rd⟩ := r.get' e2
  obtain ⟨F', g', k', r'⟩ := pair_new k hT hH (.int (i : Nat)) (rd.mono e)
  exact ⟨F', _, enumD_get hd, g', k', r'⟩
theorem sim_diAny {tl : TE} {dl : TD} (hl : SimE K tl dl) : SimI K (iAny K tl) (diAny dl) := fun F H M σ Γ P R k s h c =>
  hl F H M σ Γ _ _ k s h fun v F1 H1 M1 x g1 k1 r1 h1 => by
    cases x with
    | lst xs =>
      cases r1 with
      | lst ha ra => exact ⟨_, _, rfl, .inl ⟨SqL.of (k1.sub _ _ ha), c _ F1 H1 M1 _ _ g1 k1 (feeds_lst (fun F' H' M' e k' => SqL.of (k'.sub _ _ (e _ _ ha))) ra) h1⟩⟩
    | scr xs =>
      cases r1 with
      | scr ha ra => exact ⟨_, _, rfl, .inl ⟨k1.sub.sqL ha, c _ F1 H1 M1 _ _ g1 k1 (feeds_lst (fun F' H' M' e k' => k'.sub.sqL (e.sqL ha)) ra) h1⟩⟩
    | tup xs =>
      cases r1 with
      | tup ha ra => exact ⟨_, _, rfl, .inr ⟨k1.sub.sqT ha, c _ F1 H1 M1 _ _ g1 k1 (feeds_tup ha ra) h1⟩⟩
    | ref a =>
      cases r1
      unfold srcD at h1
      cases e : M1 a with
      | none => simp only [e] at h1
      | some m =>
        cases m with
        | lst xs =>
          simp only [e] at h1
          obtain ⟨_, vs, hv, rv⟩ := k1.mem a _ e
          exact ⟨a, vs, rfl, .inl ⟨SqL.of hv, c _ F1 H1 M1 _ _ g1 k1 (feeds_mut rv) h1⟩⟩
        | _ => simp only [e] at h1
    | _ => exact h1.elim
theorem sim_diRng1 {ta : TA} {da : TDA} (ha : SimA K ta da) : SimI K (iRng1 ta) (diRng1 da) := fun F H M σ Γ P R k s h c =>
  ha F H M σ Γ _ _ k s h fun vs F1 H1 M1 xs g1 k1 r1 h1 => by
    match xs, r1, h1 with
    | [], _, h1 => exact h1.elim
    | [x], r1, h1 =>
      obtain ⟨v, rfl, q1⟩ := repL1 r1
      cases x with
      | int j => cases q1; exact ⟨j, rfl, h1.1.1, h1.1.2, c _ F1 H1 M1 _ _ g1 k1 feeds_rng h1.2⟩
      | _ => exact h1.elim
    | x :: _ :: _, _, h1 => cases x <;> exact h1.elim
theorem sim_diRng2 {ta : TA} {da : TDA} (ha : SimA K ta da) : SimI K (iRng2 ta) (diRng2 da) := fun F H M σ Γ P R k s h c =>
  ha F H M σ Γ _ _ k s h fun vs F1 H1 M1 xs g1 k1 r1 h1 => by
    match xs, r1, h1 with
    | [], _, h1 => exact h1.elim
    | [x], _, h1 => cases x <;> exact h1.elim
    | [x, y], r1, h1 =>
      obtain ⟨v, w, rfl, q1, q2⟩ := repL2 r1
      cases x with
      | int i =>
        cases y with
        | int j => cases q1; cases q2; exact ⟨i, j, rfl, h1.1, c _ F1 H1 M1 _ _ g1 k1 feeds_rng h1.2⟩
        | _ => exact h1.elim
      | _ => exact h1.elim
    | x :: y :: _ :: _, _, h1 => cases x <;> first | exact h1.elim | (cases y <;> exact h1.elim)
theorem sim_diEnum {ta : TA} {da : TDA} (ha : SimA K ta da) : SimI K (iEnumA K ta) (diEnum da) := fun F H M σ Γ P R k s h c =>
  ha F H M σ Γ _ _ k s h fun vs F1 H1 M1 xs g1 k1 r1 h1 => by
    match xs, r1, h1 with
    | [], _, h1 => exact h1.elim
    | [x], r1, h1 =>
      obtain ⟨v, rfl, q1⟩ := repL1 r1
      cases x with
      | lst xs =>
        cases q1 with
        | lst ha ra => exact ⟨_, _, rfl, .inl ⟨SqL.of (k1.sub _ _ ha), c _ F1 H1 M1 _ _ g1 k1 (feeds_enumL fun F' H' M' e k' _ => ⟨_, SqL.of (k'.sub _ _ (e _ _ ha)), ra.mono e⟩) h1⟩⟩
      | scr xs =>
        cases q1 with
        | scr ha ra => exact ⟨_, _, rfl, .inl ⟨k1.sub.sqL ha, c _ F1 H1 M1 _ _ g1 k1 (feeds_enumL fun F' H' M' e k' _ => ⟨_, k'.sub.sqL (e.sqL ha), ra.mono e⟩) h1⟩⟩
      | tup xs =>
        cases q1 with
        | tup ha ra => exact ⟨_, _, rfl, .inr ⟨k1.sub.sqT ha, c _ F1 H1 M1 _ _ g1 k1 (feeds_enumT ha ra) h1⟩⟩
      | ref a =>
        cases q1
        have h1 : srcD (.ref a) M1 fun ds grd M2 => P (enumD ds) grd M2 := h1
        unfold srcD at h1
        cases e : M1 a with
        | none => simp only [e] at h1
        | some m =>
          cases m with
          | lst xs =>
            simp only [e] at h1
            obtain ⟨_, vs, hv, rv⟩ := k1.mem a _ e
            exact ⟨a, vs, rfl, .inl ⟨SqL.of hv, c _ F1 H1 M1 _ _ g1 k1 (feeds_enumL fun F' H' M' e' k' g' => by
              obtain ⟨_, ws, h3, h4⟩ := k'.mem a _ g'
              exact ⟨ws, SqL.of h3, h4⟩) h1⟩⟩
          | _ => simp only [e] at h1
      | _ => exact h1.elim
    | _ :: _ :: _, _, h1 => exact h1.elim
theorem zipD_length {xs ys : List D} : (zipD xs ys).length = min xs.length ys.length := by unfold zipD; simp
theorem zipD_get {xs ys : List D} {i : Nat} {x y : D} (h1 : xs[i]? = some x) (h2 : ys[i]? = some y) : (zipD xs ys)[i]? = some (.tup [x, y]) := by
  unfold zipD
  rw [List.getElem?_zipWith, h1, h2]
theorem sim_diZip {ta : TA} {da : TDA} (ha : SimA K ta da) : SimI K (RZ.iZipA K ta) (diZip da) := fun F H M σ Γ P R k s h c =>
  ha F H M σ Γ _ _ k s h fun vs F1 H1 M1 xs g1 k1 r1 h1 => by
    match xs, r1, h1 with
    | [], _, h1 => exact h1.elim
    | [x], _, h1 => cases x <;> exact h1.elim
    | [x, y], r1, h1 =>
      obtain ⟨v, w, rfl, q1, q2⟩ := repL2 r1
      cases x with
      | lst xs =>
        cases y with
        | lst ys =>
          cases q1 with
          | @lst a us _ ha ra =>
            cases q2 with
            | @lst b ws _ hb rb =>
              refine ⟨_, _, _, _, rfl, .inl ⟨SqL.of (k1.sub _ _ ha), SqL.of (k1.sub _ _ hb), c _ F1 H1 M1 _ _ g1 k1 ?_ h1⟩⟩
              have wz := walk_zip (K := K) (a := a) (b := b) (xs := us) (ys := ws) (n := min us.length ws.length) rfl
              have el : (zipD xs ys).length = min us.length ws.length := by rw [zipD_length, ra.length, rb.length]
              have q : ∀ F H M, Ex F1 F → Ok K F H M → SqL K H a us ∧ SqL K H b ws := fun F H M e k => ⟨SqL.of (k.sub _ _ (e _ _ ha)), SqL.of (k.sub _ _ (e _ _ hb))⟩
              refine ⟨fun F H M i e k _ hi => wz.goes i H (by rw [← el]; exact hi) (q F H M e k), fun F H M e k _ => by rw [el]; exact wz.stops H (q F H M e k), fun F H M i x H' e k _ hi y => ?_⟩
              obtain ⟨T, x1, x2, rfl, hT, hH, e1, e2⟩ := wz.yields i H x H' (by rw [← el]; exact hi) (q F H M e k) y
              obtain ⟨d1, hd1, rd1⟩ := ra.get' e1
              obtain ⟨d2, hd2, rd2⟩ := rb.get' e2
              obtain ⟨F', g', k', r'⟩ := pair_new k hT hH (rd1.mono e) (rd2.mono e)
              exact ⟨F', _, zipD_get hd1 hd2, g', k', r'⟩
        | _ => exact h1.elim
      | tup xs =>
        cases y with
        | tup ys =>
          cases q1 with
          | @tup a us _ ha ra =>
            cases q2 with
            | @tup b ws _ hb rb =>
              refine ⟨_, _, _, _, rfl, .inr ⟨k1.sub.sqT ha, k1.sub.sqT hb, c _ F1 H1 M1 _ _ g1 k1 ?_ h1⟩⟩
              have el : (zipD xs ys).length = min us.length ws.length := by rw [zipD_length, ra.length, rb.length]
              have q : ∀ F H M, Ex F1 F → Ok K F H M → SqT K H a us ∧ SqT K H b ws := fun F H M e k => ⟨k.sub.sqT (e.sqT ha), k.sub.sqT (e.sqT hb)⟩
              refine ⟨fun F H M i e k _ hi => ?_, fun F H M e k _ => ?_, fun F H M i x H' e k _ hi y => ?_⟩
              · obtain ⟨q1, q2⟩ := q F H M e k
                rw [el] at hi
                have h1 : i < us.length := by omega
                have h2 : i < ws.length := by omega
                exact ⟨us, ws, us[i], ws[i], q1, q2, by simp [h1], by simp [h2]⟩
              · obtain ⟨q1, q2⟩ := q F H M e k
                rw [el]
                exact ⟨us, ws, q1, q2, by omega⟩
              · obtain ⟨q1, q2⟩ := q F H M e k
                obtain ⟨T, x1, x2, rfl, hT, hH, e1, e2⟩ := y
                obtain ⟨d1, hd1, rd1⟩ := ra.get' (e1 us q1)
                obtain ⟨d2, hd2, rd2⟩ := rb.get' (e2 ws q2)
                obtain ⟨F', g', k', r'⟩ := pair_new k hT hH (rd1.mono e) (rd2.mono e)
                exact ⟨F', _, zipD_get hd1 hd2, g', k', r'⟩
        | _ => exact h1.elim
      | _ => exact h1.elim
    | x :: y :: _ :: _, _, h1 => cases x <;> first | exact h1.elim | (cases y <;> exact h1.elim)
variable {tg l e e2 : Expr} {tl : TE} {dl : TD} {ta : TA} {da : TDA} {p pos : Pos}
theorem pdi_any (hl : PD X l tl dl) : PDI X tg l (iAny X.K tl) (diAny dl) := ⟨pi_any hl.pe, sim_diAny hl.sim⟩
theorem pdi_rng1 (hg : Gl X "range") (hm : X.mg "range" = none) (ha : PDA X [e] ta da) (hs : starEach [e] X.env = [(false, eval e X.env)] := by rfl) : PDI X tg (.Call (.Name "range" p) [e] [] pos) (iRng1 ta) (diRng1 da) := ⟨pi_range1 hg hm ha.pe hs, sim_diRng1 ha.sim⟩
theorem pdi_rng2 (hg : Gl X "range") (hm : X.mg "range" = none) (ha : PDA X [e, e2] ta da) (hs : starEach [e, e2] X.env = [(false, eval e X.env), (false, eval e2 X.env)] := by rfl) (hs2 : starEach [e2] X.env = [(false, eval e2 X.env)] := by rfl) : PDI X tg (.Call (.Name "range" p) [e, e2] [] pos) (iRng2 ta) (diRng2 da) := ⟨pi_range2 hg hm ha.pe hs hs2, sim_diRng2 ha.sim⟩
theorem pdi_enum {elts : List Expr} {kk : Nat} {tpos : Pos} (hg : Gl X "enumerate") (hm : X.mg "enumerate" = none) (ha : PDA X [e] ta da) (hs : starEach [e] X.env = [(false, eval e X.env)] := by rfl) : PDI X (.Tuple elts kk tpos) (.Call (.Name "enumerate" p) [e] [] pos) (iEnumA X.K ta) (diEnum da) := ⟨pi_enumA hg hm ha.pe hs, sim_diEnum ha.sim⟩
theorem pdi_zip {elts : List Expr} {kk : Nat} {tpos : Pos} (hg : Gl X "zip") (hm : X.mg "zip" = none) (ha : PDA X [e, e2] ta da) (hs : starEach [e, e2] X.env = (false, eval e X.env) :: starEach [e2] X.env := by rfl) (hpl : (backTo pos (starEach [e2] X.env)).any (·.1) = false := by rfl) :
    PDI X (.Tuple elts kk tpos) (.Call (.Name "zip" p) [e, e2] [] pos) (RZ.iZipA X.K ta) (diZip da) := ⟨RZ.pi_zipA hg hm ha.pe hs hpl, sim_diZip ha.sim⟩
end

/-! ### for -/
def forL (grd : Mem → Prop) (g : TDG) (body : TDS) (E : DEnds) : List D → DE → Mem → Prop
  | [], Γ, M => grd M ∧ E.nx Γ M
  | x :: xs, Γ, M => grd M ∧ g x Γ M fun Γ1 M1 => body { E with nx := forL grd g body E xs, ct := forL grd g body E xs, bk := E.nx } Γ1 M1
def dFor (di : TDI) (g : TDG) (body : TDS) : TDS := fun E Γ M => di Γ M fun ds grd M1 => forL grd g body E ds Γ M1
section
variable {K : PySem.W.Frag} {X : Cx}
theorem sim_for {wi : TI} {di : TDI} {g : TG} {dg : TDG} {tb : TS} {db : TDS} (hi : SimI K wi di) (hg : SimG K g dg) (hb : SimS K tb db) : SimS K (tFor wi g tb) (dFor di dg db) := fun F H M σ Γ E D k s h n r b c =>
  hi F H M σ Γ _ _ k s h fun J F1 H1 M1 ds grd g1 k1 fd h1 => by
    refine ⟨fun i m σ' H' => m = ds.length - i ∧ i ≤ ds.length ∧ ∃ F' Γ' M', Go F1 H1 M1 F' H' M' ∧ Ok K F' H' M' ∧ SRel K F' σ' Γ' ∧ forL grd dg db E (ds.drop i) Γ' M',
      ⟨_, rfl, Nat.zero_le _, F1, Γ, M1, Go.refl, k1, s.mono g1.ext, by rw [List.drop_zero]; exact h1⟩, ?_⟩
    rintro i m σ' H' ⟨rfl, hi', F', Γ', M', g', k', s', h'⟩
    by_cases hlt : i < ds.length
    · have ed : ds.drop i = ds[i] :: ds.drop (i + 1) := List.drop_eq_getElem_cons hlt
      rw [ed] at h'
      obtain ⟨gd, h'⟩ := h'
      refine .inr ⟨fd.goes F' H' M' i g'.ext k' gd hlt, fun σ2 H2 => ∃ F2 Γ2 M2, Go F1 H1 M1 F2 H2 M2 ∧ Ok K F2 H2 M2 ∧ SRel K F2 σ2 Γ2 ∧ forL grd dg db E (ds.drop (i + 1)) Γ2 M2,
        fun σ2 H2 q => ⟨_, (by omega : ds.length - (i + 1) < ds.length - i), rfl, hlt, q⟩, fun x H2 y => ?_⟩
      obtain ⟨F3, d, e1, g3, k3, r3⟩ := fd.yields F' H' M' i x H2 g'.ext k' gd hlt y
      have ei : ds[i] = d := by
        have q : ds[i]? = some ds[i] := List.getElem?_eq_getElem hlt
        rw [q] at e1
        exact Option.some.inj e1
      rw [ei] at h'
      have gg := g'.trans g3
      have g0 := g1.trans gg
      refine hg F3 H2 M' x d σ' Γ' _ _ k3 (s'.mono g3.ext) r3 h' fun σ4 F4 H4 M4 Γ4 g4 k4 s4 h4 => ?_
      exact hb F4 H4 M4 σ4 Γ4 _ _ k4 s4 h4
        (fun σ5 F5 H5 M5 Γ5 g5 k5 s5 h5 => ⟨F5, Γ5, M5, (gg.trans g4).trans g5, k5, s5, h5⟩)
        (r.go (g0.trans g4))
        (n.go (g0.trans g4))
        (fun σ5 F5 H5 M5 Γ5 g5 k5 s5 h5 => ⟨F5, Γ5, M5, (gg.trans g4).trans g5, k5, s5, h5⟩)
    · have e : i = ds.length := by omega
      subst e
      rw [List.drop_length] at h'
      obtain ⟨gd, h'⟩ := h'
      exact .inl ⟨fd.stops F' H' M' g'.ext k' gd, n σ' F' H' M' Γ' (g1.trans g') k' s' h'⟩
theorem pds_for {tg iter : Expr} {body : List Stmt} {wi : TI} {di : TDI} {g : TG} {dg : TDG} {tb : TS} {db : TDS} {pos : Pos} (hp : PassesOwn (model X.prog X.w) X.A X.env X.xe) (hc : X.calm = true) (hi : PDI X tg iter wi di) (hg : PDG X tg g dg) (hb : PDSs X body tb db)
    (hs : ∀ x, foldedSetIterable iter X.env x = pure x := by intro _; rfl) : PDS X (.For tg iter body [] pos) (tFor wi g tb) (dFor di dg db) := ⟨ps_for hp hc hi.pe hg.pe hb.pe hs, sim_for hi.sim hg.sim hb.sim⟩

/-! ### while -/
def dWhile (c : TDT) (b : TDS) : TDS := fun E Γ M => ∃ W : Nat → DE → Mem → Prop, (∃ m, W m Γ M) ∧ ∀ m Γ M, W m Γ M → c Γ M fun t M1 => if t = true then ∃ N : DE → Mem → Prop, (∀ Γ' M', N Γ' M' → ∃ m', m' < m ∧ W m' Γ' M') ∧ b { E with nx := N, ct := N, bk := E.nx } Γ M1 else E.nx Γ M1
theorem sim_while {tc : TT} {dc : TDT} {tb : TS} {db : TDS} (hc : SimT K tc dc) (hb : SimS K tb db) : SimS K (tWhile tc tb) (dWhile dc db) := fun F H M σ Γ E D k s h n r b c => by
  obtain ⟨W, ⟨m0, w0⟩, turn⟩ := h
  refine ⟨fun m σ' H' => ∃ F' Γ' M', Go F H M F' H' M' ∧ Ok K F' H' M' ∧ SRel K F' σ' Γ' ∧ W m Γ' M', ⟨m0, F, Γ, M, Go.refl, k, s, w0⟩, ?_⟩
  rintro m σ' H' ⟨F', Γ', M', g', k', s', w'⟩
  refine hc F' H' M' σ' Γ' _ _ k' s' (turn m Γ' M' w') fun t F1 H1 M1 g1 k1 h1 => ?_
  have gg := g'.trans g1
  cases t with
  | true =>
    rw [if_pos rfl] at h1 ⊢
    obtain ⟨N, hN, h1⟩ := h1
    refine ⟨fun σ2 H2 => ∃ F2 Γ2 M2, Go F H M F2 H2 M2 ∧ Ok K F2 H2 M2 ∧ SRel K F2 σ2 Γ2 ∧ N Γ2 M2, fun σ2 H2 ⟨F2, Γ2, M2, q1, q2, q3, q4⟩ => ?_, ?_⟩
    · obtain ⟨m', hm, w2⟩ := hN Γ2 M2 q4
      exact ⟨m', hm, F2, Γ2, M2, q1, q2, q3, w2⟩
    · exact hb F1 H1 M1 σ' Γ' _ _ k1 (s'.mono g1.ext) h1 (fun σ5 F5 H5 M5 Γ5 g5 k5 s5 h5 => ⟨F5, Γ5, M5, gg.trans g5, k5, s5, h5⟩) (r.go gg) (n.go gg) (fun σ5 F5 H5 M5 Γ5 g5 k5 s5 h5 => ⟨F5, Γ5, M5, gg.trans g5, k5, s5, h5⟩)
  | false =>
    rw [if_neg Bool.false_ne_true] at h1 ⊢
    exact n σ' F1 H1 M1 Γ' gg k1 (s'.mono g1.ext) h1
theorem pds_while {c : Expr} {body : List Stmt} {tc : TT} {dc : TDT} {tb : TS} {db : TDS} {pos : Pos} (hp : PassesOwn (model X.prog X.w) X.A X.env X.xe) (hc : PDT X c tc dc) (hb : PDSs X body tb db) : PDS X (.While c body [] pos) (tWhile tc tb) (dWhile dc db) := ⟨ps_while hp hc.pe hb.pe, sim_while hc.sim hb.sim⟩
end

/-! ### comprehensions -/
/-- the target writes only these slots -/
def Wr (vs : List Nat) (g : TG) : Prop := ∀ v σ H (Q : L2.St → Hp → Prop), g v σ H Q → g v σ H fun σ2 H2 => L2.wipe σ2 vs = L2.wipe σ vs ∧ Q σ2 H2
def Wrs (vs : List Nat) (g : TGs) : Prop := ∀ ws σ H (Q : L2.St → Hp → Prop), g ws σ H Q → g ws σ H fun σ2 H2 => L2.wipe σ2 vs = L2.wipe σ vs ∧ Q σ2 H2
theorem wipe_set {i : Nat} {x : Option V} : ∀ {vs : List Nat} {σ : L2.St}, i ∈ vs → L2.wipe (σ.set i x) vs = L2.wipe σ vs
  | [], _, h => by cases h
  | v :: vs, σ, h => by
    show (L2.wipe (σ.set i x) vs).set v none = (L2.wipe σ vs).set v none
    by_cases hi : i ∈ vs
    · rw [wipe_set hi]
    · have e : i = v := by
        rcases List.mem_cons.mp h with q | q
        · exact q
        · exact absurd q hi
      subst e
      have aux : ∀ (ws : List Nat) (σ : L2.St), i ∉ ws → L2.wipe (σ.set i x) ws = (L2.wipe σ ws).set i x := by
        intro ws
        induction ws with
        | nil => intro σ _; rfl
        | cons w ws ih =>
          intro σ hw
          rw [List.mem_cons, not_or] at hw
          show (L2.wipe (σ.set i x) ws).set w none = ((L2.wipe σ ws).set w none).set i x
          rw [ih σ hw.2, List.set_comm _ _ hw.1]
      rw [aux vs σ hi, List.set_set]
theorem wr_name {vs : List Nat} {i : Nat} (h : i ∈ vs) : Wr vs (gName i) := fun v σ H Q q => ⟨wipe_set h, q⟩
theorem wrs_nil {vs : List Nat} : Wrs vs gNil := fun ws σ H Q q => ⟨q.1, rfl, q.2⟩
theorem wrs_cons {vs : List Nat} {g : TG} {w : TGs} {dg : TDG} (hg : Wr vs g) (hw : Wrs vs w) (mono : ∀ v σ H (Q R : L2.St → Hp → Prop), g v σ H Q → (∀ σ' H', Q σ' H' → R σ' H') → g v σ H R) : Wrs vs (gCons g w) := fun ws σ H Q q => by
  obtain ⟨v, r, rfl, q⟩ := q
  refine ⟨v, r, rfl, mono v σ H _ _ (hg v σ H _ q) fun σ' H' ⟨e, q'⟩ => ?_⟩
  have z := hw r σ' H' Q q'
  rw [← e]
  exact z
theorem gName_mono {i : Nat} : ∀ v σ H (Q R : L2.St → Hp → Prop), gName i v σ H Q → (∀ σ' H', Q σ' H' → R σ' H') → gName i v σ H R := fun v σ H Q R q h => h _ _ q
theorem wrs_name {vs : List Nat} {i : Nat} {w : TGs} (h : i ∈ vs) (hw : Wrs vs w) : Wrs vs (gCons (gName i) w) := wrs_cons (dg := dgName i) (wr_name h) hw gName_mono
theorem wr_tup {K : PySem.W.Frag} {vs : List Nat} {n : Nat} {w : TGs} (hw : Wrs vs w) : Wr vs (gTup K n w) := fun v σ H Q q => by
  obtain ⟨a, xs, e, h1, h2, q⟩ := q
  exact ⟨a, xs, e, h1, h2, hw xs σ H Q q⟩
def lcL (grd : Mem → Prop) (g : TDG) (t : TDT) (e : TD) (Γ : DE) (fin : List D → Mem → Prop) : List D → List D → Mem → Prop
  | [], acc, M => grd M ∧ fin acc M
  | x :: xs, acc, M => grd M ∧ g x Γ M fun Γ1 M1 => t Γ1 M1 fun b M2 => if b = true then e Γ1 M2 fun y M3 => acc.length < sizeLine ∧ lcL grd g t e Γ fin xs (acc ++ [y]) M3 else lcL grd g t e Γ fin xs acc M2
def dYes : TDT := fun _ M Q => Q true M
def dLc (di : TDI) (g : TDG) (t : TDT) (e : TD) (vs : List Nat) : TD := fun Γ M Q => di Γ M fun ds grd M1 => lcL grd g t e (wipeD Γ vs) (fun acc M2 => Q (.lst acc) M2) ds [] M1
def dLcM (di : TDI) (g : TDG) (t : TDT) (e : TD) (vs : List Nat) : TD := fun Γ M Q => di Γ M fun ds grd M1 => lcL grd g t e (wipeD Γ vs) (fun acc M2 => ∀ p, M2 p = none → Q (.ref p) (mput M2 p (.lst acc))) ds [] M1
structure PDTs (X : Cx) (ifs : List Expr) (t : TT) (d : TDT) : Prop where
  pe : PTs X ifs t
  sim : SimT X.K t d
section
variable {K : PySem.W.Frag} {X : Cx}
theorem pdts_nil : PDTs X [] tYes dYes := ⟨pts_nil, fun F H M σ Γ Q R k s h c => c true F H M Go.refl k h⟩
theorem pdts_one {c : Expr} {t : TT} {d : TDT} (h : PDT X c t d) : PDTs X [c] t d := ⟨pts_one h.pe, h.sim⟩
/-- an object that neither knows -/
theorem Ok.other {F H : Hp} {M : Mem} (k : Ok K F H M) {p : Addr} (hf : F p = none) (hm : M p = none) (o : HO) : Ok K F (upd H p o) M := by
  refine ⟨fun a u e => ?_, fun a u e => ?_⟩
  · rw [upd_ne (fun q => by rw [q, hf] at e; cases e)]; exact k.sub a u e
  · have ne : a ≠ p := fun q => by rw [q, hm] at e; cases e
    obtain ⟨h1, h2⟩ := k.mem a u e
    exact ⟨h1, h2.mono (Ex.refl F) (upd_ne ne)⟩
theorem lc_gen {wi : TI} {di : TDI} {g : TG} {dg : TDG} {tt : TT} {dt : TDT} {te : TE} {de : TD} {vs : List Nat} {fin : QD → List D → Mem → Prop} (hi : SimI K wi di) (hg : SimG K g dg) (hw : Wr vs g) (ht : SimT K tt dt) (he : SimE K te de)
    (hfin : ∀ F0 H0 M0 F H M (Q : QD) (R : VK) p acc ws, H0 p = none → Go F0 H0 M0 F H M → Ok K F H M → H p = some (.lst ws) → RepL K F ws acc → F p = none → M p = none → CV K F0 H0 M0 Q R → fin Q acc M → R (.ref p) H) :
    SimE K (tLc wi g tt te vs) (fun Γ M Q => di Γ M fun ds grd M1 => lcL grd dg dt de (wipeD Γ vs) (fin Q) ds [] M1) := fun F H M σ Γ Q R k s h c =>
  hi F H M σ Γ _ _ k s h fun J F1 H1 M1 ds grd g1 k1 fd h1 => fun p hp => by
    obtain ⟨hpF, hpM⟩ := k1.free hp
    have c1 := c.go g1
    have s1 := (s.mono g1.ext).wipe vs
    -- the state at a turn
    refine ⟨fun i m H' => m = ds.length - i ∧ i ≤ ds.length ∧ ∃ F' M' acc ws, Go F1 H1 M1 F' H' M' ∧ Ok K F' H' M' ∧ H' p = some (.lst ws) ∧ RepL K F' ws acc ∧ F' p = none ∧ M' p = none ∧ lcL grd dg dt de (wipeD Γ vs) (fin Q) (ds.drop i) acc M',
      ⟨_, rfl, Nat.zero_le _, F1, M1, [], [], ⟨Ex.refl _, fun a o h1 h2 h3 => ⟨by rw [upd_ne (ne_of_none h1 hp)]; exact h1, h2, h3⟩⟩, k1.other hpF hpM _, upd_same, .nil, hpF, hpM, by rw [List.drop_zero]; exact h1⟩, ?_⟩
    rintro i m H' ⟨rfl, hi', F', M', acc, ws, g', k', hp', rw', hpF', hpM', h'⟩
    by_cases hlt : i < ds.length
    · have ed : ds.drop i = ds[i] :: ds.drop (i + 1) := List.drop_eq_getElem_cons hlt
      rw [ed] at h'
      obtain ⟨gd, h'⟩ := h'
      refine .inr ⟨fd.goes F' H' M' i g'.ext k' gd hlt, fun H2 => ∃ F2 M2 acc ws, Go F1 H1 M1 F2 H2 M2 ∧ Ok K F2 H2 M2 ∧ H2 p = some (.lst ws) ∧ RepL K F2 ws acc ∧ F2 p = none ∧ M2 p = none ∧ lcL grd dg dt de (wipeD Γ vs) (fin Q) (ds.drop (i + 1)) acc M2,
        fun H2 q => ⟨_, (by omega : ds.length - (i + 1) < ds.length - i), rfl, hlt, q⟩, fun x H2 y => ?_⟩
      obtain ⟨F3, d, e1, g3, k3, r3⟩ := fd.yields F' H' M' i x H2 g'.ext k' gd hlt y
      have ei : ds[i] = d := by
        have q : ds[i]? = some ds[i] := List.getElem?_eq_getElem hlt
        rw [q] at e1
        exact Option.some.inj e1
      rw [ei] at h'
      have s3 : SRel K F3 (L2.wipe σ vs) (wipeD Γ vs) := s1.mono (g'.trans g3).ext
      have f3 := g3.fr p _ hp' hpF' hpM'
      have aux := hg F3 H2 M' x d (L2.wipe σ vs) (wipeD Γ vs) _ (fun σ2 H2' => tt σ2 H2' fun b H3 => if b = true then te σ2 H3 fun y H4 => ∃ acc, H4 p = some (.lst acc) ∧ acc.length < sizeLine ∧ (∃ F2 M2 acc' ws, Go F1 H1 M1 F2 (upd H4 p (.lst (acc ++ [y]))) M2 ∧ Ok K F2 (upd H4 p (.lst (acc ++ [y]))) M2 ∧ (upd H4 p (.lst (acc ++ [y]))) p = some (.lst ws) ∧ RepL K F2 ws acc' ∧ F2 p = none ∧ M2 p = none ∧ lcL grd dg dt de (wipeD Γ vs) (fin Q) (ds.drop (i + 1)) acc' M2)
        else (∃ F2 M2 acc ws, Go F1 H1 M1 F2 H3 M2 ∧ Ok K F2 H3 M2 ∧ H3 p = some (.lst ws) ∧ RepL K F2 ws acc ∧ F2 p = none ∧ M2 p = none ∧ lcL grd dg dt de (wipeD Γ vs) (fin Q) (ds.drop (i + 1)) acc M2)) k3 s3 r3 h' fun σ4 F4 H4 M4 Γ4 g4 k4 s4 h4 => by
          have f4 := g4.fr p _ f3.1 f3.2.1 hpM'
          refine ht F4 H4 M4 σ4 Γ4 _ _ k4 s4 h4 fun b F5 H5 M5 g5 k5 h5 => ?_
          have f5 := g5.fr p _ f4.1 f4.2.1 f4.2.2
          have gg := ((g'.trans g3).trans g4).trans g5
          cases b with
          | true =>
            rw [if_pos rfl] at h5 ⊢
            refine he F5 H5 M5 σ4 Γ4 _ _ k5 (s4.mono g5.ext) h5 fun z F6 H6 M6 dz g6 k6 r6 h6 => ?_
            have f6 := g6.fr p _ f5.1 f5.2.1 f5.2.2
            have ge := gg.trans g6
            have rw6 : RepL K F6 ws acc := rw'.mono (((g3.trans g4).trans g5).trans g6).ext
            refine ⟨ws, f6.1, by rw [rw'.length]; exact h6.1, F6, M6, acc ++ [dz], ws ++ [z], ⟨ge.ext, fun a o h1 h2 h3 => ?_⟩, k6.other f6.2.1 f6.2.2 _, upd_same, rw6.append (.cons r6 .nil), f6.2.1, f6.2.2, h6.2⟩
            have q := ge.fr a o h1 h2 h3
            exact ⟨by rw [upd_ne (ne_of_none h1 hp)]; exact q.1, q.2⟩
          | false =>
            rw [if_neg Bool.false_ne_true] at h5 ⊢
            exact ⟨F5, M5, acc, ws, gg, k5, f5.1, rw'.mono ((g3.trans g4).trans g5).ext, f5.2.1, f5.2.2, h5⟩
      have aux2 := hw x (L2.wipe σ vs) H2 _ aux
      have ew : L2.wipe (L2.wipe σ vs) vs = L2.wipe σ vs := by
        have idem : ∀ (us : List Nat) (τ : L2.St), L2.wipe (L2.wipe τ us) us = L2.wipe τ us := by
          intro us
          induction us with
          | nil => intro τ; rfl
          | cons u us ih =>
            intro τ
            show (L2.wipe ((L2.wipe τ us).set u none) us).set u none = (L2.wipe τ us).set u none
            by_cases hu : u ∈ us
            · rw [wipe_set hu, ih]
            · have aux : ∀ (ws : List Nat) (τ : L2.St), u ∉ ws → L2.wipe (τ.set u none) ws = (L2.wipe τ ws).set u none := by
                intro ws
                induction ws with
                | nil => intro τ _; rfl
                | cons w ws ih =>
                  intro τ hw
                  rw [List.mem_cons, not_or] at hw
                  show (L2.wipe (τ.set u none) ws).set w none = ((L2.wipe τ ws).set w none).set u none
                  rw [ih τ hw.2, List.set_comm _ _ hw.1]
              rw [aux us _ hu, ih, List.set_set]
        exact idem vs σ
      rw [ew] at aux2
      exact aux2
    · have e : i = ds.length := by omega
      subst e
      rw [List.drop_length] at h'
      obtain ⟨gd, h'⟩ := h'
      exact .inl ⟨fd.stops F' H' M' g'.ext k' gd, hfin F1 H1 M1 F' H' M' Q R p acc ws hp g' k' hp' rw' hpF' hpM' c1 h'⟩
theorem sim_lc {wi : TI} {di : TDI} {g : TG} {dg : TDG} {tt : TT} {dt : TDT} {te : TE} {de : TD} {vs : List Nat} (hi : SimI K wi di) (hg : SimG K g dg) (hw : Wr vs g) (ht : SimT K tt dt) (he : SimE K te de) : SimE K (tLc wi g tt te vs) (dLc di dg dt de vs) :=
  lc_gen (fin := fun Q acc M => Q (.lst acc) M) hi hg hw ht he fun F0 H0 M0 F H M Q R p acc ws h0 g k hp r hF hM c h => by
    refine c (.ref p) (upd F p (.lst ws)) H M (.lst acc) ⟨g.ext.trans (Ex.new hF), fun a o h1 h2 h3 => ?_⟩ ⟨fun a u e => ?_, fun a u e => ?_⟩ (.lst upd_same (r.mono (Ex.new hF))) h
    · have q := g.fr a o h1 h2 h3
      exact ⟨q.1, by rw [upd_ne (ne_of_none h1 h0)]; exact q.2.1, q.2.2⟩
    · by_cases z : a = p
      · subst z; rw [upd_same] at e; cases e; exact hp
      · rw [upd_ne z] at e; exact k.sub a u e
    · have ne : a ≠ p := fun z => by rw [z, hM] at e; cases e
      obtain ⟨h1, h2⟩ := k.mem a u e
      exact ⟨by rw [upd_ne ne]; exact h1, h2.mono (Ex.new hF) rfl⟩
theorem sim_lcM {wi : TI} {di : TDI} {g : TG} {dg : TDG} {tt : TT} {dt : TDT} {te : TE} {de : TD} {vs : List Nat} (hi : SimI K wi di) (hg : SimG K g dg) (hw : Wr vs g) (ht : SimT K tt dt) (he : SimE K te de) : SimE K (tLc wi g tt te vs) (dLcM di dg dt de vs) :=
  lc_gen (fin := fun Q acc M => ∀ p, M p = none → Q (.ref p) (mput M p (.lst acc))) hi hg hw ht he fun F0 H0 M0 F H M Q R p acc ws h0 g k hp r hF hM c h => by
    refine c (.ref p) F H (mput M p (.lst acc)) (.ref p) ⟨g.ext, fun a o h1 h2 h3 => ?_⟩ ⟨k.sub, fun a u e => ?_⟩ (.ref p) (h p hM)
    · have q := g.fr a o h1 h2 h3
      exact ⟨q.1, q.2.1, by rw [mput_ne (ne_of_none h1 h0)]; exact q.2.2⟩
    · by_cases z : a = p
      · subst z; rw [mput_same] at e; cases e; exact ⟨hF, ws, hp, r⟩
      · rw [mput_ne z] at e; exact k.mem a u e
end
end DL

set_option Elab.async false
set_option linter.all false
set_option maxRecDepth 100000
set_option maxHeartbeats 4000000
namespace DL
open PySem PySem.Spec PyProof.Rows L2

section
variable {X : Cx}
theorem pd_lc {elt tg iter : Expr} {ifs : List Expr} {scope : Scope} {own : List (Str × Nat)} {vs : List Nat} {pos : Pos} {wi : TI} {di : TDI} {g : TG} {dg : TDG} {tt : TT} {dt : TDT} {te : TE} {de : TD} (hc : X.calm = true) (hN : X.N.Nodup) (hi : PDI X tg iter wi di) (ok : BlkOk X.N X.env.scope scope own) (hv : own.map (·.2) = vs)
    (hg : ∀ (s : Shared) (H : Hp) (C : Addr) (cl : List (Str × Addr)) (fp : List Addr), PDG (X.blk s H scope (compEnvC scope cl C X.env) fp) tg g dg) (hw : Wr vs g)
    (ht : ∀ (s : Shared) (H : Hp) (C : Addr) (cl : List (Str × Addr)) (fp : List Addr), PDTs (X.blk s H scope (compEnvC scope cl C X.env) fp) ifs tt dt)
    (he : ∀ (s : Shared) (H : Hp) (C : Addr) (cl : List (Str × Addr)) (fp : List Addr), PD (X.blk s H scope (compEnvC scope cl C X.env) fp) elt te de) (hs : ∀ x, foldedSetIterable iter X.env x = pure x := by intro _; rfl) :
    PD X (.ListComp elt [⟨tg, iter, ifs, 0⟩] scope pos) (tLc wi g tt te vs) (dLc di dg dt de vs) := by
  subst hv
  exact ⟨pe_lc hc hN hi.pe ok (fun s H C cl fp => (hg s H C cl fp).pe) (fun s H C cl fp => (ht s H C cl fp).pe) (fun s H C cl fp => (he s H C cl fp).pe) hs,
    sim_lc hi.sim (hg X.s_0 X.H_0 0 [] []).sim hw (ht X.s_0 X.H_0 0 [] []).sim (he X.s_0 X.H_0 0 [] []).sim⟩
theorem pd_lcM {elt tg iter : Expr} {ifs : List Expr} {scope : Scope} {own : List (Str × Nat)} {vs : List Nat} {pos : Pos} {wi : TI} {di : TDI} {g : TG} {dg : TDG} {tt : TT} {dt : TDT} {te : TE} {de : TD} (hc : X.calm = true) (hN : X.N.Nodup) (hi : PDI X tg iter wi di) (ok : BlkOk X.N X.env.scope scope own) (hv : own.map (·.2) = vs)
    (hg : ∀ (s : Shared) (H : Hp) (C : Addr) (cl : List (Str × Addr)) (fp : List Addr), PDG (X.blk s H scope (compEnvC scope cl C X.env) fp) tg g dg) (hw : Wr vs g)
    (ht : ∀ (s : Shared) (H : Hp) (C : Addr) (cl : List (Str × Addr)) (fp : List Addr), PDTs (X.blk s H scope (compEnvC scope cl C X.env) fp) ifs tt dt)
    (he : ∀ (s : Shared) (H : Hp) (C : Addr) (cl : List (Str × Addr)) (fp : List Addr), PD (X.blk s H scope (compEnvC scope cl C X.env) fp) elt te de) (hs : ∀ x, foldedSetIterable iter X.env x = pure x := by intro _; rfl) :
    PD X (.ListComp elt [⟨tg, iter, ifs, 0⟩] scope pos) (tLc wi g tt te vs) (dLcM di dg dt de vs) := by
  subst hv
  exact ⟨pe_lc hc hN hi.pe ok (fun s H C cl fp => (hg s H C cl fp).pe) (fun s H C cl fp => (ht s H C cl fp).pe) (fun s H C cl fp => (he s H C cl fp).pe) hs,
    sim_lcM hi.sim (hg X.s_0 X.H_0 0 [] []).sim hw (ht X.s_0 X.H_0 0 [] []).sim (he X.s_0 X.H_0 0 [] []).sim⟩
/-- name = [..] on one line -/
theorem pds_setLc {i : Nat} {y : Str} {py : Pos} {elt tg iter : Expr} {ifs : List Expr} {scope : Scope} {own : List (Str × Nat)} {vs : List Nat} {pos spos : Pos} {wi : TI} {di : TDI} {g : TG} {dg : TDG} {tt : TT} {dt : TDT} {te : TE} {de : TD} (hc : X.calm = true) (hN : X.N.Nodup) (hy : X.N[i]? = some y) (hyl : X.env.scope.names.lookup y = some .local)
    (hsw : swapsWith (.ListComp elt [⟨tg, iter, ifs, 0⟩] scope pos) (some (.Name y py)) spos.line X.env = pure true) (hi : PDI X tg iter wi di) (ok : BlkOk X.N X.env.scope scope own) (hv : own.map (·.2) = vs)
    (hg : ∀ (s : Shared) (H : Hp) (C : Addr) (cl : List (Str × Addr)) (fp : List Addr), PDG (X.blk s H scope (compEnvC scope cl C X.env) fp) tg g dg) (hw : Wr vs g)
    (ht : ∀ (s : Shared) (H : Hp) (C : Addr) (cl : List (Str × Addr)) (fp : List Addr), PDTs (X.blk s H scope (compEnvC scope cl C X.env) fp) ifs tt dt)
    (he : ∀ (s : Shared) (H : Hp) (C : Addr) (cl : List (Str × Addr)) (fp : List Addr), PD (X.blk s H scope (compEnvC scope cl C X.env) fp) elt te de) (hs : ∀ x, foldedSetIterable iter X.env x = pure x := by intro _; rfl) :
    PDS X (.Assign [.Name y py] (.ListComp elt [⟨tg, iter, ifs, 0⟩] scope pos) spos) (tAsg (tLc wi g tt te vs) (gName i)) (dAsg (dLc di dg dt de vs) (dgName i)) := by
  subst hv
  exact ⟨ps_setLc hc hN hy hyl hsw hi.pe ok (fun s H C cl fp => (hg s H C cl fp).pe) (fun s H C cl fp => (ht s H C cl fp).pe) (fun s H C cl fp => (he s H C cl fp).pe) hs,
    sim_asg (sim_lc hi.sim (hg X.s_0 X.H_0 0 [] []).sim hw (ht X.s_0 X.H_0 0 [] []).sim (he X.s_0 X.H_0 0 [] []).sim) sim_gName⟩
theorem pds_setLcM {i : Nat} {y : Str} {py : Pos} {elt tg iter : Expr} {ifs : List Expr} {scope : Scope} {own : List (Str × Nat)} {vs : List Nat} {pos spos : Pos} {wi : TI} {di : TDI} {g : TG} {dg : TDG} {tt : TT} {dt : TDT} {te : TE} {de : TD} (hc : X.calm = true) (hN : X.N.Nodup) (hy : X.N[i]? = some y) (hyl : X.env.scope.names.lookup y = some .local)
    (hsw : swapsWith (.ListComp elt [⟨tg, iter, ifs, 0⟩] scope pos) (some (.Name y py)) spos.line X.env = pure true) (hi : PDI X tg iter wi di) (ok : BlkOk X.N X.env.scope scope own) (hv : own.map (·.2) = vs)
    (hg : ∀ (s : Shared) (H : Hp) (C : Addr) (cl : List (Str × Addr)) (fp : List Addr), PDG (X.blk s H scope (compEnvC scope cl C X.env) fp) tg g dg) (hw : Wr vs g)
    (ht : ∀ (s : Shared) (H : Hp) (C : Addr) (cl : List (Str × Addr)) (fp : List Addr), PDTs (X.blk s H scope (compEnvC scope cl C X.env) fp) ifs tt dt)
    (he : ∀ (s : Shared) (H : Hp) (C : Addr) (cl : List (Str × Addr)) (fp : List Addr), PD (X.blk s H scope (compEnvC scope cl C X.env) fp) elt te de) (hs : ∀ x, foldedSetIterable iter X.env x = pure x := by intro _; rfl) :
    PDS X (.Assign [.Name y py] (.ListComp elt [⟨tg, iter, ifs, 0⟩] scope pos) spos) (tAsg (tLc wi g tt te vs) (gName i)) (dAsg (dLcM di dg dt de vs) (dgName i)) := by
  subst hv
  exact ⟨ps_setLc hc hN hy hyl hsw hi.pe ok (fun s H C cl fp => (hg s H C cl fp).pe) (fun s H C cl fp => (ht s H C cl fp).pe) (fun s H C cl fp => (he s H C cl fp).pe) hs,
    sim_asg (sim_lcM hi.sim (hg X.s_0 X.H_0 0 [] []).sim hw (ht X.s_0 X.H_0 0 [] []).sim (he X.s_0 X.H_0 0 [] []).sim) sim_gName⟩
end

/-! ### what a def is worth, over data -/
abbrev DSp := List D → Mem → QD → Prop
def spD (K : PySem.W.Frag) (S : DSp) : Sp := fun vs H Q _ => ∃ F M ds Q0, Ok K F H M ∧ RepL K F vs ds ∧ S ds M Q0 ∧ CV K F H M Q0 Q
def dCall (S : DSp) (dds : List D) (a : TDA) : TD := fun Γ M Q => a Γ M fun ds M1 => S (ds ++ dds) M1 Q
def pick {α : Type} (ix : List Nat) (xs : List α) : List α := ix.filterMap fun i => xs[i]?
def dCallN (S : DSp) (ix : List Nat) (n m : Nat) (dds : List D) (a b : TDA) : TD := fun Γ M Q => a Γ M fun ds M1 => b Γ M1 fun es M2 => ds.length = n ∧ es.length = m ∧ S (pick ix (ds ++ (es ++ dds))) M2 Q
/-- a new instance, done when __init__ is | one that goes on changing -/
def dMake (C : Addr) (S : DSp) (dds : List D) (a : TDA) : TD := fun Γ M Q => a Γ M fun ds M1 => ∀ p, M1 p = none → S (.ref p :: (ds ++ dds)) (mput M1 p (.ins C [] [])) fun r M2 => r = .non ∧ (match M2 p with
  | some (.ins C' ns es) => Q (.obj C' ns es) (mdel M2 p)
  | _ => False)
def dMakeM (C : Addr) (S : DSp) (dds : List D) (a : TDA) : TD := fun Γ M Q => a Γ M fun ds M1 => ∀ p, M1 p = none → S (.ref p :: (ds ++ dds)) (mput M1 p (.ins C [] [])) fun r M2 => r = .non ∧ Q (.ref p) M2
def dMeth (C : Addr) (S : DSp) (dds : List D) (o : TD) (a : TDA) : TD := fun Γ M Q => o Γ M fun x M1 => (match fldsD M1 x with
  | some (C', _, _) => C' = C
  | none => False) ∧ a Γ M1 fun ds M2 => S (x :: (ds ++ dds)) M2 Q
section
variable {K : PySem.W.Frag}
theorem sim_call {S : DSp} {dvs : List V} {dds : List D} {E : XK} {ta : TA} {da : TDA} (hd : ∀ F, RepL K F dvs dds) (ha : SimA K ta da) : SimE K (tCall (spD K S) dvs E ta) (dCall S dds da) := fun F H M σ Γ Q R k s h c =>
  ha F H M σ Γ _ _ k s h fun vs F1 H1 M1 ds g1 k1 r1 h1 => ⟨F1, M1, ds ++ dds, Q, k1, r1.append (hd F1), h1, c.go g1⟩
theorem RepL.pick {F : Hp} {vs : List V} {ds : List D} (r : RepL K F vs ds) : ∀ ix : List Nat, RepL K F (DL.pick ix vs) (DL.pick ix ds)
  | [] => .nil
  | i :: ix => by
    unfold DL.pick
    rw [List.filterMap_cons, List.filterMap_cons]
    cases e : ds[i]? with
    | none =>
      have e2 : vs[i]? = none := by
        rw [List.getElem?_eq_none_iff] at e ⊢
        rw [r.length]; exact e
      rw [e2]
      exact RepL.pick r ix
    | some d =>
      obtain ⟨v, e2, rv⟩ := r.get e
      rw [e2]
      exact .cons rv (RepL.pick r ix)
theorem Vals.pick {vs : List V} {us : List Value} (r : Vals vs us) : ∀ ix : List Nat, Vals (DL.pick ix vs) (DL.pick ix us)
  | [] => .nil
  | i :: ix => by
    unfold DL.pick
    rw [List.filterMap_cons, List.filterMap_cons]
    cases e : vs[i]? with
    | none =>
      have e2 : us[i]? = none := by
        rw [List.getElem?_eq_none_iff] at e ⊢
        rw [← r.length]; exact e
      rw [e2]
      exact Vals.pick r ix
    | some d =>
      obtain ⟨v, e2, rv⟩ := r.get e
      rw [e2]
      exact .cons rv (Vals.pick r ix)
theorem sim_callN {S : DSp} {ix : List Nat} {n m : Nat} {dvs : List V} {dds : List D} {E : XK} {ta tb : TA} {da db : TDA} (hd : ∀ F, RepL K F dvs dds) (ha : SimA K ta da) (hb : SimA K tb db) :
    SimE K (tCallN n m (spD K S) (fun vs zs => pick ix (vs ++ (zs ++ dvs))) E ta tb) (dCallN S ix n m dds da db) := fun F H M σ Γ Q R k s h c =>
  ha F H M σ Γ _ _ k s h fun vs F1 H1 M1 ds g1 k1 r1 h1 => hb F1 H1 M1 σ Γ _ _ k1 (s.mono g1.ext) h1 fun zs F2 H2 M2 es g2 k2 r2 h2 =>
    ⟨by rw [r1.length]; exact h2.1, by rw [r2.length]; exact h2.2.1, F2, M2, _, Q, k2, RepL.pick ((r1.mono g2.ext).append (r2.append (hd F2))) ix, h2.2.2, (c.go g1).go g2⟩
theorem sim_make {C : Addr} {S : DSp} {dvs : List V} {dds : List D} {E : XK} {ta : TA} {da : TDA} (hd : ∀ F, RepL K F dvs dds) (ha : SimA K ta da) : SimE K (tMake C (spD K S) dvs E ta) (dMake C S dds da) := fun F H M σ Γ Q R k s h c =>
  ha F H M σ Γ _ _ k s h fun vs F1 H1 M1 ds g1 k1 r1 h1 => fun x dx hx hdx hne => by
    obtain ⟨xF, xM⟩ := k1.free hx
    obtain ⟨dF, dM⟩ := k1.free hdx
    have k2 := k1.other dF dM (.own x)
    have hx2 : upd H1 dx (.own x) x = none := by rw [upd_ne hne.symm]; exact hx
    have k3 : Ok K F1 (upd (upd H1 dx (.own x)) x (.ins C dx [])) (mput M1 x (.ins C [] [])) := k2.newM (m := .ins C [] []) hx2 ⟨dx, [], upd_same, rfl, .nil⟩
    have g3 : Go F1 H1 M1 F1 (upd (upd H1 dx (.own x)) x (.ins C dx [])) (mput M1 x (.ins C [] [])) := ⟨Ex.refl _, fun a o h1 h2 h3 => ⟨by rw [upd_ne (ne_of_none h1 hx), upd_ne (ne_of_none h1 hdx)]; exact h1, h2, by rw [mput_ne (ne_of_none h1 hx)]; exact h3⟩⟩
    refine ⟨F1, _, _, _, k3, .cons (.ref x) (r1.append (hd F1)), h1 x xM, fun v F' H' M' r g k' rv q => ?_⟩
    obtain ⟨rfl, q⟩ := q
    cases rv
    refine ⟨rfl, ?_⟩
    cases e : M' x with
    | none => simp only [e] at q
    | some m =>
      cases m with
      | ins C' ns es =>
        simp only [e] at q
        obtain ⟨dx', fs, e1, k4, g4, r4⟩ := k'.freezeI e
        exact c _ _ _ _ _ (((g1.trans g3).trans g).trans g4) k4 r4 q
      | _ => simp only [e] at q
theorem sim_makeM {C : Addr} {S : DSp} {dvs : List V} {dds : List D} {E : XK} {ta : TA} {da : TDA} (hd : ∀ F, RepL K F dvs dds) (ha : SimA K ta da) : SimE K (tMake C (spD K S) dvs E ta) (dMakeM C S dds da) := fun F H M σ Γ Q R k s h c =>
  ha F H M σ Γ _ _ k s h fun vs F1 H1 M1 ds g1 k1 r1 h1 => fun x dx hx hdx hne => by
    obtain ⟨xF, xM⟩ := k1.free hx
    obtain ⟨dF, dM⟩ := k1.free hdx
    have k2 := k1.other dF dM (.own x)
    have hx2 : upd H1 dx (.own x) x = none := by rw [upd_ne hne.symm]; exact hx
    have k3 : Ok K F1 (upd (upd H1 dx (.own x)) x (.ins C dx [])) (mput M1 x (.ins C [] [])) := k2.newM (m := .ins C [] []) hx2 ⟨dx, [], upd_same, rfl, .nil⟩
    have g3 : Go F1 H1 M1 F1 (upd (upd H1 dx (.own x)) x (.ins C dx [])) (mput M1 x (.ins C [] [])) := ⟨Ex.refl _, fun a o h1 h2 h3 => ⟨by rw [upd_ne (ne_of_none h1 hx), upd_ne (ne_of_none h1 hdx)]; exact h1, h2, by rw [mput_ne (ne_of_none h1 hx)]; exact h3⟩⟩
    refine ⟨F1, _, _, _, k3, .cons (.ref x) (r1.append (hd F1)), h1 x xM, fun v F' H' M' r g k' rv q => ?_⟩
    obtain ⟨rfl, q⟩ := q
    cases rv
    exact ⟨rfl, c _ _ _ _ _ ((g1.trans g3).trans g) k' (.ref x) q⟩
variable {X : Cx} {k : Nat} {f C : Addr} {fd : FuncData} {ps ks : List Str} {S : DSp} {dvs : List V} {dds : List D} {ds : List Value} {x : Str} {p pos : Pos} {e : Expr} {es : List Expr} {kws : List Keyword} {t tk : TA} {d dk : TDA}
theorem pd_call (F : FnOk X.prog X.w X.K X.mg X.base CX0 k f fd ps (spD X.K S)) (hr : Room k X.A) (hg : Gl X x) (hm : X.mg x = some (.ref f)) (hk : PySem.W.keepIn X.K (.ref f) = true) (hb : Binds X.K fd ps ds) (hd : Vals dvs ds) (hdd : ∀ F, RepL X.K F dvs dds)
    (ha : PDA X (e :: es) t d) (hdb : (x == ("__debug__" : Str)) = false := by decide) (he : starEach (e :: es) X.env = (false, eval e X.env) :: starEach es X.env := by rfl) (hpl : (backTo pos (starEach es X.env)).any (·.1) = false := by rfl) :
    PD X (.Call (.Name x p) (e :: es) [] pos) (tCall (spD X.K S) dvs E0 t) (dCall S dds d) := ⟨pe_call F hr hg hm hk hb hd pass0 ha.pe hdb he hpl, sim_call hdd ha.sim⟩
theorem pd_call0 (F : FnOk X.prog X.w X.K X.mg X.base CX0 k f fd ps (spD X.K S)) (hr : Room k X.A) (hg : Gl X x) (hm : X.mg x = some (.ref f)) (hk : PySem.W.keepIn X.K (.ref f) = true) (hb : Binds X.K fd ps ds) (hd : Vals dvs ds) (hdd : ∀ F, RepL X.K F dvs dds)
    (hdb : (x == ("__debug__" : Str)) = false := by decide) : PD X (.Call (.Name x p) [] [] pos) (tCall (spD X.K S) dvs E0 tNil) (dCall S dds dNil) := ⟨pe_call0 F hr hg hm hk hb hd pass0 hdb, sim_call hdd sim_nil⟩
theorem pd_make (Mk0 : Mk X.K C f) (F : FnOk X.prog X.w X.K X.mg X.base CX0 k f fd ps (spD X.K S)) (hr : Room (k + 1) X.A) (hg : Gl X x) (hm : X.mg x = some (.ref C)) (hb : Binds X.K fd ps ds) (hd : Vals dvs ds) (hdd : ∀ F, RepL X.K F dvs dds)
    (ha : PDA X (e :: es) t d) (hdb : (x == ("__debug__" : Str)) = false := by decide) (he : starEach (e :: es) X.env = (false, eval e X.env) :: starEach es X.env := by rfl) (hpl : (backTo pos (starEach es X.env)).any (·.1) = false := by rfl) :
    PD X (.Call (.Name x p) (e :: es) [] pos) (tMake C (spD X.K S) dvs E0 t) (dMake C S dds d) := ⟨pe_make Mk0 F hr hg hm hb hd pass0 ha.pe hdb he hpl, sim_make hdd ha.sim⟩
theorem pd_makeM (Mk0 : Mk X.K C f) (F : FnOk X.prog X.w X.K X.mg X.base CX0 k f fd ps (spD X.K S)) (hr : Room (k + 1) X.A) (hg : Gl X x) (hm : X.mg x = some (.ref C)) (hb : Binds X.K fd ps ds) (hd : Vals dvs ds) (hdd : ∀ F, RepL X.K F dvs dds)
    (ha : PDA X (e :: es) t d) (hdb : (x == ("__debug__" : Str)) = false := by decide) (he : starEach (e :: es) X.env = (false, eval e X.env) :: starEach es X.env := by rfl) (hpl : (backTo pos (starEach es X.env)).any (·.1) = false := by rfl) :
    PD X (.Call (.Name x p) (e :: es) [] pos) (tMake C (spD X.K S) dvs E0 t) (dMakeM C S dds d) := ⟨pe_make Mk0 F hr hg hm hb hd pass0 ha.pe hdb he hpl, sim_makeM hdd ha.sim⟩
/-- keywords' values -/
structure PDK (X : Cx) (kws : List Keyword) (t : TA) (d : TDA) : Prop where
  pe : PK X kws t
  sim : SimA X.K t d
theorem pdk_nil : PDK X [] tNil dNil := ⟨pk_nil, sim_nil⟩
theorem pdk_cons {nm : Option Str} {kpos : Pos} {te : TE} {de : TD} (ha : PD X e te de) (hr : PDK X kws t d) : PDK X (⟨nm, e, kpos⟩ :: kws) (tCons te t) (dCons de d) := ⟨pk_cons ha.pe hr.pe, sim_cons ha.sim hr.sim⟩
theorem pe_callN0 {sp : Sp} {E : XK} {CX : CXT} {g : List Value → List Value → List Value} {gV : List V → List V → List V} (F : FnOk X.prog X.w X.K X.mg X.base CX k f fd ps sp) (hr : Room k X.A) (hg : Gl X x) (hm : X.mg x = some (.ref f)) (hk : PySem.W.keepIn X.K (.ref f) = true) (hb : KBn X.K fd ps 0 ks g gV) (hx : Passes CX X E)
    (hkw : PK X kws tk) (hall : (backToKw pos (keywordEach kws X.env)).all (·.1.isSome) = true := by rfl) (hks : (backToKw pos (keywordEach kws X.env)).filterMap (·.1) = ks := by rfl)
    (hdb : (x == ("__debug__" : Str)) = false := by decide)
    (hpl : ((backTo pos (starEach [] X.env)).any (·.1) || (backToKw pos (keywordEach kws X.env)).any (·.1.isNone)) = false := by rfl) :
    PE X (.Call (.Name x p) [] kws pos) (tCallN 0 ks.length sp gV E tNil tk) := by
  refine ⟨fun pins s σ H Q I h => ?_⟩
  refine wpAny_Call_Name_kw (ld_glob I hg hm ?_ hdb)
  refine PySem.W.callWith_KW0 (h₀ := X.base) I.ok.mod.kin hk hall (thn (hkw.run pos pins s σ H _ I h) fun ws s2 ⟨zs, H2, I2, rz, l1, l2, q2⟩ => ⟨I2.kIn, ?_⟩) hpl
  rw [hks]
  exact run_fnN (us := []) F hr hb hx I2 .nil rz l1 l2 q2
theorem pd_callN {n : Nat} {ix : List Nat} {its : List Value} (F : FnOk X.prog X.w X.K X.mg X.base CX0 k f fd ps (spD X.K S)) (hr : Room k X.A) (hg : Gl X x) (hm : X.mg x = some (.ref f)) (hk : PySem.W.keepIn X.K (.ref f) = true) (hb : KBn X.K fd ps n ks (fun us ws => pick ix (us ++ (ws ++ its))) (fun vs zs => pick ix (vs ++ (zs ++ dvs)))) (hdd : ∀ F, RepL X.K F dvs dds)
    (ha : PDA X (e :: es) t d) (hkw : PDK X kws tk dk) (hall : (backToKw pos (keywordEach kws X.env)).all (·.1.isSome) = true := by rfl) (hks : (backToKw pos (keywordEach kws X.env)).filterMap (·.1) = ks := by rfl)
    (hdb : (x == ("__debug__" : Str)) = false := by decide) (he : starEach (e :: es) X.env = (false, eval e X.env) :: starEach es X.env := by rfl)
    (hpl : ((backTo pos (starEach (e :: es) X.env)).any (·.1) || (backToKw pos (keywordEach kws X.env)).any (·.1.isNone)) = false := by rfl) :
    PD X (.Call (.Name x p) (e :: es) kws pos) (tCallN n ks.length (spD X.K S) (fun vs zs => pick ix (vs ++ (zs ++ dvs))) E0 t tk) (dCallN S ix n ks.length dds d dk) :=
  ⟨pe_callN F hr hg hm hk hb pass0 ha.pe hkw.pe hall hks hdb he hpl, sim_callN hdd ha.sim hkw.sim⟩
theorem pd_callN0 {ix : List Nat} {its : List Value} (F : FnOk X.prog X.w X.K X.mg X.base CX0 k f fd ps (spD X.K S)) (hr : Room k X.A) (hg : Gl X x) (hm : X.mg x = some (.ref f)) (hk : PySem.W.keepIn X.K (.ref f) = true) (hb : KBn X.K fd ps 0 ks (fun us ws => pick ix (us ++ (ws ++ its))) (fun vs zs => pick ix (vs ++ (zs ++ dvs)))) (hdd : ∀ F, RepL X.K F dvs dds)
    (hkw : PDK X kws tk dk) (hall : (backToKw pos (keywordEach kws X.env)).all (·.1.isSome) = true := by rfl) (hks : (backToKw pos (keywordEach kws X.env)).filterMap (·.1) = ks := by rfl)
    (hdb : (x == ("__debug__" : Str)) = false := by decide)
    (hpl : ((backTo pos (starEach [] X.env)).any (·.1) || (backToKw pos (keywordEach kws X.env)).any (·.1.isNone)) = false := by rfl) :
    PD X (.Call (.Name x p) [] kws pos) (tCallN 0 ks.length (spD X.K S) (fun vs zs => pick ix (vs ++ (zs ++ dvs))) E0 tNil tk) (dCallN S ix 0 ks.length dds dNil dk) :=
  ⟨pe_callN0 F hr hg hm hk hb pass0 hkw.pe hall hks hdb hpl, sim_callN hdd sim_nil hkw.sim⟩
end

/-! ### a def, by its body over data -/
section
variable {P : Program} {w : World} {K : PySem.W.Frag} {mg : Str → Option Value} {base : Heap} {x qual : Str} {pa : Arguments} {body : List Stmt} {scope : Scope} {dvs : List V} {kws : List (Str × V)} {f : Addr} {fd : FuncData}
theorem fn_d {N ps : List Str} {k : Nat} {S : DSp} {d : TDS} (F : FunD K x qual pa body scope dvs kws f fd) (Sc : FnScope N ps scope) (len : ∀ ds M Q, S ds M Q → ds.length = ps.length)
    (hbody : ∀ (cdv : Value) (A : Around) (outer : List Env) (s : Shared) (H : Hp) (E : XK), Room k (A.deeper (envOfC qual scope s.heap.objs.size f cdv)) → ∃ t, PDSs (cxOf CX0 P w K mg base N qual scope f cdv A outer s H E).nox body t d)
    (hsem : ∀ ds M Q, S ds M Q → d { nx := fun _ M => Q .non M, rt := Q } (startD N ds) M) : FnOk P w K mg base CX0 (k + 1) f fd ps (spD K S) := by
  refine F.ok Sc (fun vs H Q E h => ?_) (fun cdv A outer s H vs Q E hr h => ?_)
  · obtain ⟨F, M, ds, Q0, _, r, h, _⟩ := h
    rw [r.length]
    exact len ds M Q0 h
  · obtain ⟨t, q⟩ := hbody cdv A outer s H E hr
    refine ⟨t, q.pe.nox, ?_⟩
    obtain ⟨F, M, ds, Q0, k, r, h, c⟩ := h
    exact q.sim F H M (L2.start N vs) (startD N ds) _ _ k (SRel.start r) (hsem ds M Q0 h) (fun σ F' H' M' Γ g k' s h => c .non F' H' M' .non g k' .non h) c
      (fun σ F' H' M' Γ g k' s h => h.elim) (fun σ F' H' M' Γ g k' s h => h.elim)
/-- how arguments come to parameters: all written; the defaults from the j-th on fill up -/
theorem bind_all {ps : List Str} (F : FunD K x qual pa body scope [] [] f fd)
    (h : ∀ (kV doc pm : Value) (an : Option Addr) (cdv ct : Value) (us : List Value), us.length = ps.length → bindArgs (PySem.W.fnOf x qual pa body scope .none kV doc pm an cdv ct) ⟨us, []⟩ = pure (ps.zip us)) : Binds K fd ps [] := F.bindsN h
/-- by keywords, no defaults: ix tells for each parameter its place among the values written -/
theorem kbind_all {ps ks : List Str} {n : Nat} {ix : List Nat} (F : FunD K x qual pa body scope [] [] f fd)
    (h : ∀ (kV doc pm : Value) (an : Option Addr) (cdv ct : Value) (us ws : List Value), us.length = n → ws.length = ks.length → bindArgs (PySem.W.fnOf x qual pa body scope .none kV doc pm an cdv ct) ⟨us, ks.zip ws⟩ = pure (ps.zip (pick ix (us ++ (ws ++ []))))) :
    KBn K fd ps n ks (fun us ws => pick ix (us ++ (ws ++ ([] : List Value)))) (fun vs zs => pick ix (vs ++ (zs ++ ([] : List V)))) := by
  obtain ⟨oc, od, dV, kV, doc, pm, an, cdv, ct, osl, rfl, lk, hcd, hD, hK⟩ := F.ex
  rcases hD with ⟨_, rfl⟩ | ⟨e, _⟩
  · exact ⟨fun s us ws X l1 l2 => .of_eq (h kV doc pm an cdv ct us ws l1 l2), fun r1 r2 => Vals.pick (r1.append (r2.append .nil)) ix⟩
  · exact absurd rfl e
/-- by keywords, with defaults -/
theorem kbind_dfl {ps ks : List Str} {n : Nat} {ix : List Nat} (F : FunD K x qual pa body scope dvs [] f fd) (hd : dvs ≠ [])
    (h : ∀ (T : Addr) (kV doc pm : Value) (an : Option Addr) (cdv ct : Value) (us ws its : List Value), us.length = n → ws.length = ks.length → its.length = dvs.length →
      ∃ k, bindArgs (PySem.W.fnOf x qual pa body scope (.ref T) kV doc pm an cdv ct) ⟨us, ks.zip ws⟩ = seqItems? (.ref T) >>= k ∧ k (some its.toArray) = pure (ps.zip (pick ix (us ++ (ws ++ its))))) :
    ∃ its, KBn K fd ps n ks (fun us ws => pick ix (us ++ (ws ++ its))) (fun vs zs => pick ix (vs ++ (zs ++ dvs))) := by
  obtain ⟨oc, od, dV, kV, doc, pm, an, cdv, ct, osl, rfl, lk, hcd, hD, hK⟩ := F.ex
  rcases hD with ⟨e, _⟩ | ⟨_, T, o, its, m, rfl, lT, oT, rT⟩
  · exact absurd e hd
  · refine ⟨its, fun s us ws X l1 l2 => ?_, fun r1 r2 => Vals.pick (r1.append (r2.append rT)) ix⟩
    obtain ⟨k, e1, e2⟩ := h T kV doc pm an cdv ct us ws its l1 l2 rT.length.symm
    refine BindsTo.of_looks fun M => ?_
    rw [e1]
    exact looks_items X lT oT (.of_pure e2)
end

/-! ### isinstance, tuple(range(..)), list(range(..)) -/
def tyNm : D → Option String
  | .non => some "NoneType"
  | .bl _ => some "bool"
  | .int _ => some "int"
  | .str _ => some "str"
  | .tup _ => some "tuple"
  | .lst _ => some "list"
  | .scr _ => some "list"
  | _ => none
/-- whether a built-in type is below another one, of those that stand here -/
def isA (a b : String) : Bool := a == b || (a == "bool" && b == "int")
def isiD : RCD := fun xs M Q => match xs with
  | [x, .ty n] => (match tyNm (view M x) with
    | some a => kitB a n = some (isA a n) ∧ Q (.bl (isA a n)) M
    | none => False)
  | _ => False
section
variable {K : PySem.W.Frag}
theorem rep_ty {F H : Hp} {M : Mem} (k : Ok K F H M) {v : V} {x : D} (r : Rep K F v x) {a : String} (e : tyNm (view M x) = some a) : TyX K H v (.type a) := by
  have q := k.view r
  cases h : view M x with
  | non => rw [h] at e q; cases e; cases q; exact .base .non
  | bl b => rw [h] at e q; cases e; cases q; exact .base (.bl b)
  | int i => rw [h] at e q; cases e; cases q; exact .base (.int i)
  | str z => rw [h] at e q; cases e; cases q; exact .base (.str z)
  | lst xs =>
    rw [h] at e q; cases e
    cases q with
    | lst h1 h2 => exact .base (.lst h1)
  | tup xs =>
    rw [h] at e q; cases e
    cases q with
    | tup h1 h2 =>
      rcases h1 with (h1 | ⟨o, h1⟩) | ⟨o, its, n, h1, h2, _⟩
      · exact .base (.tup h1)
      · exact .fTuple h1
      · exact .kTuple h1 h2
  | scr xs =>
    rw [h] at e q; cases e
    cases q with
    | scr h1 h2 =>
      rcases h1 with (h1 | ⟨o, h1⟩) | ⟨o, its, n, h1, h2, _⟩
      · exact .base (.lst h1)
      · exact .base (.frz h1)
      · exact .kList h1 h2
  | ty n => rw [h] at e; cases e
  | obj C ns ds => rw [h] at e; cases e
  | ref a => rw [h] at e; cases e
theorem sc_isi : SimC K (rIsi K) isiD := by
  intro F H M vs xs Q R k r h c
  match xs, r, h with
  | [], _, h => exact h.elim
  | [x], _, h => exact h.elim
  | [x, y], r, h =>
    obtain ⟨v, w, rfl, q1, q2⟩ := repL2 r
    unfold isiD at h
    cases y with
    | ty n =>
      cases q2
      cases e : tyNm (view M x) with
      | none => simp only [e] at h
      | some a =>
        simp only [e] at h
        exact ⟨v, .ty n, .type a, .type n, isA a n, rfl, .ty n, rep_ty k q1 e, kit_ty h.1, c _ F H M _ Go.refl k (.bl _) h.2⟩
    | _ => exact h.elim
  | _ :: y :: _ :: _, _, h => cases y <;> exact h.elim
/-- isinstance(x, (T1, T2)) -/
def dIsi2 (n1 n2 : String) (a : TD) : TD := fun Γ M Q => a Γ M fun x M1 => match tyNm (view M1 x) with
  | some t => kitB t n1 = some (isA t n1) ∧ kitB t n2 = some (isA t n2) ∧ Q (.bl (isA t n1 || isA t n2)) M1
  | none => False
theorem sim_isi2 {n1 n2 : String} {ta : TE} {da : TD} (ha : SimE K ta da) : SimE K (tCB (rIsiT K) (tCons ta (tCons (tTup (tCons (tC (.ty n1)) (tCons (tC (.ty n2)) tNil))) tNil))) (dIsi2 n1 n2 da) := fun F H M σ Γ Q R k s h c =>
  ha F H M σ Γ _ _ k s h fun v F1 H1 M1 x g1 k1 r1 h1 => by
    cases e : tyNm (view M1 x) with
    | none => simp only [e] at h1
    | some t =>
      simp only [e] at h1
      refine ⟨by show 2 ≤ sizeLine; decide, fun p hp => ?_⟩
      have k2 := k1.newF hp (.tup [.ty n1, .ty n2])
      have g2 := k1.goF hp (.tup [.ty n1, .ty n2])
      refine ⟨v, p, [.ty n1, .ty n2], .type t, [.type n1, .type n2], isA t n1 || isA t n2, rfl, upd_same, .cons (.ty n1) (.cons (.ty n2) .nil), rep_ty k2 (r1.mono g2.ext) e, ?_, c _ _ _ _ _ (g1.trans g2) k2 (.bl _) h1.2.2⟩
      refine kitAny_cons (kit_ty h1.1) (fun e1 => ?_) (fun e1 => by rw [e1]; rfl)
      rw [e1, Bool.false_or]
      refine kitAny_cons (kit_ty h1.2.1) (fun e2 => ?_) (fun e2 => e2)
      rw [e2]
      rfl
def dTupRg1 (a : TD) : TD := fun Γ M Q => a Γ M fun x M1 => match x with
  | .int n => RgOk 0 n ∧ Q (.tup (rngD 0 n.toNat)) M1
  | _ => False
def dTupRg2 (a b : TD) : TD := fun Γ M Q => a Γ M fun x M1 => b Γ M1 fun y M2 => match x, y with
  | .int i, .int j => RgOk i j ∧ Q (.tup (rngD i (j - i).toNat)) M2
  | _, _ => False
def dLstRg1 (a : TD) : TD := fun Γ M Q => a Γ M fun x M1 => match x with
  | .int n => RgOk 0 n ∧ Q (.lst (rngD 0 n.toNat)) M1
  | _ => False
def dLstRg2 (a b : TD) : TD := fun Γ M Q => a Γ M fun x M1 => b Γ M1 fun y M2 => match x, y with
  | .int i, .int j => RgOk i j ∧ Q (.lst (rngD i (j - i).toNat)) M2
  | _, _ => False
theorem repL_rng {F : Hp} {i j : Int} : RepL K F (rgV i j) (rngD i (j - i).toNat) := by
  unfold rgV rngD
  generalize (List.range (j - i).toNat) = l
  induction l with
  | nil => exact .nil
  | cons a l ih => exact .cons (.int _) ih
theorem sim_tupRg1 {ta : TE} {da : TD} (ha : SimE K ta da) : SimE K (tTupRg (tRg1 ta)) (dTupRg1 da) := fun F H M σ Γ Q R k s h c =>
  ha F H M σ Γ _ _ k s h fun v F1 H1 M1 x g1 k1 r1 h1 => by
    cases x with
    | int n =>
      cases r1
      refine ⟨n, rfl, h1.1, new_tup k1 (repL_rng (i := 0)) ?_ (c.go g1)⟩
      rw [Int.sub_zero]
      exact h1.2
    | _ => exact h1.elim
theorem sim_tupRg2 {ta tb : TE} {da db : TD} (ha : SimE K ta da) (hb : SimE K tb db) : SimE K (tTupRg (tRg2 ta tb)) (dTupRg2 da db) := fun F H M σ Γ Q R k s h c =>
  ha F H M σ Γ _ _ k s h fun v F1 H1 M1 x g1 k1 r1 h1 => hb F1 H1 M1 σ Γ _ _ k1 (s.mono g1.ext) h1 fun w F2 H2 M2 y g2 k2 r2 h2 => by
    cases x with
    | int i =>
      cases y with
      | int j => cases r1; cases r2; exact ⟨i, j, rfl, rfl, h2.1, new_tup k2 repL_rng h2.2 ((c.go g1).go g2)⟩
      | _ => exact h2.elim
    | _ => exact h2.elim
theorem sim_lstRg1 {ta : TE} {da : TD} (ha : SimE K ta da) : SimE K (tLstRg (tRg1 ta)) (dLstRg1 da) := fun F H M σ Γ Q R k s h c =>
  ha F H M σ Γ _ _ k s h fun v F1 H1 M1 x g1 k1 r1 h1 => by
    cases x with
    | int n =>
      cases r1
      refine ⟨n, rfl, h1.1, new_lst k1 (repL_rng (i := 0)) ?_ (c.go g1)⟩
      rw [Int.sub_zero]
      exact h1.2
    | _ => exact h1.elim
theorem sim_lstRg2 {ta tb : TE} {da db : TD} (ha : SimE K ta da) (hb : SimE K tb db) : SimE K (tLstRg (tRg2 ta tb)) (dLstRg2 da db) := fun F H M σ Γ Q R k s h c =>
  ha F H M σ Γ _ _ k s h fun v F1 H1 M1 x g1 k1 r1 h1 => hb F1 H1 M1 σ Γ _ _ k1 (s.mono g1.ext) h1 fun w F2 H2 M2 y g2 k2 r2 h2 => by
    cases x with
    | int i =>
      cases y with
      | int j => cases r1; cases r2; exact ⟨i, j, rfl, rfl, h2.1, new_lst k2 repL_rng h2.2 ((c.go g1).go g2)⟩
      | _ => exact h2.elim
    | _ => exact h2.elim
end
end DL

set_option Elab.async false
set_option linter.all false
set_option maxRecDepth 100000
set_option maxHeartbeats 4000000
namespace DL
open PySem PySem.Spec PyProof.Rows L2

theorem hu64 {A : Around} {k : Nat} (hr : Room k A) : A.units + 64 < cLine := by have := hr.un; omega
def iaddD : R2D := fun x y M Q => match x, y with
  | .int i, .int j => Q (.int (i + j)) M
  | _, _ => False
section
variable {X : Cx}
theorem oop_lt : OpR X (compareOp .Lt) (rI0 fun i j => .bl (decide (i < j))) := op_lt
theorem oop_le : OpR X (compareOp .LtE) (rI0 fun i j => .bl (decide (i ≤ j))) := op_le
theorem oop_gt : OpR X (compareOp .Gt) (rI0 fun i j => .bl (decide (j < i))) := op_gt
theorem oop_ge : OpR X (compareOp .GtE) (rI0 fun i j => .bl (decide (j ≤ i))) := op_ge
/-! the shapes that the printer writes -/
variable {o e a b c : Expr} {es : List Expr} {to te ta tb tc : TE} {do_ de da db dc : TD} {t : TA} {d : TDA} {apos cpos pos p : Pos}
theorem pd_app' (ho : PD X o to do_) (ha : PDA X (e :: es) t d) (hbase : attributeBase o "append" X.env (eval o X.env) = eval o X.env := by rfl)
    (hfew : ((backTo cpos (starEach (e :: es) X.env)).all (fun x => !x.1) && (backToKw cpos (keywordEach [] X.env)).all (fun x => x.1.isSome)
      && decide ((e :: es).length + ([] : List Keyword).length + (if ([] : List Keyword).isEmpty then 0 else 1) < 30)) = true := by rfl) (hline : (apos.endLine == cpos.line) = true := by rfl)
    (he : starEach (e :: es) X.env = (false, eval e X.env) :: starEach es X.env := by rfl) (hpl : (backTo cpos (starEach es X.env)).any (·.1) = false := by rfl) :
    PD X (.Call (.Attribute o "append" apos) (e :: es) [] cpos) (tBM X.K "list" rAppend to t) (dBM appD do_ d) :=
  pd_app (pe_bm PySem.F.plainAttrs_list PySem.F.slot_list_append PySem.F.type_list_append mt_append ho.pe ha.pe hbase hfew hline he hpl) ho.sim ha.sim
theorem pd_popAt' (ho : PD X o to do_) (ha : PDA X (e :: es) t d) (hbase : attributeBase o "pop" X.env (eval o X.env) = eval o X.env := by rfl)
    (hfew : ((backTo cpos (starEach (e :: es) X.env)).all (fun x => !x.1) && (backToKw cpos (keywordEach [] X.env)).all (fun x => x.1.isSome)
      && decide ((e :: es).length + ([] : List Keyword).length + (if ([] : List Keyword).isEmpty then 0 else 1) < 30)) = true := by rfl) (hline : (apos.endLine == cpos.line) = true := by rfl)
    (he : starEach (e :: es) X.env = (false, eval e X.env) :: starEach es X.env := by rfl) (hpl : (backTo cpos (starEach es X.env)).any (·.1) = false := by rfl) :
    PD X (.Call (.Attribute o "pop" apos) (e :: es) [] cpos) (tBM X.K "list" rPopAt to t) (dBM popAtD do_ d) :=
  pd_popAt (pe_bm PySem.F.plainAttrs_list PySem.F.slot_list_pop PySem.F.type_list_pop mt_popAt ho.pe ha.pe hbase hfew hline he hpl) ho.sim ha.sim
theorem pd_pop' (ho : PD X o to do_) (hbase : attributeBase o "pop" X.env (eval o X.env) = eval o X.env := by rfl) (hline : (apos.endLine == cpos.line) = true := by rfl) :
    PD X (.Call (.Attribute o "pop" apos) [] [] cpos) (tBM0 X.K "list" rPop to) (dBM0 popD do_) :=
  pd_pop (pe_bm0 PySem.F.plainAttrs_list PySem.F.slot_list_pop PySem.F.type_list_pop mt_pop ho.pe hbase hline) ho.sim
theorem sim_aug {K : PySem.W.Frag} {i : Nat} {f : Int → Int → Int} {dr : R2D} (hr : ∀ x y M Q, dr x y M Q → ∃ i j, x = .int i ∧ y = .int j ∧ Q (.int (f i j)) M) (he : SimE K te de) : SimS K (tAug i te (ipI f)) (dAug i dr de) := fun F H M σ Γ E D k s h n r b c => by
  obtain ⟨x, e1, h⟩ := look_of h
  obtain ⟨v, e2, rv⟩ := s.get i x e1
  refine ⟨v, e2, he F H M σ Γ _ _ k s h fun w F1 H1 M1 y g1 k1 r1 h1 => ?_⟩
  obtain ⟨a, b, rfl, rfl, h2⟩ := hr _ _ _ _ h1
  cases rv
  cases r1
  exact ⟨a, b, rfl, rfl, n _ F1 H1 M1 _ g1 k1 ((s.mono g1.ext).set i (.int _)) h2⟩
theorem iadd_of (x y : D) (M : Mem) (Q : QD) (h : iaddD x y M Q) : ∃ i j, x = .int i ∧ y = .int j ∧ Q (.int (i + j)) M := by
  cases x with
  | int i =>
    cases y with
    | int j => exact ⟨i, j, rfl, rfl, h⟩
    | _ => exact h.elim
  | _ => exact h.elim
theorem isub_of (x y : D) (M : Mem) (Q : QD) (h : subD x y M Q) : ∃ i j, x = .int i ∧ y = .int j ∧ Q (.int (i - j)) M := by
  cases x with
  | int i =>
    cases y with
    | int j => exact ⟨i, j, rfl, rfl, h⟩
    | _ => exact h.elim
  | _ => exact h.elim
theorem pds_augAdd {i : Nat} {x : Str} {pos' : Pos} (hN : X.N.Nodup) (hi : X.N[i]? = some x) (hx : Loc X.env.scope x) (he : PD X e te de) (hf : X.fn x = true ∨ X.env.scope.names.lookup x = some .local := by first | exact .inl rfl | exact .inr rfl | assumption) :
    PDS X (.AugAssign (.Name x pos') .Add e pos) (tAug i te (ipI fun i j => i + j)) (dAug i iaddD de) := ⟨ps_aug hN hi hx he.pe ip_add hf, sim_aug iadd_of he.sim⟩
theorem pds_augSub {i : Nat} {x : Str} {pos' : Pos} (hN : X.N.Nodup) (hi : X.N[i]? = some x) (hx : Loc X.env.scope x) (he : PD X e te de) (hf : X.fn x = true ∨ X.env.scope.names.lookup x = some .local := by first | exact .inl rfl | exact .inr rfl | assumption) :
    PDS X (.AugAssign (.Name x pos') .Sub e pos) (tAug i te (ipI fun i j => i - j)) (dAug i subD de) := ⟨ps_aug hN hi hx he.pe ip_sub hf, sim_aug isub_of he.sim⟩
theorem sim_chain {K : PySem.W.Frag} {r r' : R2} {dr dr' : R2D} (hr : Sim2 K r dr) (hr' : Sim2 K r' dr') (ha : SimE K ta da) (hb : SimE K tb db) (hc : SimE K tc dc) : SimE K (tChain r r' ta tb tc) (dChain dr dr' da db dc) := fun F H M σ Γ Q R k s h c =>
  ha F H M σ Γ _ _ k s h fun v F1 H1 M1 x g1 k1 r1 h1 => hb F1 H1 M1 σ Γ _ _ k1 (s.mono g1.ext) h1 fun w F2 H2 M2 y g2 k2 r2 h2 =>
    hr F2 H2 M2 v w x y _ _ k2 (r1.mono g2.ext) r2 h2 fun z F3 H3 M3 dz g3 k3 r3 h3 => by
      have g := (g1.trans g2).trans g3
      cases dz with
      | bl b =>
        cases r3
        refine ⟨b, rfl, ?_⟩
        cases b with
        | true =>
          simp only [if_true] at h3 ⊢
          refine hc F3 H3 M3 σ Γ _ _ k3 (s.mono g.ext) h3 fun u F4 H4 M4 du g4 k4 r4 h4 => ?_
          refine hr' F4 H4 M4 w u y du _ R k4 ((r2.mono g3.ext).mono g4.ext) r4 h4 fun z2 F5 H5 M5 dz2 g5 k5 r5 h5 => ?_
          cases dz2 with
          | bl b2 => exact c z2 F5 H5 M5 _ ((g.trans g4).trans g5) k5 r5 h5
          | _ => exact h5.elim
        | false =>
          simp only [Bool.false_eq_true, if_false] at h3 ⊢
          exact c _ F3 H3 M3 _ g k3 (.bl false) h3
      | _ => exact h3.elim
theorem pd_chain {op op' : CmpOp} {r r' : R2} {dr dr' : R2D} (ho : OpR X (compareOp op) r) (hs : Sim2 X.K r dr) (ho' : OpR X (compareOp op') r') (hs' : Sim2 X.K r' dr') (ha : PD X a ta da) (hb : PD X b tb db) (hc : PD X c tc dc)
    (hm : lastMarks [op, op'] [b, c] = false := by with_unfolding_all rfl) : PD X (.Compare a [op, op'] [b, c] pos) (tChain r r' ta tb tc) (dChain dr dr' da db dc) := ⟨pe_chain ho ho' ha.pe hb.pe hc.pe hm, sim_chain hs hs' ha.sim hb.sim hc.sim⟩
theorem pdt_chain {op op' : CmpOp} {r r' : R2} {dr dr' : R2D} (ho : OpR X (compareOp op) r) (hs : Sim2 X.K r dr) (ho' : OpR X (compareOp op') r') (hs' : Sim2 X.K r' dr') (ha : PD X a ta da) (hb : PD X b tb db) (hc : PD X c tc dc)
    (hm : lastMarks [op, op'] [b, c] = false := by with_unfolding_all rfl) : PDT X (.Compare a [op, op'] [b, c] pos) (tTest (tChain r r' ta tb tc)) (dTest (dChain dr dr' da db dc)) := ⟨pt_chain ho ho' ha.pe hb.pe hc.pe hm, sim_test (sim_chain hs hs' ha.sim hb.sim hc.sim)⟩
theorem pds_par' {i j : Nat} {x y : Str} {px py pt : Pos} {kt k2 pt2} (hc : X.calm = true) (hN : X.N.Nodup) (hi : X.N[i]? = some x) (hj : X.N[j]? = some y) (hij : i ≠ j)
    (hx : X.env.scope.names.lookup x = some .local) (hy : X.env.scope.names.lookup y = some .local) (ha : PDA X [a, b] t d)
    (hw : swappedStores [.Tuple [.Name x px, .Name y py] kt pt] (.Tuple [a, b] k2 pt2) X.env = pure (some [x, y]))
    (hs : swapsWithSole [.Tuple [.Name x px, .Name y py] kt pt] (.Tuple [a, b] k2 pt2) pos.line X.env = pure false := by rfl) :
    PDS X (.Assign [.Tuple [.Name x px, .Name y py] kt pt] (.Tuple [a, b] k2 pt2) pos) (tPar i j t) (dPar [i, j] d) := pds_par (ps_par hc hN hi hj hij hx hy ha.pe hw hs) ha.sim
theorem pds_par3' {i j l : Nat} {x y z : Str} {px py pz pt : Pos} {kt k2 pt2} (hc : X.calm = true) (hN : X.N.Nodup) (hi : X.N[i]? = some x) (hj : X.N[j]? = some y) (hl : X.N[l]? = some z) (hij : i ≠ j) (hil : i ≠ l) (hjl : j ≠ l)
    (hx : X.env.scope.names.lookup x = some .local) (hy : X.env.scope.names.lookup y = some .local) (hz : X.env.scope.names.lookup z = some .local) (ha : PDA X [a, b, c] t d)
    (hw : swappedStores [.Tuple [.Name x px, .Name y py, .Name z pz] kt pt] (.Tuple [a, b, c] k2 pt2) X.env = pure (some [x, y, z]))
    (hs : swapsWithSole [.Tuple [.Name x px, .Name y py, .Name z pz] kt pt] (.Tuple [a, b, c] k2 pt2) pos.line X.env = pure false := by rfl) :
    PDS X (.Assign [.Tuple [.Name x px, .Name y py, .Name z pz] kt pt] (.Tuple [a, b, c] k2 pt2) pos) (tPar3 i j l t) (dPar [i, j, l] d) := pds_par3 (ps_par3 hc hN hi hj hl hij hil hjl hx hy hz ha.pe hw hs) ha.sim
theorem pd_tupRg1 {p2 : Pos} (hm : X.mg "tuple" = none) (hm2 : X.mg "range" = none) (ha : PD X a ta da) (hc : X.calm = true := by rfl) (hg : Gl X "tuple" := by rfl) (hg2 : Gl X "range" := by rfl) (na : starEach [a] X.env = (false, eval a X.env) :: starEach [] X.env := by rfl)
    (na2 : starEach [Expr.Call (.Name "range" p2) [a] [] cpos] X.env = (false, eval (Expr.Call (.Name "range" p2) [a] [] cpos) X.env) :: starEach [] X.env := by rfl) :
    PD X (.Call (.Name "tuple" p) [.Call (.Name "range" p2) [a] [] cpos] [] pos) (tTupRg (tRg1 ta)) (dTupRg1 da) := ⟨pe_tupRg hc hg hm (prg_1 hg2 hm2 ha.pe na) na2, sim_tupRg1 ha.sim⟩
theorem pd_lstRg1 {p2 : Pos} (hm : X.mg "list" = none) (hm2 : X.mg "range" = none) (ha : PD X a ta da) (hc : X.calm = true := by rfl) (hg : Gl X "list" := by rfl) (hg2 : Gl X "range" := by rfl) (na : starEach [a] X.env = (false, eval a X.env) :: starEach [] X.env := by rfl)
    (na2 : starEach [Expr.Call (.Name "range" p2) [a] [] cpos] X.env = (false, eval (Expr.Call (.Name "range" p2) [a] [] cpos) X.env) :: starEach [] X.env := by rfl) :
    PD X (.Call (.Name "list" p) [.Call (.Name "range" p2) [a] [] cpos] [] pos) (tLstRg (tRg1 ta)) (dLstRg1 da) := ⟨pe_listRg hc hg hm (prg_1 hg2 hm2 ha.pe na) na2, sim_lstRg1 ha.sim⟩
theorem pd_tupRg2 {p2 : Pos} (hm : X.mg "tuple" = none) (hm2 : X.mg "range" = none) (ha : PD X a ta da) (hb : PD X b tb db) (hc : X.calm = true := by rfl) (hg : Gl X "tuple" := by rfl) (hg2 : Gl X "range" := by rfl)
    (na : starEach [a, b] X.env = (false, eval a X.env) :: starEach [b] X.env := by rfl) (nb : starEach [b] X.env = (false, eval b X.env) :: starEach [] X.env := by rfl) (hp : (backTo cpos (starEach [b] X.env)).any (·.1) = false := by rfl)
    (na2 : starEach [Expr.Call (.Name "range" p2) [a, b] [] cpos] X.env = (false, eval (Expr.Call (.Name "range" p2) [a, b] [] cpos) X.env) :: starEach [] X.env := by rfl) :
    PD X (.Call (.Name "tuple" p) [.Call (.Name "range" p2) [a, b] [] cpos] [] pos) (tTupRg (tRg2 ta tb)) (dTupRg2 da db) := ⟨pe_tupRg hc hg hm (prg_2 hg2 hm2 ha.pe hb.pe na nb hp) na2, sim_tupRg2 ha.sim hb.sim⟩
theorem pd_lstRg2 {p2 : Pos} (hm : X.mg "list" = none) (hm2 : X.mg "range" = none) (ha : PD X a ta da) (hb : PD X b tb db) (hc : X.calm = true := by rfl) (hg : Gl X "list" := by rfl) (hg2 : Gl X "range" := by rfl)
    (na : starEach [a, b] X.env = (false, eval a X.env) :: starEach [b] X.env := by rfl) (nb : starEach [b] X.env = (false, eval b X.env) :: starEach [] X.env := by rfl) (hp : (backTo cpos (starEach [b] X.env)).any (·.1) = false := by rfl)
    (na2 : starEach [Expr.Call (.Name "range" p2) [a, b] [] cpos] X.env = (false, eval (Expr.Call (.Name "range" p2) [a, b] [] cpos) X.env) :: starEach [] X.env := by rfl) :
    PD X (.Call (.Name "list" p) [.Call (.Name "range" p2) [a, b] [] cpos] [] pos) (tLstRg (tRg2 ta tb)) (dLstRg2 da db) := ⟨pe_listRg hc hg hm (prg_2 hg2 hm2 ha.pe hb.pe na nb hp) na2, sim_lstRg2 ha.sim hb.sim⟩
theorem pd_isi2 {x1 x2 : Str} {n1 n2 : String} {p1 p2 tpos : Pos} {kk : Nat} (hm : X.mg "isinstance" = none) (h1 : X.mg x1 = none) (h2 : X.mg x2 = none) (hv1 : bootBuiltins x1 = some (.type n1)) (hv2 : bootBuiltins x2 = some (.type n2)) (ha : PD X a ta da)
    (hg : Gl X "isinstance" := by rfl) (hg1 : Gl X x1 := by rfl) (hg2 : Gl X x2 := by rfl) (hv : bootBuiltins "isinstance" = some (.builtin "isinstance") := by decide +kernel) (hn1 : x1 ≠ "__name__" := by decide) (hd1 : (x1 == ("__debug__" : Str)) = false := by decide) (hn2 : x2 ≠ "__name__" := by decide) (hd2 : (x2 == ("__debug__" : Str)) = false := by decide)
    (s1 : starEach [Expr.Name x1 p1, Expr.Name x2 p2] X.env = (false, eval (Expr.Name x1 p1) X.env) :: starEach [Expr.Name x2 p2] X.env := by rfl) (s2 : starEach [Expr.Name x2 p2] X.env = (false, eval (Expr.Name x2 p2) X.env) :: starEach [] X.env := by rfl)
    (s3 : starEach [Expr.Tuple [.Name x1 p1, .Name x2 p2] kk tpos] X.env = (false, eval (Expr.Tuple [.Name x1 p1, .Name x2 p2] kk tpos) X.env) :: starEach [] X.env := by rfl)
    (s4 : starEach [a, Expr.Tuple [.Name x1 p1, .Name x2 p2] kk tpos] X.env = (false, eval a X.env) :: starEach [Expr.Tuple [.Name x1 p1, .Name x2 p2] kk tpos] X.env := by rfl)
    (hpl : (backTo pos (starEach [Expr.Tuple [.Name x1 p1, .Name x2 p2] kk tpos] X.env)).any (·.1) = false := by rfl) :
    PD X (.Call (.Name "isinstance" p) [a, .Tuple [.Name x1 p1, .Name x2 p2] kk tpos] [] pos) (tCB (rIsiT X.K) (tCons ta (tCons (tTup (tCons (tC (.ty n1)) (tCons (tC (.ty n2)) tNil))) tNil))) (dIsi2 n1 n2 da) :=
  ⟨pe_callB call_isiT hg hm hv (pa_cons ha.pe (pa_cons (pe_tup (pa_cons (pe_bltn hg1 h1 hv1 rfl hn1 hd1) (pa_cons (pe_bltn hg2 h2 hv2 rfl hn2 hd2) pa_nil s2) s1)) pa_nil s3) s4) (by decide) (by decide) s4 hpl, sim_isi2 ha.sim⟩
end

/-! ### what a caller has of a def -/
/-- a constant of the module -/
def GC (K : PySem.W.Frag) (mg : Str → Option Value) (x : Str) (d : D) : Prop := ∃ u v, mg x = some u ∧ RelV v u ∧ ∀ F, Rep K F v d
theorem gc_int {K : PySem.W.Frag} {mg : Str → Option Value} {x : Str} {i : Int} {t : Tok} (h : mg x = some (.int i t)) : GC K mg x (.int i) := ⟨_, .int i, h, ⟨t, rfl⟩, fun _ => .int i⟩
theorem gc_str {K : PySem.W.Frag} {mg : Str → Option Value} {x z : Str} {t : Tok} (h : mg x = some (.str z t)) : GC K mg x (.str z) := ⟨_, .str z, h, ⟨t, rfl⟩, fun _ => .str z⟩
theorem sqT_static {K : PySem.W.Frag} {F : Hp} {a : Addr} {dd : Option Addr} {its : List Value} {n : Nat} {sl : Array (Option Value)} {vs : List V} (h : K.lookup a = some ⟨.type "tuple", dd, .seq its.toArray n, sl⟩) (r : Vals vs its) (hz : its.length ≤ sizeLine) : SqT K F a vs :=
  .inr ⟨_, its.toArray, n, h, rfl, rfl, by simpa using hz, by simpa using r⟩
theorem gc_tup {K : PySem.W.Frag} {mg : Str → Option Value} {x : Str} {a : Addr} {vs : List V} {ds : List D} (h : mg x = some (.ref a)) (hs : ∀ F, SqT K F a vs) (hr : ∀ F, RepL K F vs ds) : GC K mg x (.tup ds) := ⟨_, .ref a, h, rfl, fun F => .tup (hs F) (hr F)⟩
structure Callee (P : Program) (w : World) (K : PySem.W.Frag) (mg : Str → Option Value) (base : Heap) (k : Nat) (x : Str) (ps : List Str) (S : DSp) (dds : List D) : Prop where
  ex : ∃ (f : Addr) (fd : FuncData) (ds : List Value) (dvs : List V), FnOk P w K mg base CX0 k f fd ps (spD K S) ∧ mg x = some (.ref f) ∧ PySem.W.keepIn K (.ref f) = true ∧ Binds K fd ps ds ∧ Vals dvs ds ∧ ∀ F, RepL K F dvs dds
structure CalleeC (P : Program) (w : World) (K : PySem.W.Frag) (mg : Str → Option Value) (base : Heap) (k : Nat) (x : Str) (C : Addr) (ps : List Str) (S : DSp) (dds : List D) : Prop where
  ex : ∃ (f : Addr) (fd : FuncData) (ds : List Value) (dvs : List V), Mk K C f ∧ FnOk P w K mg base CX0 k f fd ps (spD K S) ∧ mg x = some (.ref C) ∧ Binds K fd ps ds ∧ Vals dvs ds ∧ ∀ F, RepL K F dvs dds
structure CalleeN (P : Program) (w : World) (K : PySem.W.Frag) (mg : Str → Option Value) (base : Heap) (k : Nat) (x : Str) (ps : List Str) (S : DSp) (n : Nat) (ks : List Str) (ix : List Nat) (dds : List D) : Prop where
  ex : ∃ (f : Addr) (fd : FuncData) (its : List Value) (dvs : List V), FnOk P w K mg base CX0 k f fd ps (spD K S) ∧ mg x = some (.ref f) ∧ PySem.W.keepIn K (.ref f) = true ∧ KBn K fd ps n ks (fun us ws => pick ix (us ++ (ws ++ its))) (fun vs zs => pick ix (vs ++ (zs ++ dvs))) ∧ ∀ F, RepL K F dvs dds
end DL

set_option Elab.async false
set_option linter.all false
set_option maxRecDepth 100000
set_option maxHeartbeats 4000000
/-! The same rules with the written part K as a letter of its own (a block's X.K is not its outer X's to the sign). -/
namespace DL
open PySem PySem.Spec PyProof.Rows L2
section
variable {X : Cx} {K : PySem.W.Frag}
theorem ko_add (hK : X.K = K) : OpR X (binaryOp .Add) (rAddAny K) := by subst hK; exact oop_add
theorem ko_eq (hK : X.K = K) (hu : X.A.units + 64 < cLine) : OpR X (compareOp .Eq) (rEqAny K) := by subst hK; exact oop_eq hu
theorem ko_ne (hK : X.K = K) (hu : X.A.units + 64 < cLine) : OpR X (compareOp .NotEq) (rNeAny K) := by subst hK; exact oop_ne hu
theorem ko_in (hK : X.K = K) : OpR X (compareOp .In) (rIn K false) := by subst hK; exact op_in_seq
theorem ko_notIn (hK : X.K = K) : OpR X (compareOp .NotIn) (rIn K true) := by subst hK; exact op_notIn_seq
theorem kix (hK : X.K = K) : IxR X (rIxAny K) := by subst hK; exact oix
def rLenA (K : PySem.W.Frag) : List V → Hp → VK → Prop := fun xs H Q => ∃ x n, xs = [x] ∧ LenV K x H n ∧ Q (.int n) H
theorem kc_len (hK : X.K = K) : CallR X (.builtin "len") (rLenA K) := by subst hK; exact call_len
theorem ks_len : SimC K (rLenA K) lenD := sc_len
def rTupA (K : PySem.W.Frag) : List V → Hp → VK → Prop := fun xs H Q => ∃ p ys, xs = [.ref p] ∧ ((SqL K H p ys ∧ ∀ l, H l = none → Q (.ref l) (upd H l (.tup ys))) ∨ (SqT K H p ys ∧ Q (.ref p) H))
theorem kc_tuple (hK : X.K = K) : CallR X (.type "tuple") (rTupA K) := by subst hK; exact call_tuple_of
theorem ks_tuple : SimC K (rTupA K) tupleD := sc_tuple
def rLstA (K : PySem.W.Frag) : List V → Hp → VK → Prop := fun xs H Q => ∃ p ys, xs = [.ref p] ∧ (SqL K H p ys ∨ SqT K H p ys) ∧ ∀ l, H l = none → Q (.ref l) (upd H l (.lst ys))
theorem kc_list (hK : X.K = K) : CallR X (.type "list") (rLstA K) := by subst hK; exact call_list_of
theorem ks_list : SimC K (rLstA K) listD := sc_list
theorem ks_listM : SimC K (rLstA K) listMD := sc_listM
theorem kc_isi (hK : X.K = K) : CallR X (.builtin "isinstance") (rIsi K) := by subst hK; exact call_isi
theorem kc_min (hK : X.K = K) (hc : X.calm = true) : CallR X (.builtin "min") (rMin K) := by subst hK; exact cr_min hc
theorem kc_max (hK : X.K = K) (hc : X.calm = true) : CallR X (.builtin "max") (rMax K) := by subst hK; exact cr_max hc
theorem kc_sum (hK : X.K = K) (hc : X.calm = true) : CallR X (.builtin "sum") (rSum K) := by subst hK; exact cr_sum hc
theorem kc_all (hK : X.K = K) (hc : X.calm = true) : CallR X (.builtin "all") (rAll K) := by subst hK; exact cr_all hc
theorem kc_any (hK : X.K = K) (hc : X.calm = true) : CallR X (.builtin "any") (rAny K) := by subst hK; exact cr_any hc
variable {o e e2 a b c : Expr} {es : List Expr} {to te ta tb tc tl : TE} {do_ de da db dc dl : TD} {t : TA} {d : TDA} {apos cpos pos p p1 p2 p3 : Pos}
theorem kd_app (hK : X.K = K) (ho : PD X o to do_) (ha : PDA X (e :: es) t d) (hbase : attributeBase o "append" X.env (eval o X.env) = eval o X.env := by rfl)
    (hfew : ((backTo cpos (starEach (e :: es) X.env)).all (fun x => !x.1) && (backToKw cpos (keywordEach [] X.env)).all (fun x => x.1.isSome)
      && decide ((e :: es).length + ([] : List Keyword).length + (if ([] : List Keyword).isEmpty then 0 else 1) < 30)) = true := by rfl) (hline : (apos.endLine == cpos.line) = true := by rfl)
    (he : starEach (e :: es) X.env = (false, eval e X.env) :: starEach es X.env := by rfl) (hpl : (backTo cpos (starEach es X.env)).any (·.1) = false := by rfl) :
    PD X (.Call (.Attribute o "append" apos) (e :: es) [] cpos) (tBM K "list" rAppend to t) (dBM appD do_ d) := by subst hK; exact pd_app' ho ha hbase hfew hline he hpl
theorem kd_popAt (hK : X.K = K) (ho : PD X o to do_) (ha : PDA X (e :: es) t d) (hbase : attributeBase o "pop" X.env (eval o X.env) = eval o X.env := by rfl)
    (hfew : ((backTo cpos (starEach (e :: es) X.env)).all (fun x => !x.1) && (backToKw cpos (keywordEach [] X.env)).all (fun x => x.1.isSome)
      && decide ((e :: es).length + ([] : List Keyword).length + (if ([] : List Keyword).isEmpty then 0 else 1) < 30)) = true := by rfl) (hline : (apos.endLine == cpos.line) = true := by rfl)
    (he : starEach (e :: es) X.env = (false, eval e X.env) :: starEach es X.env := by rfl) (hpl : (backTo cpos (starEach es X.env)).any (·.1) = false := by rfl) :
    PD X (.Call (.Attribute o "pop" apos) (e :: es) [] cpos) (tBM K "list" rPopAt to t) (dBM popAtD do_ d) := by subst hK; exact pd_popAt' ho ha hbase hfew hline he hpl
theorem kd_pop (hK : X.K = K) (ho : PD X o to do_) (hbase : attributeBase o "pop" X.env (eval o X.env) = eval o X.env := by rfl) (hline : (apos.endLine == cpos.line) = true := by rfl) :
    PD X (.Call (.Attribute o "pop" apos) [] [] cpos) (tBM0 K "list" rPop to) (dBM0 popD do_) := by subst hK; exact pd_pop' ho hbase hline
theorem kd_slice (hK : X.K = K) {lo hi : Option Expr} {tl th : TO} {dl dh : TDO} (he : PD X e te de) (hl : PDO X lo tl dl) (hh : PDO X hi th dh) : PD X (.Subscript e (.Slice lo hi none p2) pos) (tSl (rSlAny K) te tl th) (dSl de dl dh) := by subst hK; exact pd_slice he hl hh
theorem kd_rev (hK : X.K = K) {n : Nat} (he : PD X e te de) : PD X (.Subscript e (.Slice none none (some (.UnaryOp .USub (.Constant (.int 1) n p1) p2)) p3) pos) (tRevL K te) (dRev de) := by subst hK; exact pd_rev he
theorem kd_revM (hK : X.K = K) {n : Nat} (he : PD X e te de) : PD X (.Subscript e (.Slice none none (some (.UnaryOp .USub (.Constant (.int 1) n p1) p2)) p3) pos) (tRevL K te) (dRevM de) := by subst hK; exact pd_revM he
theorem kd_fld (hK : X.K = K) {C : Addr} {ns : List Str} {i : Nat} {f : Str} (cl : Cls K C) (na : NoAttr K C f) (hi : ns.idxOf? f = some i) (ha : PD X e ta da) (hb : attributeBase e f X.env (eval e X.env) = eval e X.env := by rfl) :
    PD X (.Attribute e f pos) (tFld K ta f) (dFld C ns i da) := by subst hK; exact pd_fld cl na hi ha hb
theorem kds_setNew (hK : X.K = K) {C : Addr} {f : Str} {pos' : Pos} (cl : Cls K C) (na : NoAttr K C f) (ho : PD X o to do_) (ha : PD X e ta da) (hs : swapsWith e (some (.Attribute o f pos')) pos.line X.env = pure false := by rfl) :
    PDS X (.Assign [.Attribute o f pos'] e pos) (sFld K to ta f) (dSetNew C f do_ da) := by subst hK; exact pds_setNew cl na ho ha hs
theorem kds_setOld (hK : X.K = K) {C : Addr} {ns0 : List Str} {i : Nat} {f : Str} {pos' : Pos} (cl : Cls K C) (na : NoAttr K C f) (hi : ns0.idxOf? f = some i) (hlen : ns0.length < 1000) (ho : PD X o to do_) (ha : PD X e ta da) (hs : swapsWith e (some (.Attribute o f pos')) pos.line X.env = pure false := by rfl) :
    PDS X (.Assign [.Attribute o f pos'] e pos) (sFld K to ta f) (dSetOld C ns0 i do_ da) := by subst hK; exact pds_setOld cl na hi hlen ho ha hs
theorem kdg_tup (hK : X.K = K) {k : Nat} {w : TGs} {dw : TDGs} {n : Nat} (hc : X.calm = true) (h : PDGs X es w dw) (hn : (assignEach es X.env).length = n := by rfl) (hst : (assignEach es X.env).findIdx? (·.1) = none := by rfl) : PDG X (.Tuple es k pos) (gTup K n w) (dgTup n dw) := by subst hK; exact pdg_tup hc h hn hst
theorem kdi_any (hK : X.K = K) {tg l : Expr} (hl : PD X l tl dl) : PDI X tg l (iAny K tl) (diAny dl) := by subst hK; exact pdi_any hl
theorem kdi_enum (hK : X.K = K) {elts : List Expr} {kk : Nat} {tpos : Pos} (hg : Gl X "enumerate") (hm : X.mg "enumerate" = none) (ha : PDA X [e] t d) (hs : starEach [e] X.env = [(false, eval e X.env)] := by rfl) : PDI X (.Tuple elts kk tpos) (.Call (.Name "enumerate" p) [e] [] pos) (iEnumA K t) (diEnum d) := by subst hK; exact pdi_enum hg hm ha hs
theorem kdi_zip (hK : X.K = K) {elts : List Expr} {kk : Nat} {tpos : Pos} (hg : Gl X "zip") (hm : X.mg "zip" = none) (ha : PDA X [e, e2] t d) (hs : starEach [e, e2] X.env = (false, eval e X.env) :: starEach [e2] X.env := by rfl) (hpl : (backTo pos (starEach [e2] X.env)).any (·.1) = false := by rfl) :
    PDI X (.Tuple elts kk tpos) (.Call (.Name "zip" p) [e, e2] [] pos) (RZ.iZipA K t) (diZip d) := by subst hK; exact pdi_zip hg hm ha hs hpl
theorem kd_isi2 (hK : X.K = K) {x1 x2 : Str} {n1 n2 : String} {tpos : Pos} {kk : Nat} (hm : X.mg "isinstance" = none) (h1 : X.mg x1 = none) (h2 : X.mg x2 = none) (hv1 : bootBuiltins x1 = some (.type n1)) (hv2 : bootBuiltins x2 = some (.type n2)) (ha : PD X a ta da)
    (hg : Gl X "isinstance" := by rfl) (hg1 : Gl X x1 := by rfl) (hg2 : Gl X x2 := by rfl) (hv : bootBuiltins "isinstance" = some (.builtin "isinstance") := by decide +kernel) (hn1 : x1 ≠ "__name__" := by decide) (hd1 : (x1 == ("__debug__" : Str)) = false := by decide) (hn2 : x2 ≠ "__name__" := by decide) (hd2 : (x2 == ("__debug__" : Str)) = false := by decide)
    (s1 : starEach [Expr.Name x1 p1, Expr.Name x2 p2] X.env = (false, eval (Expr.Name x1 p1) X.env) :: starEach [Expr.Name x2 p2] X.env := by rfl) (s2 : starEach [Expr.Name x2 p2] X.env = (false, eval (Expr.Name x2 p2) X.env) :: starEach [] X.env := by rfl)
    (s3 : starEach [Expr.Tuple [.Name x1 p1, .Name x2 p2] kk tpos] X.env = (false, eval (Expr.Tuple [.Name x1 p1, .Name x2 p2] kk tpos) X.env) :: starEach [] X.env := by rfl)
    (s4 : starEach [a, Expr.Tuple [.Name x1 p1, .Name x2 p2] kk tpos] X.env = (false, eval a X.env) :: starEach [Expr.Tuple [.Name x1 p1, .Name x2 p2] kk tpos] X.env := by rfl)
    (hpl : (backTo pos (starEach [Expr.Tuple [.Name x1 p1, .Name x2 p2] kk tpos] X.env)).any (·.1) = false := by rfl) :
    PD X (.Call (.Name "isinstance" p) [a, .Tuple [.Name x1 p1, .Name x2 p2] kk tpos] [] pos) (tCB (rIsiT K) (tCons ta (tCons (tTup (tCons (tC (.ty n1)) (tCons (tC (.ty n2)) tNil))) tNil))) (dIsi2 n1 n2 da) := by
  subst hK; exact pd_isi2 hm h1 h2 hv1 hv2 ha hg hg1 hg2 hv hn1 hd1 hn2 hd2 s1 s2 s3 s4 hpl
variable {k : Nat} {f C : Addr} {fd : FuncData} {ps ks : List Str} {S : DSp} {dvs : List V} {dds : List D} {ds : List Value} {x : Str} {kws : List Keyword} {tk : TA} {dk : TDA}
theorem kd_call (hK : X.K = K) (F : FnOk X.prog X.w K X.mg X.base CX0 k f fd ps (spD K S)) (hr : Room k X.A) (hg : Gl X x) (hm : X.mg x = some (.ref f)) (hk : PySem.W.keepIn K (.ref f) = true) (hb : Binds K fd ps ds) (hd : Vals dvs ds) (hdd : ∀ F, RepL K F dvs dds)
    (ha : PDA X (e :: es) t d) (hdb : (x == ("__debug__" : Str)) = false := by decide) (he : starEach (e :: es) X.env = (false, eval e X.env) :: starEach es X.env := by rfl) (hpl : (backTo pos (starEach es X.env)).any (·.1) = false := by rfl) :
    PD X (.Call (.Name x p) (e :: es) [] pos) (tCall (spD K S) dvs E0 t) (dCall S dds d) := by subst hK; exact pd_call F hr hg hm hk hb hd hdd ha hdb he hpl
theorem kd_call0 (hK : X.K = K) (F : FnOk X.prog X.w K X.mg X.base CX0 k f fd ps (spD K S)) (hr : Room k X.A) (hg : Gl X x) (hm : X.mg x = some (.ref f)) (hk : PySem.W.keepIn K (.ref f) = true) (hb : Binds K fd ps ds) (hd : Vals dvs ds) (hdd : ∀ F, RepL K F dvs dds)
    (hdb : (x == ("__debug__" : Str)) = false := by decide) : PD X (.Call (.Name x p) [] [] pos) (tCall (spD K S) dvs E0 tNil) (dCall S dds dNil) := by subst hK; exact pd_call0 F hr hg hm hk hb hd hdd hdb
theorem kd_make (hK : X.K = K) (Mk0 : Mk K C f) (F : FnOk X.prog X.w K X.mg X.base CX0 k f fd ps (spD K S)) (hr : Room (k + 1) X.A) (hg : Gl X x) (hm : X.mg x = some (.ref C)) (hb : Binds K fd ps ds) (hd : Vals dvs ds) (hdd : ∀ F, RepL K F dvs dds)
    (ha : PDA X (e :: es) t d) (hdb : (x == ("__debug__" : Str)) = false := by decide) (he : starEach (e :: es) X.env = (false, eval e X.env) :: starEach es X.env := by rfl) (hpl : (backTo pos (starEach es X.env)).any (·.1) = false := by rfl) :
    PD X (.Call (.Name x p) (e :: es) [] pos) (tMake C (spD K S) dvs E0 t) (dMake C S dds d) := by subst hK; exact pd_make Mk0 F hr hg hm hb hd hdd ha hdb he hpl
theorem kd_makeM (hK : X.K = K) (Mk0 : Mk K C f) (F : FnOk X.prog X.w K X.mg X.base CX0 k f fd ps (spD K S)) (hr : Room (k + 1) X.A) (hg : Gl X x) (hm : X.mg x = some (.ref C)) (hb : Binds K fd ps ds) (hd : Vals dvs ds) (hdd : ∀ F, RepL K F dvs dds)
    (ha : PDA X (e :: es) t d) (hdb : (x == ("__debug__" : Str)) = false := by decide) (he : starEach (e :: es) X.env = (false, eval e X.env) :: starEach es X.env := by rfl) (hpl : (backTo pos (starEach es X.env)).any (·.1) = false := by rfl) :
    PD X (.Call (.Name x p) (e :: es) [] pos) (tMake C (spD K S) dvs E0 t) (dMakeM C S dds d) := by subst hK; exact pd_makeM Mk0 F hr hg hm hb hd hdd ha hdb he hpl
theorem kd_callN (hK : X.K = K) {n : Nat} {ix : List Nat} {its : List Value} (F : FnOk X.prog X.w K X.mg X.base CX0 k f fd ps (spD K S)) (hr : Room k X.A) (hg : Gl X x) (hm : X.mg x = some (.ref f)) (hk : PySem.W.keepIn K (.ref f) = true) (hb : KBn K fd ps n ks (fun us ws => pick ix (us ++ (ws ++ its))) (fun vs zs => pick ix (vs ++ (zs ++ dvs)))) (hdd : ∀ F, RepL K F dvs dds)
    (ha : PDA X (e :: es) t d) (hkw : PDK X kws tk dk) (hall : (backToKw pos (keywordEach kws X.env)).all (·.1.isSome) = true := by rfl) (hks : (backToKw pos (keywordEach kws X.env)).filterMap (·.1) = ks := by rfl)
    (hdb : (x == ("__debug__" : Str)) = false := by decide) (he : starEach (e :: es) X.env = (false, eval e X.env) :: starEach es X.env := by rfl)
    (hpl : ((backTo pos (starEach (e :: es) X.env)).any (·.1) || (backToKw pos (keywordEach kws X.env)).any (·.1.isNone)) = false := by rfl) :
    PD X (.Call (.Name x p) (e :: es) kws pos) (tCallN n ks.length (spD K S) (fun vs zs => pick ix (vs ++ (zs ++ dvs))) E0 t tk) (dCallN S ix n ks.length dds d dk) := by subst hK; exact pd_callN F hr hg hm hk hb hdd ha hkw hall hks hdb he hpl
theorem kd_callN0 (hK : X.K = K) {ix : List Nat} {its : List Value} (F : FnOk X.prog X.w K X.mg X.base CX0 k f fd ps (spD K S)) (hr : Room k X.A) (hg : Gl X x) (hm : X.mg x = some (.ref f)) (hk : PySem.W.keepIn K (.ref f) = true) (hb : KBn K fd ps 0 ks (fun us ws => pick ix (us ++ (ws ++ its))) (fun vs zs => pick ix (vs ++ (zs ++ dvs)))) (hdd : ∀ F, RepL K F dvs dds)
    (hkw : PDK X kws tk dk) (hall : (backToKw pos (keywordEach kws X.env)).all (·.1.isSome) = true := by rfl) (hks : (backToKw pos (keywordEach kws X.env)).filterMap (·.1) = ks := by rfl)
    (hdb : (x == ("__debug__" : Str)) = false := by decide)
    (hpl : ((backTo pos (starEach [] X.env)).any (·.1) || (backToKw pos (keywordEach kws X.env)).any (·.1.isNone)) = false := by rfl) :
    PD X (.Call (.Name x p) [] kws pos) (tCallN 0 ks.length (spD K S) (fun vs zs => pick ix (vs ++ (zs ++ dvs))) E0 tNil tk) (dCallN S ix 0 ks.length dds dNil dk) := by subst hK; exact pd_callN0 F hr hg hm hk hb hdd hkw hall hks hdb hpl
end
end DL

set_option Elab.async false
set_option linter.all false
set_option maxRecDepth 100000
set_option maxHeartbeats 4000000
/-! A law's source of draws: a list of great cells and a number, hidden. -/
namespace DL
open PySem PySem.Spec PyProof.Rows L2

/-- one turn of reading: what the letters of a body over data say -/
theorem ite_tt {A B : Prop} : (if true = true then A else B) = A := if_pos rfl
theorem ite_ff {A B : Prop} : (if false = true then A else B) = B := if_neg Bool.false_ne_true
theorem ite_tt' {α : Type} {a b : α} : (if true = true then a else b) = a := if_pos rfl
theorem ite_ff' {α : Type} {a b : α} : (if false = true then a else b) = b := if_neg Bool.false_ne_true

theorem pyL_ints (ns : List Int) : pyL (ns.map D.int) = ns.map PyData.int := by
  induction ns with
  | nil => rfl
  | cons n ns ih => rw [List.map_cons, pyL, ih, List.map_cons]; rfl
theorem isPyL_ints (ns : List Int) : isPyL (ns.map D.int) = true := by
  induction ns with
  | nil => rfl
  | cons n ns ih => rw [List.map_cons, isPyL, ih]; rfl
theorem canLay_ints (ns : List Int) : PyData.canLayAll0 (ns.map PyData.int) = true := by
  induction ns with
  | nil => rfl
  | cons n ns ih => rw [List.map_cons, PyData.canLayAll0, ih]; rfl
theorem depth_ints (ns : List Int) : PyData.depthAll (ns.map PyData.int) = 0 := by
  induction ns with
  | nil => rfl
  | cons n ns ih => rw [List.map_cons, PyData.depthAll, ih]; rfl
theorem shaped_ints (ns : List Int) : SeqAt.shaped (.list (ns.map PyData.int)) = true := by
  show (PyData.canLay0 (.list (ns.map PyData.int)) && decide (PyData.depth (.list (ns.map PyData.int)) ≤ 64)) = true
  rw [Bool.and_eq_true]
  refine ⟨by rw [PyData.canLay0]; exact canLay_ints ns, decide_eq_true ?_⟩
  rw [PyData.depth, depth_ints]
  decide
theorem shaped_intsT (ns : List Int) : SeqAt.shaped (.tuple (ns.map PyData.int)) = true := by
  show (PyData.canLay0 (.tuple (ns.map PyData.int)) && decide (PyData.depth (.tuple (ns.map PyData.int)) ≤ 64)) = true
  rw [Bool.and_eq_true]
  refine ⟨by rw [PyData.canLay0]; exact canLay_ints ns, decide_eq_true ?_⟩
  rw [PyData.depth, depth_ints]
  decide
/-- a list of numbers against the empty one -/
theorem deepEq_nil {ns : List Int} {k : Bool → Prop} (h : k ns.isEmpty) : deepEq (.lst (ns.map D.int)) (.lst []) k := by
  refine ⟨by rw [isPy]; exact isPyL_ints ns, rfl, by rw [py, pyL_ints]; exact shaped_ints ns, by decide, ?_⟩
  rw [py, py, pyL_ints, pyL]
  cases ns with
  | nil => exact h
  | cons n ns => exact h


/-! ### what an operation is on data that stands there: to rewrite by -/
section
variable {M : Mem} {Q : QD} {i j : Int} {a b : Bool} {s z : Str} {xs ys : List D} {x y : D} {k : D → Prop}
theorem addD_int : addD (.int i) (.int j) M Q = Q (.int (i + j)) M := rfl
theorem addD_lst : addD (.lst xs) (.lst ys) M Q = (xs.length + ys.length ≤ sizeLine ∧ Q (.lst (xs ++ ys)) M) := rfl
theorem addD_tup : addD (.tup xs) (.tup ys) M Q = (xs.length + ys.length ≤ sizeLine ∧ Q (.tup (xs ++ ys)) M) := rfl
theorem addD_str : addD (.str s) (.str z) M Q = (s.length + z.length ≤ sizeLine ∧ Q (.str (s ++ z)) M) := rfl
theorem iaddD_int : iaddD (.int i) (.int j) M Q = Q (.int (i + j)) M := rfl
theorem subD_int : subD (.int i) (.int j) M Q = Q (.int (i - j)) M := rfl
theorem mulD_int : mulD (.int i) (.int j) M Q = (((-(2 ^ 64) < i ∧ i < 2 ^ 64) ∨ (-(2 ^ 64) < j ∧ j < 2 ^ 64)) ∧ Q (.int (i * j)) M) := rfl
theorem mulD_lst : mulD (.lst xs) (.int j) M Q = (-(2 ^ 63) ≤ j ∧ j < 2 ^ 63 ∧ xs.length * j.toNat ≤ sizeLine ∧ Q (.lst (List.replicate j.toNat xs).flatten) M) := rfl
theorem fdivD_int : fdivD (.int i) (.int j) M Q = ((0 < j ∧ j < 1073741824) ∧ Q (.int (i / j)) M) := rfl
theorem modD_int : modD (.int i) (.int j) M Q = (0 < j ∧ Q (.int (i % j)) M) := rfl
theorem powD_int : powD (.int i) (.int j) M Q = ((0 ≤ j ∧ j ≤ 1000000 ∧ i.natAbs < 2 ^ 64) ∧ Q (.int (i ^ j.toNat)) M) := rfl
theorem negD_int : negD (.int i) M Q = Q (.int (-i)) M := rfl
theorem ltD_int : ltD (.int i) (.int j) M Q = Q (.bl (decide (i < j))) M := rfl
theorem leD_int : leD (.int i) (.int j) M Q = Q (.bl (decide (i ≤ j))) M := rfl
theorem gtD_int : gtD (.int i) (.int j) M Q = Q (.bl (decide (j < i))) M := rfl
theorem geD_int : geD (.int i) (.int j) M Q = Q (.bl (decide (j ≤ i))) M := rfl
theorem eqD_int : eqD (.int i) (.int j) M Q = Q (.bl (decide (i = j))) M := rfl
theorem eqD_bl : eqD (.bl a) (.bl b) M Q = Q (.bl (decide (a = b))) M := rfl
theorem eqD_str : eqD (.str s) (.str z) M Q = Q (.bl (decide (s = z))) M := rfl
theorem eqD_tup : eqD (.tup xs) (.tup ys) M Q = deepEq (.tup xs) (.tup ys) fun b => Q (.bl b) M := rfl
theorem eqD_lst : eqD (.lst xs) (.lst ys) M Q = deepEq (.lst xs) (.lst ys) fun b => Q (.bl b) M := rfl
theorem neD_int : neD (.int i) (.int j) M Q = Q (.bl (!decide (i = j))) M := rfl
theorem neD_bl : neD (.bl a) (.bl b) M Q = Q (.bl (!decide (a = b))) M := rfl
theorem neD_str : neD (.str s) (.str z) M Q = Q (.bl (!decide (s = z))) M := rfl
theorem neD_tup : neD (.tup xs) (.tup ys) M Q = deepEq (.tup xs) (.tup ys) fun b => Q (.bl (!b)) M := rfl
theorem neD_lst : neD (.lst xs) (.lst ys) M Q = deepEq (.lst xs) (.lst ys) fun b => Q (.bl (!b)) M := rfl
theorem isD_non : isD x .non M Q = Q (.bl (isNonD x)) M := rfl
theorem isD_bl : isD (.bl a) (.bl b) M Q = Q (.bl (decide (a = b))) M := rfl
theorem notD_non : notD x .non M Q = Q (.bl (!isNonD x)) M := rfl
theorem notD_bl : notD (.bl a) (.bl b) M Q = Q (.bl (!decide (a = b))) M := rfl
theorem isNon_non : isNonD .non = true := rfl
theorem isNon_int : isNonD (.int i) = false := rfl
theorem isNon_bl : isNonD (.bl a) = false := rfl
theorem isNon_str : isNonD (.str s) = false := rfl
theorem isNon_tup : isNonD (.tup xs) = false := rfl
theorem isNon_lst : isNonD (.lst xs) = false := rfl
theorem intD_int : intD [.int i] M Q = Q (.int i) M := rfl
theorem intD_bl : intD [.bl a] M Q = Q (.int (if a then 1 else 0)) M := rfl
theorem absD_int : absD [.int i] M Q = Q (.int (if i < 0 then -i else i)) M := rfl
theorem max2D_int : max2D [.int i, .int j] M Q = Q (.int (max i j)) M := by
  have e : (if j > i then j else i) = max i j := by split <;> omega
  rw [← e]; rfl
theorem min2D_int : min2D [.int i, .int j] M Q = Q (.int (min i j)) M := by
  have e : (if j < i then j else i) = min i j := by split <;> omega
  rw [← e]; rfl
theorem lenD_lst : lenD [.lst xs] M Q = Q (.int (xs.length : Nat)) M := rfl
theorem lenD_tup : lenD [.tup xs] M Q = Q (.int (xs.length : Nat)) M := rfl
theorem lenD_scr : lenD [.scr xs] M Q = Q (.int (xs.length : Nat)) M := rfl
theorem tupleD_lst : tupleD [.lst xs] M Q = Q (.tup xs) M := rfl
theorem tupleD_tup : tupleD [.tup xs] M Q = Q (.tup xs) M := rfl
theorem listD_lst : listD [.lst xs] M Q = Q (.lst xs) M := rfl
theorem listD_tup : listD [.tup xs] M Q = Q (.lst xs) M := rfl
theorem listMD_lst : listMD [.lst xs] M Q = ∀ p, M p = none → Q (.ref p) (mput M p (.lst xs)) := rfl
theorem listMD_tup : listMD [.tup xs] M Q = ∀ p, M p = none → Q (.ref p) (mput M p (.lst xs)) := rfl
theorem ixD_tup : ixD (.tup xs) (.int i) M Q = nth xs i fun d => Q d M := rfl
theorem ixD_lst : ixD (.lst xs) (.int i) M Q = nth xs i fun d => Q d M := rfl
theorem ixD_scr : ixD (.scr xs) (.int i) M Q = nth xs i fun d => Q d M := rfl
theorem inD_lst : inD x (.lst ys) M Q = (flatD x = true ∧ ys.all flatD = true ∧ Q (.bl (ys.any fun z => eqF z x)) M) := rfl
theorem inD_tup : inD x (.tup ys) M Q = (flatD x = true ∧ ys.all flatD = true ∧ Q (.bl (ys.any fun z => eqF z x)) M) := rfl
theorem notInD_lst : notInD x (.lst ys) M Q = (flatD x = true ∧ ys.all flatD = true ∧ Q (.bl (!ys.any fun z => eqF z x)) M) := rfl
theorem notInD_tup : notInD x (.tup ys) M Q = (flatD x = true ∧ ys.all flatD = true ∧ Q (.bl (!ys.any fun z => eqF z x)) M) := rfl
theorem slD_lst {lo hi : Option Int} : slD (.lst xs) lo hi M Q = Q (.lst (cutD xs lo hi)) M := rfl
theorem slD_scr {lo hi : Option Int} : slD (.scr xs) lo hi M Q = Q (.lst (cutD xs lo hi)) M := rfl
theorem slD_tup {lo hi : Option Int} : slD (.tup xs) lo hi M Q = Q (.tup (cutD xs lo hi)) M := rfl
theorem revD_lst : revD (.lst xs) M Q = Q (.lst xs.reverse) M := rfl
theorem revMD_lst : revMD (.lst xs) M Q = ∀ p, M p = none → Q (.ref p) (mput M p (.lst xs.reverse)) := rfl
variable {d0 d1 d2 d3 d4 d5 d6 d7 : D}
theorem nth_0 : nth (d0 :: xs) 0 k = k d0 := by
  unfold nth L2.atI ixN
  rw [if_pos (by decide), if_pos (by simp <;> omega)]
  rfl
theorem nth_s {n : Nat} (h : nth xs (n : Int) k = k x) : nth (d0 :: xs) ((n : Int) + 1) k = k x := by
  unfold nth L2.atI ixN at *
  rw [if_pos (by omega)] at *
  by_cases hn : (n : Int) < (xs.length : Int)
  · rw [if_pos hn] at h
    rw [if_pos (by simp; omega)]
    have e : ((n : Int) + 1).toNat = ((n : Int)).toNat + 1 := by omega
    rw [e]
    exact h
  · rw [if_neg hn] at h
    rw [if_neg (by simp <;> omega)]
    exact h
theorem nth_1 : nth (d0 :: d1 :: xs) 1 k = k d1 := nth_s (n := 0) nth_0
theorem nth_2 : nth (d0 :: d1 :: d2 :: xs) 2 k = k d2 := nth_s (n := 1) nth_1
theorem nth_3 : nth (d0 :: d1 :: d2 :: d3 :: xs) 3 k = k d3 := nth_s (n := 2) nth_2
theorem nth_4 : nth (d0 :: d1 :: d2 :: d3 :: d4 :: xs) 4 k = k d4 := nth_s (n := 3) nth_3
theorem nth_5 : nth (d0 :: d1 :: d2 :: d3 :: d4 :: d5 :: xs) 5 k = k d5 := nth_s (n := 4) nth_4
theorem nth_6 : nth (d0 :: d1 :: d2 :: d3 :: d4 :: d5 :: d6 :: xs) 6 k = k d6 := nth_s (n := 5) nth_5
theorem nth_7 : nth (d0 :: d1 :: d2 :: d3 :: d4 :: d5 :: d6 :: d7 :: xs) 7 k = k d7 := nth_s (n := 6) nth_6
theorem nthN_0 : nthN (d0 :: xs) 0 k = k d0 := rfl
theorem nthN_1 : nthN (d0 :: d1 :: xs) 1 k = k d1 := rfl
theorem nthN_2 : nthN (d0 :: d1 :: d2 :: xs) 2 k = k d2 := rfl
theorem nthN_3 : nthN (d0 :: d1 :: d2 :: d3 :: xs) 3 k = k d3 := rfl
theorem nthN_4 : nthN (d0 :: d1 :: d2 :: d3 :: d4 :: xs) 4 k = k d4 := rfl
theorem nthN_5 : nthN (d0 :: d1 :: d2 :: d3 :: d4 :: d5 :: xs) 5 k = k d5 := rfl
theorem nthN_6 : nthN (d0 :: d1 :: d2 :: d3 :: d4 :: d5 :: d6 :: xs) 6 k = k d6 := rfl
theorem srcD_lst {P : List D → (Mem → Prop) → Mem → Prop} : srcD (.lst xs) M P = P xs noGrd M := rfl
theorem srcD_scr {P : List D → (Mem → Prop) → Mem → Prop} : srcD (.scr xs) M P = P xs noGrd M := rfl
theorem srcD_tup {P : List D → (Mem → Prop) → Mem → Prop} : srcD (.tup xs) M P = P xs noGrd M := rfl
theorem fldsD_obj {C : Addr} {ns : List Str} {ds : List D} : fldsD M (.obj C ns ds) = some (C, ns, ds) := rfl
/-- isinstance of what stands there -/
theorem isiD_of {t n : String} {r : Bool} (e : tyNm (view M x) = some t) (h : kitB t n = some (isA t n)) (hr : isA t n = r) : isiD [x, .ty n] M Q = Q (.bl r) M := by
  subst hr
  show (match tyNm (view M x) with | some a => kitB a n = some (isA a n) ∧ Q (.bl (isA a n)) M | none => False) = _
  rw [e]
  exact propext ⟨fun q => q.2, fun q => ⟨h, q⟩⟩
end
section
variable {M : Mem} {Q : QD} {i : Int} {a : Bool} {s : Str} {xs : List D}
theorem isi_non_bool : isiD [.non, .ty "bool"] M Q = Q (.bl false) M := isiD_of (t := "NoneType") rfl (by decide +kernel) (by decide +kernel)
theorem isi_non_int : isiD [.non, .ty "int"] M Q = Q (.bl false) M := isiD_of (t := "NoneType") rfl (by decide +kernel) (by decide +kernel)
theorem isi_non_str : isiD [.non, .ty "str"] M Q = Q (.bl false) M := isiD_of (t := "NoneType") rfl (by decide +kernel) (by decide +kernel)
theorem isi_non_tuple : isiD [.non, .ty "tuple"] M Q = Q (.bl false) M := isiD_of (t := "NoneType") rfl (by decide +kernel) (by decide +kernel)
theorem isi_non_list : isiD [.non, .ty "list"] M Q = Q (.bl false) M := isiD_of (t := "NoneType") rfl (by decide +kernel) (by decide +kernel)
theorem isi_bl_bool : isiD [(.bl a), .ty "bool"] M Q = Q (.bl true) M := isiD_of (t := "bool") rfl (by decide +kernel) (by decide +kernel)
theorem isi_bl_int : isiD [(.bl a), .ty "int"] M Q = Q (.bl true) M := isiD_of (t := "bool") rfl (by decide +kernel) (by decide +kernel)
theorem isi_bl_str : isiD [(.bl a), .ty "str"] M Q = Q (.bl false) M := isiD_of (t := "bool") rfl (by decide +kernel) (by decide +kernel)
theorem isi_bl_tuple : isiD [(.bl a), .ty "tuple"] M Q = Q (.bl false) M := isiD_of (t := "bool") rfl (by decide +kernel) (by decide +kernel)
theorem isi_bl_list : isiD [(.bl a), .ty "list"] M Q = Q (.bl false) M := isiD_of (t := "bool") rfl (by decide +kernel) (by decide +kernel)
theorem isi_int_bool : isiD [(.int i), .ty "bool"] M Q = Q (.bl false) M := isiD_of (t := "int") rfl (by decide +kernel) (by decide +kernel)
theorem isi_int_int : isiD [(.int i), .ty "int"] M Q = Q (.bl true) M := isiD_of (t := "int") rfl (by decide +kernel) (by decide +kernel)
theorem isi_int_str : isiD [(.int i), .ty "str"] M Q = Q (.bl false) M := isiD_of (t := "int") rfl (by decide +kernel) (by decide +kernel)
theorem isi_int_tuple : isiD [(.int i), .ty "tuple"] M Q = Q (.bl false) M := isiD_of (t := "int") rfl (by decide +kernel) (by decide +kernel)
theorem isi_int_list : isiD [(.int i), .ty "list"] M Q = Q (.bl false) M := isiD_of (t := "int") rfl (by decide +kernel) (by decide +kernel)
theorem isi_str_bool : isiD [(.str s), .ty "bool"] M Q = Q (.bl false) M := isiD_of (t := "str") rfl (by decide +kernel) (by decide +kernel)
theorem isi_str_int : isiD [(.str s), .ty "int"] M Q = Q (.bl false) M := isiD_of (t := "str") rfl (by decide +kernel) (by decide +kernel)
theorem isi_str_str : isiD [(.str s), .ty "str"] M Q = Q (.bl true) M := isiD_of (t := "str") rfl (by decide +kernel) (by decide +kernel)
theorem isi_str_tuple : isiD [(.str s), .ty "tuple"] M Q = Q (.bl false) M := isiD_of (t := "str") rfl (by decide +kernel) (by decide +kernel)
theorem isi_str_list : isiD [(.str s), .ty "list"] M Q = Q (.bl false) M := isiD_of (t := "str") rfl (by decide +kernel) (by decide +kernel)
theorem isi_tup_bool : isiD [(.tup xs), .ty "bool"] M Q = Q (.bl false) M := isiD_of (t := "tuple") rfl (by decide +kernel) (by decide +kernel)
theorem isi_tup_int : isiD [(.tup xs), .ty "int"] M Q = Q (.bl false) M := isiD_of (t := "tuple") rfl (by decide +kernel) (by decide +kernel)
theorem isi_tup_str : isiD [(.tup xs), .ty "str"] M Q = Q (.bl false) M := isiD_of (t := "tuple") rfl (by decide +kernel) (by decide +kernel)
theorem isi_tup_tuple : isiD [(.tup xs), .ty "tuple"] M Q = Q (.bl true) M := isiD_of (t := "tuple") rfl (by decide +kernel) (by decide +kernel)
theorem isi_tup_list : isiD [(.tup xs), .ty "list"] M Q = Q (.bl false) M := isiD_of (t := "tuple") rfl (by decide +kernel) (by decide +kernel)
theorem isi_lst_bool : isiD [(.lst xs), .ty "bool"] M Q = Q (.bl false) M := isiD_of (t := "list") rfl (by decide +kernel) (by decide +kernel)
theorem isi_lst_int : isiD [(.lst xs), .ty "int"] M Q = Q (.bl false) M := isiD_of (t := "list") rfl (by decide +kernel) (by decide +kernel)
theorem isi_lst_str : isiD [(.lst xs), .ty "str"] M Q = Q (.bl false) M := isiD_of (t := "list") rfl (by decide +kernel) (by decide +kernel)
theorem isi_lst_tuple : isiD [(.lst xs), .ty "tuple"] M Q = Q (.bl false) M := isiD_of (t := "list") rfl (by decide +kernel) (by decide +kernel)
theorem isi_lst_list : isiD [(.lst xs), .ty "list"] M Q = Q (.bl true) M := isiD_of (t := "list") rfl (by decide +kernel) (by decide +kernel)
end
/-! the letters of a reading are spelled out -/
local macro_rules | `(tactic| walk_at "dl") => `(tactic| simp only [dSeq, dIfS, dTest, dOp, dUn, dVar, dC, look, dAnd, dOr, dNot, dAndV, dOrV, dNotV, dIf, dNil, dCons, dTup, dLst, dLstM, dCB, dNext, dBreak, dCont, dDrop, dRet, dRetN, dAsg, dgName, dgTup, dgCons, dgNil, dgSub, dPar, setMany, dAug, dBM, dBM0, dFld, dCall, dCallN, dSl, dRev, dRevM, dPart, dNoPart, diAny, diRng1, diRng2, diEnum, diZip, dLc, dLcM, dYes, dFor, List.set, List.nil_append, List.cons_append, List.append_nil, List.length_cons, List.length_nil, if_true, if_false, true_and, Bool.false_eq_true, Bool.not_true, Bool.not_false, List.isEmpty_nil])
local macro_rules | `(tactic| walk_at "leaf") => `(tactic| simp only [addD_int, addD_lst, addD_tup, addD_str, iaddD_int, subD_int, mulD_int, mulD_lst, fdivD_int, modD_int, powD_int, negD_int, ltD_int, leD_int, gtD_int, geD_int, eqD_int, eqD_bl, eqD_str, eqD_tup, eqD_lst, neD_int, neD_bl, neD_str, neD_tup, neD_lst, isD_non, isD_bl, notD_non, notD_bl, isNon_non, isNon_int, isNon_bl, isNon_str, isNon_tup, isNon_lst, intD_int, intD_bl, absD_int, max2D_int, min2D_int, lenD_lst, lenD_tup, lenD_scr, tupleD_lst, tupleD_tup, listD_lst, listD_tup, listMD_lst, listMD_tup, ixD_tup, ixD_lst, ixD_scr, inD_lst, inD_tup, notInD_lst, notInD_tup, slD_lst, slD_scr, slD_tup, revD_lst, revMD_lst, nth_0, nth_1, nth_2, nth_3, nth_4, nth_5, nth_6, nth_7, nthN_0, nthN_1, nthN_2, nthN_3, nthN_4, nthN_5, nthN_6, srcD_lst, srcD_scr, srcD_tup, fldsD_obj, isi_non_bool, isi_non_int, isi_non_str, isi_non_tuple, isi_non_list, isi_bl_bool, isi_bl_int, isi_bl_str, isi_bl_tuple, isi_bl_list, isi_int_bool, isi_int_int, isi_int_str, isi_int_tuple, isi_int_list, isi_str_bool, isi_str_int, isi_str_str, isi_str_tuple, isi_str_list, isi_tup_bool, isi_tup_int, isi_tup_str, isi_tup_tuple, isi_tup_list, isi_lst_bool, isi_lst_int, isi_lst_str, isi_lst_tuple, isi_lst_list, if_true, if_false, true_and, Bool.false_eq_true, Bool.not_true, Bool.not_false, List.isEmpty_nil])
local macro_rules | `(tactic| walk_at "all") => `(tactic| simp only [dSeq, dIfS, dTest, dOp, dUn, dVar, dC, look, dAnd, dOr, dNot, dAndV, dOrV, dNotV, dIf, dNil, dCons, dTup, dLst, dLstM, dCB, dNext, dBreak, dCont, dDrop, dRet, dRetN, dAsg, dgName, dgTup, dgCons, dgNil, dgSub, dPar, setMany, dAug, dBM, dBM0, dFld, dCall, dCallN, dSl, dRev, dRevM, dPart, dNoPart, diAny, diRng1, diRng2, diEnum, diZip, dLc, dLcM, dYes, dFor, List.set, List.nil_append, List.cons_append, List.append_nil, List.length_cons, List.length_nil, addD_int, addD_lst, addD_tup, addD_str, iaddD_int, subD_int, mulD_int, mulD_lst, fdivD_int, modD_int, powD_int, negD_int, ltD_int, leD_int, gtD_int, geD_int, eqD_int, eqD_bl, eqD_str, eqD_tup, eqD_lst, neD_int, neD_bl, neD_str, neD_tup, neD_lst, isD_non, isD_bl, notD_non, notD_bl, isNon_non, isNon_int, isNon_bl, isNon_str, isNon_tup, isNon_lst, intD_int, intD_bl, absD_int, max2D_int, min2D_int, lenD_lst, lenD_tup, lenD_scr, tupleD_lst, tupleD_tup, listD_lst, listD_tup, listMD_lst, listMD_tup, ixD_tup, ixD_lst, ixD_scr, inD_lst, inD_tup, notInD_lst, notInD_tup, slD_lst, slD_scr, slD_tup, revD_lst, revMD_lst, nth_0, nth_1, nth_2, nth_3, nth_4, nth_5, nth_6, nth_7, nthN_0, nthN_1, nthN_2, nthN_3, nthN_4, nthN_5, nthN_6, srcD_lst, srcD_scr, srcD_tup, fldsD_obj, isi_non_bool, isi_non_int, isi_non_str, isi_non_tuple, isi_non_list, isi_bl_bool, isi_bl_int, isi_bl_str, isi_bl_tuple, isi_bl_list, isi_int_bool, isi_int_int, isi_int_str, isi_int_tuple, isi_int_list, isi_str_bool, isi_str_int, isi_str_str, isi_str_tuple, isi_str_list, isi_tup_bool, isi_tup_int, isi_tup_str, isi_tup_tuple, isi_tup_list, isi_lst_bool, isi_lst_int, isi_lst_str, isi_lst_tuple, isi_lst_list, if_true, if_false, true_and, Bool.false_eq_true, Bool.not_true, Bool.not_false, List.isEmpty_nil])
/-- x is a source -/
def IsSrc (M : Mem) (x : D) : Prop := ∃ h c, x = .ref h ∧ M h = some (.srcH c) ∧ M c = some .srcC
def S_draw : DSp := fun ds M Q => ∃ x many, ds = [x, .int many] ∧ IsSrc M x ∧ 0 < many ∧ many < 1073741824 ∧ ∀ r, 0 ≤ r → r < many → Q (.int r) M
def S_drawRaw : DSp := fun ds M Q => ∃ h c i ns many, ds = [.ref h, .int many] ∧ h ≠ c ∧ M h = some (.lst [.ref c, .int i]) ∧ M c = some (.lst ((ns : List Int).map D.int)) ∧ 0 ≤ i ∧ (∀ n ∈ ns, 0 ≤ n) ∧ ns.length ≤ 1000 ∧ 0 < many ∧ many < 1073741824 ∧
  ∀ (r i' : Int) (ns' : List Int), 0 ≤ r → r < many → 0 ≤ i' → (∀ n ∈ ns', 0 ≤ n) → ns'.length ≤ 1000 → Q (.int r) (mput (mput M h (.lst [.ref c, .int i'])) c (.lst (ns'.map D.int)))
/-- the body -/
def bDraw (mul add : Int) : TDS :=
  (dSeq (dWhile (dAnd (dTest (dOp neD (dOp ixD (dVar 0) (dC (.int 0))) (dLst dNil))) (dTest (dOp eqD (dOp ixD (dOp ixD (dVar 0) (dC (.int 0))) (dUn negD (dC (.int 1)))) (dC (.int 0)))))
    (dDrop (dBM0 popD (dOp ixD (dVar 0) (dC (.int 0))))))
    (dSeq (dIfS (dTest (dOp neD (dOp ixD (dVar 0) (dC (.int 0))) (dLst dNil)))
    (dSeq (dAsg (dBM0 popD (dOp ixD (dVar 0) (dC (.int 0)))) (dgName 2))
    (dSeq (dDrop (dBM appD (dOp ixD (dVar 0) (dC (.int 0))) (dCons (dOp fdivD (dVar 2) (dVar 1)) dNil)))
    (dRet (dOp modD (dCB intD (dCons (dVar 2) dNil)) (dVar 1)))))
    dNext)
    (dSeq (dAsg (dOp modD (dCB intD (dCons (dOp addD (dOp mulD (dOp ixD (dVar 0) (dC (.int 1))) (dC (.int mul))) (dC (.int add))) dNil)) (dC (.int 2147483647))) (dgSub (dVar 0) (dC (.int 1))))
    (dRet (dOp modD (dCB intD (dCons (dOp fdivD (dOp ixD (dVar 0) (dC (.int 1))) (dC (.int 32))) dNil)) (dVar 1))))))

theorem items_of {M : Mem} {a : Addr} {ds : List D} (h : M a = some (.lst ds)) : itemsD M (.ref a) = some ds := by
  unfold itemsD; rw [view_of h]
theorem isLst_ref {M : Mem} {a : Addr} {ds : List D} (h : M a = some (.lst ds)) : isLstD M (.ref a) := by
  unfold isLstD; rw [view_of h]; trivial
theorem ixr {M : Mem} {a : Addr} {ds : List D} {i : Int} {d : D} {Q : QD} (e : M a = some (.lst ds)) (h : L2.atI ds i = some d) (q : Q d M) : ixD (.ref a) (.int i) M Q := by
  unfold ixD nth
  simp only [items_of e, h]
  exact q
theorem pop_r {M : Mem} {a : Addr} {ds : List D} {d : D} {Q : QD} (e : M a = some (.lst (ds ++ [d]))) (q : Q d (mput M a (.lst ds))) : popD (.ref a) [] M Q := by
  unfold popD nthN
  simp only [e]
  have e1 : (ds ++ [d])[(ds ++ [d]).length - 1]? = some d := by simp
  simp only [e1, List.dropLast_concat]
  exact q
theorem app_r {M : Mem} {a : Addr} {ds : List D} {d : D} {Q : QD} (e : M a = some (.lst ds)) (h : ds.length < sizeLine) (q : Q .non (mput M a (.lst (ds ++ [d])))) : appD (.ref a) [d] M Q := by
  unfold appD
  simp only [e]
  exact ⟨h, q⟩
/-- heap[0], heap[1] of a source -/
theorem ix0 {M : Mem} {h c : Addr} {i : Int} {Q : QD} (e : M h = some (.lst [.ref c, .int i])) (q : Q (.ref c) M) : ixD (.ref h) (.int 0) M Q := by
  unfold ixD
  simp only [items_of e]
  exact q
theorem ix1 {M : Mem} {h c : Addr} {i : Int} {Q : QD} (e : M h = some (.lst [.ref c, .int i])) (q : Q (.int i) M) : ixD (.ref h) (.int 1) M Q := by
  unfold ixD
  simp only [items_of e]
  exact q
theorem ne_nil {M : Mem} {c : Addr} {ns : List Int} {Q : QD} (e : M c = some (.lst (ns.map D.int))) (q : Q (.bl (!ns.isEmpty)) M) : neD (.ref c) (.lst []) M Q := by
  show deepEq (view M (.ref c)) (view M (.lst [])) fun b => Q (.bl (!b)) M
  rw [view_of e]
  exact deepEq_nil q
theorem atI_last {α : Type} {xs : List α} {x : α} : L2.atI (xs ++ [x]) (-1) = some x := by
  unfold L2.atI ixN
  rw [if_neg (by decide), if_pos (by simp; omega)]
  show (xs ++ [x])[(-1 + ((xs ++ [x]).length : Int)).toNat]? = some x
  have e : (-1 + ((xs ++ [x]).length : Int)).toNat = xs.length := by simp; omega
  rw [e]
  simp
theorem sem_drawRaw {mul add : Int} (hm : 0 ≤ mul ∧ mul < 2 ^ 64) (ha : 0 ≤ add) : ∀ ds M Q, S_drawRaw ds M Q → bDraw mul add { nx := fun _ M => Q .non M, rt := Q } (startD ["heap", "many", "rest"] ds) M := by
  rintro ds M Q ⟨h, c, i, ns, many, rfl, hne, eh, ec, hi, hns, hl, h0, hmany, q⟩
  unfold bDraw
  show dWhile _ _ _ [some (.ref h), some (.int many), none] M
  have hcne : h ≠ c := hne
  -- the cells fall
  refine ⟨fun m Γ M' => Γ = [some (.ref h), some (.int many), none] ∧ ∃ ns' : List Int, m = ns'.length ∧ M' = mput M c (.lst (ns'.map D.int)) ∧ (∀ n ∈ ns', 0 ≤ n) ∧ ns'.length ≤ 1000,
    ⟨_, rfl, ns, rfl, (mput_eq ec).symm, hns, hl⟩, ?_⟩
  rintro m Γ M' ⟨rfl, ns', rfl, rfl, hns', hl'⟩
  have eh' : mput M c (.lst (ns'.map D.int)) h = some (.lst [.ref c, .int i]) := by rw [mput_ne hne]; exact eh
  have ec' : mput M c (.lst (ns'.map D.int)) c = some (.lst (ns'.map D.int)) := mput_same
  have rest : dSeq (dIfS (dTest (dOp neD (dOp ixD (dVar 0) (dC (.int 0))) (dLst dNil)))
    (dSeq (dAsg (dBM0 popD (dOp ixD (dVar 0) (dC (.int 0)))) (dgName 2))
    (dSeq (dDrop (dBM appD (dOp ixD (dVar 0) (dC (.int 0))) (dCons (dOp fdivD (dVar 2) (dVar 1)) dNil)))
    (dRet (dOp modD (dCB intD (dCons (dVar 2) dNil)) (dVar 1)))))
    dNext)
    (dSeq (dAsg (dOp modD (dCB intD (dCons (dOp addD (dOp mulD (dOp ixD (dVar 0) (dC (.int 1))) (dC (.int mul))) (dC (.int add))) dNil)) (dC (.int 2147483647))) (dgSub (dVar 0) (dC (.int 1))))
    (dRet (dOp modD (dCB intD (dCons (dOp fdivD (dOp ixD (dVar 0) (dC (.int 1))) (dC (.int 32))) dNil)) (dVar 1)))) { nx := fun _ M => Q .non M, rt := Q } [some (.ref h), some (.int many), none] (mput M c (.lst (ns'.map D.int))) := by
    walk_at "dl"
    refine ix0 eh' ?_
    refine ⟨Nat.zero_le _, ?_⟩
    refine ne_nil ec' ?_
    by_cases hempty : ns' = []
    · subst hempty
      walk_at "dl"
      refine ix1 eh' ?_
      walk_at "leaf"
      refine ⟨.inr ⟨by omega, by omega⟩, by decide, ?_⟩
      unfold setLD
      simp only [eh']
      have hpos : 0 ≤ (i * mul + add) % 2147483647 := Int.emod_nonneg _ (by decide)
      refine ix1 (c := c) (i := (i * mul + add) % 2147483647) mput_same ?_
      walk_at "leaf"
      refine ⟨by decide, h0, ?_⟩
      have e1 : mput (mput M c (.lst (([] : List Int).map D.int))) h (.lst [.ref c, .int ((i * mul + add) % 2147483647)]) = mput (mput M h (.lst [.ref c, .int ((i * mul + add) % 2147483647)])) c (.lst (([] : List Int).map D.int)) := by
        funext b
        by_cases b1 : b = h
        · subst b1; rw [mput_same, mput_ne hne, mput_same]
        · rw [mput_ne b1]
          by_cases b2 : b = c
          · subst b2; rw [mput_same, mput_same]
          · rw [mput_ne b2, mput_ne b2, mput_ne b1]
      have e2 := q ((i * mul + add) % 2147483647 / 32 % many) ((i * mul + add) % 2147483647) [] (Int.emod_nonneg _ (by omega)) (Int.emod_lt_of_pos _ h0) hpos (by simp) (by simp)
      rw [← e1] at e2
      exact e2
    · obtain ⟨ms, x, rfl⟩ : ∃ ms x, ns' = ms ++ [x] := ⟨ns'.dropLast, ns'.getLast hempty, (List.dropLast_concat_getLast hempty).symm⟩
      have e0 : (!(ms ++ [x]).isEmpty) = true := by simp
      rw [e0]
      walk_at "dl"
      refine ix0 eh' ⟨isLst_ref ec', ?_⟩
      unfold popD
      simp only [ec']
      have el : (List.map D.int (ms ++ [x]))[(List.map D.int (ms ++ [x])).length - 1]? = some (.int x) := by simp
      unfold nthN
      simp only [el]
      have ed : (List.map D.int (ms ++ [x])).dropLast = ms.map D.int := by rw [List.map_append]; exact List.dropLast_concat
      rw [ed, mput_mput]
      have eh2 : mput M c (.lst (ms.map D.int)) h = some (.lst [.ref c, .int i]) := by rw [mput_ne hne]; exact eh
      refine ix0 eh2 ⟨isLst_ref mput_same, ?_⟩
      walk_at "leaf"
      refine ⟨⟨h0, hmany⟩, ?_⟩
      unfold appD
      simp only [mput_same]
      refine ⟨by rw [List.length_map, sizeLine_eq]; simp at hl'; omega, h0, ?_⟩
      rw [mput_mput]
      have hx : 0 ≤ x := hns' x (by simp)
      have hd : 0 ≤ x / many := Int.ediv_nonneg hx (by omega)
      have e1 : mput M c (.lst (ms.map D.int ++ [.int (x / many)])) = mput (mput M h (.lst [.ref c, .int i])) c (.lst ((ms ++ [x / many]).map D.int)) := by rw [mput_eq eh, List.map_append]; rfl
      show Q (.int (x % many)) _
      rw [e1]
      exact q (x % many) i (ms ++ [x / many]) (Int.emod_nonneg _ (by omega)) (Int.emod_lt_of_pos _ h0) hi (fun n hn => by
        rcases List.mem_append.mp hn with z | z
        · exact hns' n (by simp [z])
        · rw [List.mem_singleton] at z; rw [z]; exact hd) (by simp at hl' ⊢; exact hl')
  -- the test
  walk_at "dl"
  refine ix0 eh' ⟨Nat.zero_le _, ?_⟩
  refine ne_nil ec' ?_
  by_cases hempty : ns' = []
  · subst hempty
    exact rest
  · obtain ⟨ms, x, rfl⟩ : ∃ ms x, ns' = ms ++ [x] := ⟨ns'.dropLast, ns'.getLast hempty, (List.dropLast_concat_getLast hempty).symm⟩
    have e0 : (!(ms ++ [x]).isEmpty) = true := by simp
    rw [e0]
    walk_at "dl"
    refine ix0 eh' ?_
    walk_at "leaf"
    refine ixr ec' (by rw [List.map_append]; exact atI_last) ?_
    walk_at "leaf"
    by_cases hx : x = 0
    · rw [decide_eq_true hx, if_pos rfl]
      refine ⟨fun Γ M'' => Γ = [some (.ref h), some (.int many), none] ∧ M'' = mput M c (.lst (ms.map D.int)), ?_, ?_⟩
      · rintro Γ' M'' ⟨rfl, rfl⟩
        exact ⟨ms.length, by simp, rfl, ms, rfl, rfl, fun n hn => hns' n (by simp [hn]), by simp at hl'; omega⟩
      · refine ix0 eh' ⟨isLst_ref ec', ?_⟩
        unfold popD
        simp only [ec']
        have el : (List.map D.int (ms ++ [x]))[(List.map D.int (ms ++ [x])).length - 1]? = some (.int x) := by simp
        unfold nthN
        simp only [el]
        have ed : (List.map D.int (ms ++ [x])).dropLast = ms.map D.int := by rw [List.map_append]; exact List.dropLast_concat
        rw [ed, mput_mput]
        exact ⟨trivial, rfl⟩
    · rw [decide_eq_false hx, if_neg Bool.false_ne_true]
      exact rest
end DL

set_option Elab.async false
set_option linter.all false
set_option maxRecDepth 100000
set_option maxHeartbeats 4000000
namespace DL
open PySem PySem.Spec PyProof.Rows L2
local macro_rules | `(tactic| walk_at "dl") => `(tactic| simp only [dSeq, dIfS, dTest, dOp, dUn, dVar, dC, look, dAnd, dOr, dNot, dAndV, dOrV, dNotV, dIf, dNil, dCons, dTup, dLst, dLstM, dCB, dNext, dBreak, dCont, dDrop, dRet, dRetN, dAsg, dgName, dgTup, dgCons, dgNil, dgSub, dPar, setMany, dAug, dBM, dBM0, dFld, dCall, dCallN, dSl, dRev, dRevM, dPart, dNoPart, diAny, diRng1, diRng2, diEnum, diZip, dLc, dLcM, dYes, dFor, List.set, List.nil_append, List.cons_append, List.append_nil, List.length_cons, List.length_nil, if_true, if_false, true_and, Bool.false_eq_true, Bool.not_true, Bool.not_false, List.isEmpty_nil])
local macro_rules | `(tactic| walk_at "leaf") => `(tactic| simp only [addD_int, addD_lst, addD_tup, addD_str, iaddD_int, subD_int, mulD_int, mulD_lst, fdivD_int, modD_int, powD_int, negD_int, ltD_int, leD_int, gtD_int, geD_int, eqD_int, eqD_bl, eqD_str, eqD_tup, eqD_lst, neD_int, neD_bl, neD_str, neD_tup, neD_lst, isD_non, isD_bl, notD_non, notD_bl, isNon_non, isNon_int, isNon_bl, isNon_str, isNon_tup, isNon_lst, intD_int, intD_bl, absD_int, max2D_int, min2D_int, lenD_lst, lenD_tup, lenD_scr, tupleD_lst, tupleD_tup, listD_lst, listD_tup, listMD_lst, listMD_tup, ixD_tup, ixD_lst, ixD_scr, inD_lst, inD_tup, notInD_lst, notInD_tup, slD_lst, slD_scr, slD_tup, revD_lst, revMD_lst, nth_0, nth_1, nth_2, nth_3, nth_4, nth_5, nth_6, nth_7, nthN_0, nthN_1, nthN_2, nthN_3, nthN_4, nthN_5, nthN_6, srcD_lst, srcD_scr, srcD_tup, fldsD_obj, isi_non_bool, isi_non_int, isi_non_str, isi_non_tuple, isi_non_list, isi_bl_bool, isi_bl_int, isi_bl_str, isi_bl_tuple, isi_bl_list, isi_int_bool, isi_int_int, isi_int_str, isi_int_tuple, isi_int_list, isi_str_bool, isi_str_int, isi_str_str, isi_str_tuple, isi_str_list, isi_tup_bool, isi_tup_int, isi_tup_str, isi_tup_tuple, isi_tup_list, isi_lst_bool, isi_lst_int, isi_lst_str, isi_lst_tuple, isi_lst_list, if_true, if_false, true_and, Bool.false_eq_true, Bool.not_true, Bool.not_false, List.isEmpty_nil])
local macro_rules | `(tactic| walk_at "all") => `(tactic| simp only [dSeq, dIfS, dTest, dOp, dUn, dVar, dC, look, dAnd, dOr, dNot, dAndV, dOrV, dNotV, dIf, dNil, dCons, dTup, dLst, dLstM, dCB, dNext, dBreak, dCont, dDrop, dRet, dRetN, dAsg, dgName, dgTup, dgCons, dgNil, dgSub, dPar, setMany, dAug, dBM, dBM0, dFld, dCall, dCallN, dSl, dRev, dRevM, dPart, dNoPart, diAny, diRng1, diRng2, diEnum, diZip, dLc, dLcM, dYes, dFor, List.set, List.nil_append, List.cons_append, List.append_nil, List.length_cons, List.length_nil, addD_int, addD_lst, addD_tup, addD_str, iaddD_int, subD_int, mulD_int, mulD_lst, fdivD_int, modD_int, powD_int, negD_int, ltD_int, leD_int, gtD_int, geD_int, eqD_int, eqD_bl, eqD_str, eqD_tup, eqD_lst, neD_int, neD_bl, neD_str, neD_tup, neD_lst, isD_non, isD_bl, notD_non, notD_bl, isNon_non, isNon_int, isNon_bl, isNon_str, isNon_tup, isNon_lst, intD_int, intD_bl, absD_int, max2D_int, min2D_int, lenD_lst, lenD_tup, lenD_scr, tupleD_lst, tupleD_tup, listD_lst, listD_tup, listMD_lst, listMD_tup, ixD_tup, ixD_lst, ixD_scr, inD_lst, inD_tup, notInD_lst, notInD_tup, slD_lst, slD_scr, slD_tup, revD_lst, revMD_lst, nth_0, nth_1, nth_2, nth_3, nth_4, nth_5, nth_6, nth_7, nthN_0, nthN_1, nthN_2, nthN_3, nthN_4, nthN_5, nthN_6, srcD_lst, srcD_scr, srcD_tup, fldsD_obj, isi_non_bool, isi_non_int, isi_non_str, isi_non_tuple, isi_non_list, isi_bl_bool, isi_bl_int, isi_bl_str, isi_bl_tuple, isi_bl_list, isi_int_bool, isi_int_int, isi_int_str, isi_int_tuple, isi_int_list, isi_str_bool, isi_str_int, isi_str_str, isi_str_tuple, isi_str_list, isi_tup_bool, isi_tup_int, isi_tup_str, isi_tup_tuple, isi_tup_list, isi_lst_bool, isi_lst_int, isi_lst_str, isi_lst_tuple, isi_lst_list, if_true, if_false, true_and, Bool.false_eq_true, Bool.not_true, Bool.not_false, List.isEmpty_nil])
/-! ### comprehensions and loops whose turns are told -/
theorem lc_map {α : Type} {grd : Mem → Prop} {g : TDG} {t : TDT} {e : TD} {Γ : DE} {fin : List D → Mem → Prop} {M : Mem} (enc : α → D) (f : α → Bool) (v : α → D) (hg : grd M) :
    ∀ (xs : List α) (acc : List D), (∀ x ∈ xs, ∀ (Y : QD) (N : Mem → Prop), (f x = true → Y (v x) M) → (f x = false → N M) → g (enc x) Γ M fun Γ1 M1 => t Γ1 M1 fun b M2 => if b = true then e Γ1 M2 Y else N M2) →
      acc.length + xs.length ≤ sizeLine → fin (acc ++ (xs.filter f).map v) M → lcL grd g t e Γ fin (xs.map enc) acc M
  | [], acc, _, _, h => ⟨hg, by simpa using h⟩
  | x :: xs, acc, hs, hl, h => by
    refine ⟨hg, hs x (by simp) _ _ (fun hf => ⟨by simp at hl; omega, ?_⟩) (fun hf => ?_)⟩
    · refine lc_map enc f v hg xs (acc ++ [v x]) (fun y hy => hs y (by simp [hy])) (by simp at hl ⊢; omega) ?_
      rw [List.filter_cons, if_pos hf] at h
      simpa using h
    · refine lc_map enc f v hg xs acc (fun y hy => hs y (by simp [hy])) (by simp at hl ⊢; omega) ?_
      rw [List.filter_cons, if_neg (by rw [hf]; decide)] at h
      exact h
/-- the same where every turn gives -/
theorem lc_all {α : Type} {grd : Mem → Prop} {g : TDG} {t : TDT} {e : TD} {Γ : DE} {fin : List D → Mem → Prop} {M : Mem} (enc : α → D) (v : α → D) (hg : grd M) (xs : List α)
    (hs : ∀ x ∈ xs, ∀ (Y : QD) (N : Mem → Prop), Y (v x) M → g (enc x) Γ M fun Γ1 M1 => t Γ1 M1 fun b M2 => if b = true then e Γ1 M2 Y else N M2) (hl : xs.length ≤ sizeLine) (h : fin (xs.map v) M) : lcL grd g t e Γ fin (xs.map enc) [] M := by
  refine lc_map enc (fun _ => true) v hg xs [] (fun x hx Y N h1 _ => hs x hx Y N (h1 rfl)) (by simpa using hl) ?_
  rw [List.filter_eq_self.mpr (fun _ _ => rfl), List.nil_append]
  exact h

/-- a and b, as values -/
theorem andV_of {p q : Prop} [Decidable p] [Decidable q] {R : Bool → Prop} (h : R (decide (p ∧ q))) : if decide p = true then R (decide q) else R false := by
  by_cases hp : p
  · rw [if_pos (decide_eq_true hp)]
    have e : decide (p ∧ q) = decide q := by simp [hp]
    rw [← e]; exact h
  · rw [if_neg (by simpa using hp)]
    have e : decide (p ∧ q) = false := by simp [hp]
    rw [← e]; exact h
/-! ### opening and closing a source -/
section
variable {K : PySem.W.Frag} {F H : Hp} {M : Mem}
theorem Ok.reput (k : Ok K F H M) {a : Addr} {m0 m : MO} (h : M a = some m0) (q : MOk K F H a m) : Ok K F H (mput M a m) := by
  refine ⟨k.sub, fun b o e => ?_⟩
  by_cases z : b = a
  · subst z; rw [mput_same] at e; cases e; exact ⟨(k.mem b _ h).1, q⟩
  · rw [mput_ne z] at e; exact k.mem b o e
theorem repL_src {vs : List V} {c : Addr} {i : Int} (r : RepL K F vs [.ref c, .int i]) : vs = [.ref c, .int i] := by
  obtain ⟨v, w, rfl, q1, q2⟩ := repL2 r
  cases q1; cases q2; rfl
theorem Ok.closeSrc {M' : Mem} {h c : Addr} {i : Int} {ns : List Int} (k : Ok K F H M') (e1 : M' h = some (.lst [.ref c, .int i])) (e2 : M' c = some (.lst (ns.map D.int))) (hi : 0 ≤ i) (hn : ∀ n ∈ ns, 0 ≤ n) (hl : ns.length ≤ 1000) :
    MOk K F H h (.srcH c) ∧ MOk K F H c .srcC := by
  obtain ⟨_, vs, h1, r1⟩ := k.mem h _ e1
  obtain ⟨_, ws, h2, r2⟩ := k.mem c _ e2
  cases repL_src r1
  cases r2.ints
  exact ⟨⟨i, h1, hi⟩, ns, h2, hn, hl⟩
end
section
variable {P : Program} {w : World} {K : PySem.W.Frag} {mg : Str → Option Value} {base : Heap} {k : Nat} {f : Addr} {fd : FuncData} {ps : List Str}
theorem draw_open (G : FnOk P w K mg base CX0 k f fd ps (spD K S_drawRaw)) : FnOk P w K mg base CX0 k f fd ps (spD K S_draw) := by
  refine G.imp fun vs H Q E h => ?_
  obtain ⟨F, M, ds, Q0, k, r, ⟨x, many, rfl, ⟨hh, c, rfl, eh, ec⟩, h0, h1, q⟩, cv⟩ := h
  obtain ⟨_, i, hH, hi⟩ := k.mem hh _ eh
  obtain ⟨_, ns, hC, hns, hl⟩ := k.mem c _ ec
  have hne : hh ≠ c := fun z => by rw [z, ec] at eh; cases eh
  have k1 := (k.reput eh (m := .lst [.ref c, .int i]) ⟨_, hH, .cons (.ref c) (.cons (.int i) .nil)⟩).reput (a := c) (m0 := .srcC) (m := .lst (ns.map D.int)) (by rw [mput_ne hne.symm]; exact ec) ⟨_, hC, RepL.ofInts ns⟩
  have a1 : mput (mput M hh (.lst [.ref c, .int i])) c (.lst (ns.map D.int)) hh = some (.lst [.ref c, .int i]) := by rw [mput_ne hne, mput_same]
  have a2 : mput (mput M hh (.lst [.ref c, .int i])) c (.lst (ns.map D.int)) c = some (.lst (ns.map D.int)) := mput_same
  refine ⟨F, _, _, fun x M' => ∃ (i' : Int) (ns' : List Int), 0 ≤ i' ∧ (∀ n ∈ ns', 0 ≤ n) ∧ ns'.length ≤ 1000 ∧ M' = mput (mput (mput (mput M hh (.lst [.ref c, .int i])) c (.lst (ns.map D.int))) hh (.lst [.ref c, .int i'])) c (.lst (ns'.map D.int)) ∧ Q0 x M, k1, r,
    ⟨hh, c, i, ns, many, rfl, hne, a1, a2, hi, hns, hl, h0, h1, fun r i' ns' r0 r1 hi' hns' hl' => ⟨i', ns', hi', hns', hl', rfl, q r r0 r1⟩⟩, ?_⟩
  rintro v F' H' M' y g k' rv ⟨i', ns', hi', hns', hl', rfl, hq⟩
  have b1 : mput (mput (mput (mput M hh (.lst [.ref c, .int i])) c (.lst (ns.map D.int))) hh (.lst [.ref c, .int i'])) c (.lst (ns'.map D.int)) hh = some (.lst [.ref c, .int i']) := by rw [mput_ne hne, mput_same]
  have b2 : mput (mput (mput (mput M hh (.lst [.ref c, .int i])) c (.lst (ns.map D.int))) hh (.lst [.ref c, .int i'])) c (.lst (ns'.map D.int)) c = some (.lst (ns'.map D.int)) := mput_same
  obtain ⟨m1, m2⟩ := k'.closeSrc b1 b2 hi' hns' hl'
  have oth : ∀ b, b ≠ hh → b ≠ c → mput (mput (mput (mput M hh (.lst [.ref c, .int i])) c (.lst (ns.map D.int))) hh (.lst [.ref c, .int i'])) c (.lst (ns'.map D.int)) b = M b := fun b z1 z2 => by
    rw [mput_ne z2, mput_ne z1, mput_ne z2, mput_ne z1]
  refine cv v F' H' M y ⟨g.ext, fun b o g1 g2 g3 => ?_⟩ ⟨k'.sub, fun b o e => ?_⟩ rv hq
  · have z1 : b ≠ hh := fun z => by rw [z, eh] at g3; cases g3
    have z2 : b ≠ c := fun z => by rw [z, ec] at g3; cases g3
    have q := g.fr b o g1 g2 (by rw [mput_ne z2, mput_ne z1]; exact g3)
    exact ⟨q.1, q.2.1, g3⟩
  · by_cases z1 : b = hh
    · subst z1; rw [eh] at e; cases e; exact ⟨(k'.mem b _ b1).1, m1⟩
    · by_cases z2 : b = c
      · subst z2; rw [ec] at e; cases e; exact ⟨(k'.mem b _ b2).1, m2⟩
      · exact k'.mem b o (by rw [oth b z1 z2]; exact e)
end

/-! ### where it comes from -/
def S_heapRaw : DSp := fun ds M Q => ∃ ns : List Int, ds = [.scr (ns.map D.int)] ∧ ns.length ≤ 63 ∧ ∀ (h c : Addr) (i : Int) (ns' : List Int), M c = none → mput M c (.lst (ns'.map D.int)) h = none → 0 ≤ i → (∀ n ∈ ns', 0 ≤ n) → ns'.length ≤ 1000 →
  Q (.ref h) (mput (mput M c (.lst (ns'.map D.int))) h (.lst [.ref c, .int i]))
def S_heap : DSp := fun ds M Q => ∃ ns : List Int, ds = [.scr (ns.map D.int)] ∧ ns.length ≤ 63 ∧ ∀ (h c : Addr), M h = none → M c = none → h ≠ c → Q (.ref h) (mput (mput M c .srcC) h (.srcH c))
section
variable {P : Program} {w : World} {K : PySem.W.Frag} {mg : Str → Option Value} {base : Heap} {k : Nat} {f : Addr} {fd : FuncData} {ps : List Str}
theorem heap_open (G : FnOk P w K mg base CX0 k f fd ps (spD K S_heapRaw)) : FnOk P w K mg base CX0 k f fd ps (spD K S_heap) := by
  refine G.imp fun vs H Q E h => ?_
  obtain ⟨F, M, ds, Q0, k, r, ⟨ns, rfl, hl, q⟩, cv⟩ := h
  refine ⟨F, M, _, fun x M' => ∃ (hh c : Addr) (i : Int) (ns' : List Int), x = .ref hh ∧ M hh = none ∧ M c = none ∧ hh ≠ c ∧ 0 ≤ i ∧ (∀ n ∈ ns', 0 ≤ n) ∧ ns'.length ≤ 1000 ∧ M' = mput (mput M c (.lst (ns'.map D.int))) hh (.lst [.ref c, .int i]) ∧ Q0 x (mput (mput M c .srcC) hh (.srcH c)), k, r,
    ⟨ns, rfl, hl, fun hh c i ns' hc hh0 hi hns' hl' => ?_⟩, ?_⟩
  · have hne : hh ≠ c := fun z => by rw [z, mput_same] at hh0; cases hh0
    have hm : M hh = none := by rw [mput_ne hne] at hh0; exact hh0
    exact ⟨hh, c, i, ns', rfl, hm, hc, hne, hi, hns', hl', rfl, q hh c hm hc hne⟩
  · rintro v F' H' M' y g k' rv ⟨hh, c, i, ns', rfl, hm, hc, hne, hi, hns', hl', rfl, hq⟩
    have b1 : mput (mput M c (.lst (ns'.map D.int))) hh (.lst [.ref c, .int i]) hh = some (.lst [.ref c, .int i]) := mput_same
    have b2 : mput (mput M c (.lst (ns'.map D.int))) hh (.lst [.ref c, .int i]) c = some (.lst (ns'.map D.int)) := by rw [mput_ne hne.symm, mput_same]
    obtain ⟨m1, m2⟩ := k'.closeSrc b1 b2 hi hns' hl'
    refine cv v F' H' _ _ ⟨g.ext, fun b o g1 g2 g3 => ?_⟩ ⟨k'.sub, fun b o e => ?_⟩ rv hq
    · have q := g.fr b o g1 g2 g3
      refine ⟨q.1, q.2.1, ?_⟩
      have z1 : b ≠ hh := fun z => by have z3 := q.2.2; rw [z, b1] at z3; cases z3
      have z2 : b ≠ c := fun z => by have z3 := q.2.2; rw [z, b2] at z3; cases z3
      rw [mput_ne z1, mput_ne z2]; exact g3
    · by_cases z1 : b = hh
      · subst z1; rw [mput_same] at e; cases e; exact ⟨(k'.mem b _ b1).1, m1⟩
      · by_cases z2 : b = c
        · subst z2; rw [mput_ne z1, mput_same] at e; cases e; exact ⟨(k'.mem b _ b2).1, m2⟩
        · exact k'.mem b o (by rw [mput_ne z1, mput_ne z2] at e ⊢; exact e)
end
def bHeap (seed mul add : Int) : TDS :=
  (dSeq (dPar [2, 3] (dCons (dLc (diAny (dSl (dVar 0) dNoPart (dPart (dC (.int 60))))) (dgName 1) dYes (dOp addD (dOp mulD (dC (.int 2)) (dCB absD (dCons (dVar 1) dNil))) (dCB intD (dCons (dOp ltD (dVar 1) (dC (.int 0))) dNil))) [1]) (dCons (dC (.int seed)) dNil)))
    (dSeq (dFor (diAny (dVar 2)) (dgName 1)
    (dAsg (dOp modD (dCB intD (dCons (dOp addD (dOp addD (dOp mulD (dVar 3) (dC (.int mul))) (dOp modD (dCB intD (dCons (dVar 1) dNil)) (dC (.int 2147483563)))) (dC (.int add))) dNil)) (dC (.int 2147483647))) (dgName 3)))
    (dRet (dLstM (dCons (dRevM (dLc (diAny (dVar 2)) (dgName 1) (dTest (dOp geD (dVar 1) (dOp powD (dC (.int 10)) (dC (.int 18))))) (dVar 1) [1])) (dCons (dVar 3) dNil))))))
def cellN (x : Int) : Int := 2 * (if x < 0 then -x else x) + (if decide (x < 0) = true then 1 else 0)
theorem cellN_pos (x : Int) : 0 ≤ cellN x := by unfold cellN; split <;> simp_all <;> omega
theorem sem_heapRaw {seed mul add : Int} (h1 : 0 ≤ seed) (h2 : 0 ≤ mul ∧ mul < 2 ^ 64) (h3 : 0 ≤ add) : ∀ ds M Q, S_heapRaw ds M Q → bHeap seed mul add { nx := fun _ M => Q .non M, rt := Q } (startD ["script", "cell", "cells", "stir"] ds) M := by
  rintro ds M Q ⟨ns, rfl, hl, q⟩
  unfold bHeap
  show dSeq _ _ _ [some (.scr (ns.map D.int)), none, none, none] M
  walk_at "all"
  have e1 : cutD (ns.map D.int) none (some 60) = (ns.take (min 60 ns.length)).map D.int := by
    unfold cutD
    simp only [HT.sIx, List.length_map, List.drop_zero, Nat.sub_zero]
    rw [if_neg (by decide), List.map_take]
    rfl
  rw [e1]
  refine lc_all D.int (fun x => .int (cellN x)) trivial _ (fun x _ Y N hY => ?_) (by rw [sizeLine_eq]; simp; omega) ?_
  · simp only [wipeD]
    walk_at "all"
    exact ⟨.inl (by decide), hY⟩
  · have e2 : (ns.take (min 60 ns.length)).map (fun x => D.int (cellN x)) = ((ns.take (min 60 ns.length)).map cellN).map D.int := by rw [List.map_map]; rfl
    rw [e2]
    have hpos : ∀ n ∈ (ns.take (min 60 ns.length)).map cellN, 0 ≤ n := fun n hn => by
      obtain ⟨x, _, rfl⟩ := List.mem_map.mp hn
      exact cellN_pos x
    have hlen : ((ns.take (min 60 ns.length)).map cellN).length ≤ 60 := by simp; omega
    generalize (ns.take (min 60 ns.length)).map cellN = cs at hpos hlen
    -- behind the loop
    have fin : ∀ (o : Option D) (stir : Int), 0 ≤ stir → dRet (dLstM (dCons (dRevM (dLc (diAny (dVar 2)) (dgName 1) (dTest (dOp geD (dVar 1) (dOp powD (dC (.int 10)) (dC (.int 18))))) (dVar 1) [1])) (dCons (dVar 3) dNil))) { nx := fun _ M => Q .non M, rt := Q } [some (.scr (ns.map D.int)), o, some (.lst (cs.map D.int)), some (.int stir)] M := by
      intro o stir hs
      walk_at "all"
      have e3 : ∀ Q' : List D → Mem → Prop, (∀ ms : List Int, (∀ n ∈ ms, 0 ≤ n) → ms.length ≤ 60 → Q' (ms.map D.int) M) → lcL noGrd (dgName 1) (dTest (dOp geD (dVar 1) (dOp powD (dC (.int 10)) (dC (.int 18))))) (dVar 1) (wipeD [some (.scr (ns.map D.int)), o, some (.lst (cs.map D.int)), some (.int stir)] [1]) Q' (cs.map D.int) [] M := by
        intro Q' hQ'
        refine lc_map D.int (fun x => decide ((10 : Int) ^ (18 : Int).toNat ≤ x)) D.int trivial cs [] (fun x _ Y N hY hN => ?_) (by rw [sizeLine_eq]; simp; omega) ?_
        · simp only [wipeD]
          walk_at "all"
          refine ⟨by decide, ?_⟩
          split
          · rename_i hx; exact hY hx
          · rename_i hx; exact hN (Bool.eq_false_iff.mpr hx)
        · rw [List.nil_append]
          refine hQ' (cs.filter _) (fun n hn => hpos n (List.mem_filter.mp hn).1) (Nat.le_trans (List.length_filter_le _ _) hlen)
      refine e3 _ fun ms hms hml => ?_
      intro c hc
      refine ⟨by decide, fun h hh => ?_⟩
      rw [← List.map_reverse] at hh ⊢
      exact q h c stir ms.reverse hc hh hs (fun n hn => hms n (by simpa using hn)) (by simp; omega)
    have loop : ∀ (ms : List Int) (o : Option D) (stir : Int), 0 ≤ stir → forL noGrd (dgName 1) (dAsg (dOp modD (dCB intD (dCons (dOp addD (dOp addD (dOp mulD (dVar 3) (dC (.int mul))) (dOp modD (dCB intD (dCons (dVar 1) dNil)) (dC (.int 2147483563)))) (dC (.int add))) dNil)) (dC (.int 2147483647))) (dgName 3))
        { nx := dRet (dLstM (dCons (dRevM (dLc (diAny (dVar 2)) (dgName 1) (dTest (dOp geD (dVar 1) (dOp powD (dC (.int 10)) (dC (.int 18))))) (dVar 1) [1])) (dCons (dVar 3) dNil))) { nx := fun _ M => Q .non M, rt := Q }, rt := Q } (ms.map D.int) [some (.scr (ns.map D.int)), o, some (.lst (cs.map D.int)), some (.int stir)] M := by
      intro ms
      induction ms with
      | nil => intro o stir hs; exact ⟨trivial, fin o stir hs⟩
      | cons x ms ih =>
        intro o stir hs
        refine ⟨trivial, ?_⟩
        walk_at "all"
        refine ⟨.inr ⟨by omega, by omega⟩, by decide, by decide, ?_⟩
        exact ih _ _ (Int.emod_nonneg _ (by decide))
    have z := loop cs none seed h1
    exact z
/-- one of some things -/
def S_pick : DSp := fun ds M Q => ∃ x y some_, ds = [x, y] ∧ IsSrc M x ∧ itemsD M y = some some_ ∧ 0 < some_.length ∧ some_.length < 1073741824 ∧ ∀ d ∈ some_, Q d M
end DL

set_option Elab.async false
set_option linter.all false
set_option maxRecDepth 100000
set_option maxHeartbeats 4000000
/-! Steps of reading, one at a time. -/
namespace DL
open PySem PySem.Spec PyProof.Rows L2
local macro_rules | `(tactic| walk_at "dl") => `(tactic| simp only [dSeq, dIfS, dTest, dOp, dUn, dVar, dC, look, dAnd, dOr, dNot, dAndV, dOrV, dNotV, dIf, dNil, dCons, dTup, dLst, dLstM, dCB, dNext, dBreak, dCont, dDrop, dRet, dRetN, dAsg, dgName, dgTup, dgCons, dgNil, dgSub, dPar, setMany, dAug, dBM, dBM0, dFld, dCall, dCallN, dSl, dRev, dRevM, dPart, dNoPart, diAny, diRng1, diRng2, diEnum, diZip, dLc, dLcM, dYes, dFor, List.set, List.nil_append, List.cons_append, List.append_nil, List.length_cons, List.length_nil, if_true, if_false, true_and, Bool.false_eq_true, Bool.not_true, Bool.not_false, List.isEmpty_nil])
local macro_rules | `(tactic| walk_at "leaf") => `(tactic| simp only [addD_int, addD_lst, addD_tup, addD_str, iaddD_int, subD_int, mulD_int, mulD_lst, fdivD_int, modD_int, powD_int, negD_int, ltD_int, leD_int, gtD_int, geD_int, eqD_int, eqD_bl, eqD_str, eqD_tup, eqD_lst, neD_int, neD_bl, neD_str, neD_tup, neD_lst, isD_non, isD_bl, notD_non, notD_bl, isNon_non, isNon_int, isNon_bl, isNon_str, isNon_tup, isNon_lst, intD_int, intD_bl, absD_int, max2D_int, min2D_int, lenD_lst, lenD_tup, lenD_scr, tupleD_lst, tupleD_tup, listD_lst, listD_tup, listMD_lst, listMD_tup, ixD_tup, ixD_lst, ixD_scr, inD_lst, inD_tup, notInD_lst, notInD_tup, slD_lst, slD_scr, slD_tup, revD_lst, revMD_lst, nth_0, nth_1, nth_2, nth_3, nth_4, nth_5, nth_6, nth_7, nthN_0, nthN_1, nthN_2, nthN_3, nthN_4, nthN_5, nthN_6, srcD_lst, srcD_scr, srcD_tup, fldsD_obj, isi_non_bool, isi_non_int, isi_non_str, isi_non_tuple, isi_non_list, isi_bl_bool, isi_bl_int, isi_bl_str, isi_bl_tuple, isi_bl_list, isi_int_bool, isi_int_int, isi_int_str, isi_int_tuple, isi_int_list, isi_str_bool, isi_str_int, isi_str_str, isi_str_tuple, isi_str_list, isi_tup_bool, isi_tup_int, isi_tup_str, isi_tup_tuple, isi_tup_list, isi_lst_bool, isi_lst_int, isi_lst_str, isi_lst_tuple, isi_lst_list, if_true, if_false, true_and, Bool.false_eq_true, Bool.not_true, Bool.not_false, List.isEmpty_nil])
local macro_rules | `(tactic| walk_at "all") => `(tactic| simp only [dSeq, dIfS, dTest, dOp, dUn, dVar, dC, look, dAnd, dOr, dNot, dAndV, dOrV, dNotV, dIf, dNil, dCons, dTup, dLst, dLstM, dCB, dNext, dBreak, dCont, dDrop, dRet, dRetN, dAsg, dgName, dgTup, dgCons, dgNil, dgSub, dPar, setMany, dAug, dBM, dBM0, dFld, dCall, dCallN, dSl, dRev, dRevM, dPart, dNoPart, diAny, diRng1, diRng2, diEnum, diZip, dLc, dLcM, dYes, dFor, List.set, List.nil_append, List.cons_append, List.append_nil, List.length_cons, List.length_nil, addD_int, addD_lst, addD_tup, addD_str, iaddD_int, subD_int, mulD_int, mulD_lst, fdivD_int, modD_int, powD_int, negD_int, ltD_int, leD_int, gtD_int, geD_int, eqD_int, eqD_bl, eqD_str, eqD_tup, eqD_lst, neD_int, neD_bl, neD_str, neD_tup, neD_lst, isD_non, isD_bl, notD_non, notD_bl, isNon_non, isNon_int, isNon_bl, isNon_str, isNon_tup, isNon_lst, intD_int, intD_bl, absD_int, max2D_int, min2D_int, lenD_lst, lenD_tup, lenD_scr, tupleD_lst, tupleD_tup, listD_lst, listD_tup, listMD_lst, listMD_tup, ixD_tup, ixD_lst, ixD_scr, inD_lst, inD_tup, notInD_lst, notInD_tup, slD_lst, slD_scr, slD_tup, revD_lst, revMD_lst, nth_0, nth_1, nth_2, nth_3, nth_4, nth_5, nth_6, nth_7, nthN_0, nthN_1, nthN_2, nthN_3, nthN_4, nthN_5, nthN_6, srcD_lst, srcD_scr, srcD_tup, fldsD_obj, isi_non_bool, isi_non_int, isi_non_str, isi_non_tuple, isi_non_list, isi_bl_bool, isi_bl_int, isi_bl_str, isi_bl_tuple, isi_bl_list, isi_int_bool, isi_int_int, isi_int_str, isi_int_tuple, isi_int_list, isi_str_bool, isi_str_int, isi_str_str, isi_str_tuple, isi_str_list, isi_tup_bool, isi_tup_int, isi_tup_str, isi_tup_tuple, isi_tup_list, isi_lst_bool, isi_lst_int, isi_lst_str, isi_lst_tuple, isi_lst_list, if_true, if_false, true_and, Bool.false_eq_true, Bool.not_true, Bool.not_false, List.isEmpty_nil])
local macro_rules | `(tactic| walk_at "one") => `(tactic| simp only [dIfS, dTest, dOp, dUn, dVar, dC, look, dAnd, dOr, dNot, dAndV, dOrV, dNotV, dIf, dNil, dCons, dTup, dLst, dLstM, dCB, dNext, dBreak, dCont, dDrop, dRet, dRetN, dAsg, dgName, dgTup, dgCons, dgNil, dgSub, dPar, setMany, dAug, dBM, dBM0, dFld, dCall, dCallN, dSl, dRev, dRevM, dPart, dNoPart, diAny, diRng1, diRng2, diEnum, diZip, dLc, dLcM, dYes, dFor, List.set, List.nil_append, List.cons_append, List.append_nil, List.length_cons, List.length_nil, addD_int, addD_lst, addD_tup, addD_str, iaddD_int, subD_int, mulD_int, mulD_lst, fdivD_int, modD_int, powD_int, negD_int, ltD_int, leD_int, gtD_int, geD_int, eqD_int, eqD_bl, eqD_str, eqD_tup, eqD_lst, neD_int, neD_bl, neD_str, neD_tup, neD_lst, isD_non, isD_bl, notD_non, notD_bl, isNon_non, isNon_int, isNon_bl, isNon_str, isNon_tup, isNon_lst, intD_int, intD_bl, absD_int, max2D_int, min2D_int, lenD_lst, lenD_tup, lenD_scr, tupleD_lst, tupleD_tup, listD_lst, listD_tup, listMD_lst, listMD_tup, ixD_tup, ixD_lst, ixD_scr, inD_lst, inD_tup, notInD_lst, notInD_tup, slD_lst, slD_scr, slD_tup, revD_lst, revMD_lst, nth_0, nth_1, nth_2, nth_3, nth_4, nth_5, nth_6, nth_7, nthN_0, nthN_1, nthN_2, nthN_3, nthN_4, nthN_5, nthN_6, srcD_lst, srcD_scr, srcD_tup, fldsD_obj, isi_non_bool, isi_non_int, isi_non_str, isi_non_tuple, isi_non_list, isi_bl_bool, isi_bl_int, isi_bl_str, isi_bl_tuple, isi_bl_list, isi_int_bool, isi_int_int, isi_int_str, isi_int_tuple, isi_int_list, isi_str_bool, isi_str_int, isi_str_str, isi_str_tuple, isi_str_list, isi_tup_bool, isi_tup_int, isi_tup_str, isi_tup_tuple, isi_tup_list, isi_lst_bool, isi_lst_int, isi_lst_str, isi_lst_tuple, isi_lst_list, if_true, if_false, true_and, Bool.false_eq_true, Bool.not_true, Bool.not_false, List.isEmpty_nil])
theorem ite_dec {p A B : Prop} [Decidable p] (h1 : p → A) (h2 : ¬p → B) : if decide p = true then A else B := by
  by_cases h : p
  · rw [if_pos (decide_eq_true h)]; exact h1 h
  · rw [if_neg (by simpa using h)]; exact h2 h
theorem ite_nodec {p A B : Prop} [Decidable p] (h1 : p → B) (h2 : ¬p → A) : if (!decide p) = true then A else B := by
  by_cases h : p
  · rw [if_neg (by simpa using h)]; exact h1 h
  · rw [if_pos (by simpa using h)]; exact h2 h
theorem ite_bool {b : Bool} {A B : Prop} (h1 : b = true → A) (h2 : b = false → B) : if b = true then A else B := by
  cases b with
  | false => rw [if_neg (by decide)]; exact h2 rfl
  | true => rw [if_pos rfl]; exact h1 rfl
theorem dSeq_ {a b : TDS} {E : DEnds} {Γ : DE} {M : Mem} (h : a { E with nx := b E } Γ M) : dSeq a b E Γ M := h
theorem setNew_ {C : Addr} {f : Str} {o a : TD} {E : DEnds} {Γ : DE} {M : Mem} {p : Addr} {y : D} {ns : List Str} {ds : List D} (ha : ∀ Q : QD, Q y M → a Γ M Q) (ho : ∀ Q : QD, Q (.ref p) M → o Γ M Q) (hp : M p = some (.ins C ns ds)) (hl : ns.length < 1000) (hf : ns.contains f = false)
    (h : E.nx Γ (mput M p (.ins C (ns ++ [f]) (ds ++ [y])))) : dSetNew C f o a E Γ M := by
  refine ha _ (ho _ ?_)
  show match M p with
    | some (.ins C' ns ds) => C' = C ∧ ns.length < 1000 ∧ ns.contains f = false ∧ E.nx Γ (mput M p (.ins C (ns ++ [f]) (ds ++ [y])))
    | _ => False
  rw [hp]
  exact ⟨rfl, hl, hf, h⟩
theorem seqNew_ {C : Addr} {f : Str} {o a : TD} {T : TDS} {E : DEnds} {Γ : DE} {M : Mem} {p : Addr} {y : D} {ns : List Str} {ds : List D} (ha : ∀ Q : QD, Q y M → a Γ M Q) (ho : ∀ Q : QD, Q (.ref p) M → o Γ M Q) (hp : M p = some (.ins C ns ds)) (hl : ns.length < 1000) (hf : ns.contains f = false)
    (h : T E Γ (mput M p (.ins C (ns ++ [f]) (ds ++ [y])))) : dSeq (dSetNew C f o a) T E Γ M := dSeq_ (setNew_ ha ho hp hl hf h)
section
variable {a b c d e f : D}
theorem enumD_0 : enumD [] = [] := rfl
theorem enumD_1 : enumD [a] = [.tup [.int 0, a]] := rfl
theorem enumD_2 : enumD [a, b] = [.tup [.int 0, a], .tup [.int 1, b]] := rfl
theorem enumD_3 : enumD [a, b, c] = [.tup [.int 0, a], .tup [.int 1, b], .tup [.int 2, c]] := rfl
theorem enumD_4 : enumD [a, b, c, d] = [.tup [.int 0, a], .tup [.int 1, b], .tup [.int 2, c], .tup [.int 3, d]] := rfl
theorem enumD_5 : enumD [a, b, c, d, e] = [.tup [.int 0, a], .tup [.int 1, b], .tup [.int 2, c], .tup [.int 3, d], .tup [.int 4, e]] := rfl
end
end DL

set_option Elab.async false
set_option linter.all false
set_option maxRecDepth 100000
set_option maxHeartbeats 4000000
/-! One of some, and two answers that are one. -/
namespace DL
open PySem PySem.Spec PyProof.Rows L2
local macro_rules | `(tactic| walk_at "dl") => `(tactic| simp only [dSeq, dIfS, dTest, dOp, dUn, dVar, dC, look, dAnd, dOr, dNot, dAndV, dOrV, dNotV, dIf, dNil, dCons, dTup, dLst, dLstM, dCB, dNext, dBreak, dCont, dDrop, dRet, dRetN, dAsg, dgName, dgTup, dgCons, dgNil, dgSub, dPar, setMany, dAug, dBM, dBM0, dFld, dCall, dCallN, dSl, dRev, dRevM, dPart, dNoPart, diAny, diRng1, diRng2, diEnum, diZip, dLc, dLcM, dYes, dFor, List.set, List.nil_append, List.cons_append, List.append_nil, List.length_cons, List.length_nil, if_true, if_false, true_and, Bool.false_eq_true, Bool.not_true, Bool.not_false, List.isEmpty_nil])
local macro_rules | `(tactic| walk_at "leaf") => `(tactic| simp only [addD_int, addD_lst, addD_tup, addD_str, iaddD_int, subD_int, mulD_int, mulD_lst, fdivD_int, modD_int, powD_int, negD_int, ltD_int, leD_int, gtD_int, geD_int, eqD_int, eqD_bl, eqD_str, eqD_tup, eqD_lst, neD_int, neD_bl, neD_str, neD_tup, neD_lst, isD_non, isD_bl, notD_non, notD_bl, isNon_non, isNon_int, isNon_bl, isNon_str, isNon_tup, isNon_lst, intD_int, intD_bl, absD_int, max2D_int, min2D_int, lenD_lst, lenD_tup, lenD_scr, tupleD_lst, tupleD_tup, listD_lst, listD_tup, listMD_lst, listMD_tup, ixD_tup, ixD_lst, ixD_scr, inD_lst, inD_tup, notInD_lst, notInD_tup, slD_lst, slD_scr, slD_tup, revD_lst, revMD_lst, nth_0, nth_1, nth_2, nth_3, nth_4, nth_5, nth_6, nth_7, nthN_0, nthN_1, nthN_2, nthN_3, nthN_4, nthN_5, nthN_6, srcD_lst, srcD_scr, srcD_tup, fldsD_obj, isi_non_bool, isi_non_int, isi_non_str, isi_non_tuple, isi_non_list, isi_bl_bool, isi_bl_int, isi_bl_str, isi_bl_tuple, isi_bl_list, isi_int_bool, isi_int_int, isi_int_str, isi_int_tuple, isi_int_list, isi_str_bool, isi_str_int, isi_str_str, isi_str_tuple, isi_str_list, isi_tup_bool, isi_tup_int, isi_tup_str, isi_tup_tuple, isi_tup_list, isi_lst_bool, isi_lst_int, isi_lst_str, isi_lst_tuple, isi_lst_list, if_true, if_false, true_and, Bool.false_eq_true, Bool.not_true, Bool.not_false, List.isEmpty_nil])
local macro_rules | `(tactic| walk_at "all") => `(tactic| simp only [dSeq, dIfS, dTest, dOp, dUn, dVar, dC, look, dAnd, dOr, dNot, dAndV, dOrV, dNotV, dIf, dNil, dCons, dTup, dLst, dLstM, dCB, dNext, dBreak, dCont, dDrop, dRet, dRetN, dAsg, dgName, dgTup, dgCons, dgNil, dgSub, dPar, setMany, dAug, dBM, dBM0, dFld, dCall, dCallN, dSl, dRev, dRevM, dPart, dNoPart, diAny, diRng1, diRng2, diEnum, diZip, dLc, dLcM, dYes, dFor, List.set, List.nil_append, List.cons_append, List.append_nil, List.length_cons, List.length_nil, addD_int, addD_lst, addD_tup, addD_str, iaddD_int, subD_int, mulD_int, mulD_lst, fdivD_int, modD_int, powD_int, negD_int, ltD_int, leD_int, gtD_int, geD_int, eqD_int, eqD_bl, eqD_str, eqD_tup, eqD_lst, neD_int, neD_bl, neD_str, neD_tup, neD_lst, isD_non, isD_bl, notD_non, notD_bl, isNon_non, isNon_int, isNon_bl, isNon_str, isNon_tup, isNon_lst, intD_int, intD_bl, absD_int, max2D_int, min2D_int, lenD_lst, lenD_tup, lenD_scr, tupleD_lst, tupleD_tup, listD_lst, listD_tup, listMD_lst, listMD_tup, ixD_tup, ixD_lst, ixD_scr, inD_lst, inD_tup, notInD_lst, notInD_tup, slD_lst, slD_scr, slD_tup, revD_lst, revMD_lst, nth_0, nth_1, nth_2, nth_3, nth_4, nth_5, nth_6, nth_7, nthN_0, nthN_1, nthN_2, nthN_3, nthN_4, nthN_5, nthN_6, srcD_lst, srcD_scr, srcD_tup, fldsD_obj, isi_non_bool, isi_non_int, isi_non_str, isi_non_tuple, isi_non_list, isi_bl_bool, isi_bl_int, isi_bl_str, isi_bl_tuple, isi_bl_list, isi_int_bool, isi_int_int, isi_int_str, isi_int_tuple, isi_int_list, isi_str_bool, isi_str_int, isi_str_str, isi_str_tuple, isi_str_list, isi_tup_bool, isi_tup_int, isi_tup_str, isi_tup_tuple, isi_tup_list, isi_lst_bool, isi_lst_int, isi_lst_str, isi_lst_tuple, isi_lst_list, if_true, if_false, true_and, Bool.false_eq_true, Bool.not_true, Bool.not_false, List.isEmpty_nil])
local macro_rules | `(tactic| walk_at "one") => `(tactic| simp only [dIfS, dTest, dOp, dUn, dVar, dC, look, dAnd, dOr, dNot, dAndV, dOrV, dNotV, dIf, dNil, dCons, dTup, dLst, dLstM, dCB, dNext, dBreak, dCont, dDrop, dRet, dRetN, dAsg, dgName, dgTup, dgCons, dgNil, dgSub, dPar, setMany, dAug, dBM, dBM0, dFld, dCall, dCallN, dSl, dRev, dRevM, dPart, dNoPart, diAny, diRng1, diRng2, diEnum, diZip, dLc, dLcM, dYes, dFor, List.set, List.nil_append, List.cons_append, List.append_nil, List.length_cons, List.length_nil, addD_int, addD_lst, addD_tup, addD_str, iaddD_int, subD_int, mulD_int, mulD_lst, fdivD_int, modD_int, powD_int, negD_int, ltD_int, leD_int, gtD_int, geD_int, eqD_int, eqD_bl, eqD_str, eqD_tup, eqD_lst, neD_int, neD_bl, neD_str, neD_tup, neD_lst, isD_non, isD_bl, notD_non, notD_bl, isNon_non, isNon_int, isNon_bl, isNon_str, isNon_tup, isNon_lst, intD_int, intD_bl, absD_int, max2D_int, min2D_int, lenD_lst, lenD_tup, lenD_scr, tupleD_lst, tupleD_tup, listD_lst, listD_tup, listMD_lst, listMD_tup, ixD_tup, ixD_lst, ixD_scr, inD_lst, inD_tup, notInD_lst, notInD_tup, slD_lst, slD_scr, slD_tup, revD_lst, revMD_lst, nth_0, nth_1, nth_2, nth_3, nth_4, nth_5, nth_6, nth_7, nthN_0, nthN_1, nthN_2, nthN_3, nthN_4, nthN_5, nthN_6, srcD_lst, srcD_scr, srcD_tup, fldsD_obj, isi_non_bool, isi_non_int, isi_non_str, isi_non_tuple, isi_non_list, isi_bl_bool, isi_bl_int, isi_bl_str, isi_bl_tuple, isi_bl_list, isi_int_bool, isi_int_int, isi_int_str, isi_int_tuple, isi_int_list, isi_str_bool, isi_str_int, isi_str_str, isi_str_tuple, isi_str_list, isi_tup_bool, isi_tup_int, isi_tup_str, isi_tup_tuple, isi_tup_list, isi_lst_bool, isi_lst_int, isi_lst_str, isi_lst_tuple, isi_lst_list, if_true, if_false, true_and, Bool.false_eq_true, Bool.not_true, Bool.not_false, List.isEmpty_nil])
theorem nth_get {xs : List D} {i : Int} {k : D → Prop} (h0 : 0 ≤ i) (h1 : i < xs.length) (h : ∀ d ∈ xs, xs[i.toNat]? = some d → k d) : nth xs i k := by
  unfold nth L2.atI ixN
  rw [if_pos h0, if_pos h1]
  have z : i.toNat < xs.length := by omega
  show match xs[i.toNat]? with
    | some d => k d
    | none => False
  rw [List.getElem?_eq_getElem z]
  exact h _ (List.getElem_mem z) (List.getElem?_eq_getElem z)
theorem lenD_items {M : Mem} {y : D} {ys : List D} {Q : QD} (h : itemsD M y = some ys) : lenD [y] M Q = Q (.int (ys.length : Nat)) M := by
  unfold itemsD at h
  unfold lenD
  split at h <;> first | cases h | skip
  all_goals simp_all
theorem ixD_items {M : Mem} {y : D} {ys : List D} {i : Int} {Q : QD} (h : itemsD M y = some ys) : ixD y (.int i) M Q = nth ys i fun d => Q d M := by
  unfold ixD
  rw [h]
def bPick (S : DSp) : TDS := (dRet (dOp ixD (dVar 1) (dCall S [] (dCons (dVar 0) (dCons (dCB lenD (dCons (dVar 1) dNil)) dNil)))))
theorem sem_pick : ∀ ds M Q, S_pick ds M Q → bPick S_draw { nx := fun _ M => Q .non M, rt := Q } (startD ["heap", "some"] ds) M := by
  rintro ds M Q ⟨x, y, ys, rfl, hs, hy, h0, h1, q⟩
  show bPick _ _ [some x, some y] M
  unfold bPick
  simp only [dRet, dOp, dVar, dCall, dCons, dCB, dNil, look, List.append_nil]
  rw [lenD_items hy]
  refine ⟨x, _, rfl, hs, by omega, by omega, fun r r0 r1 => ?_⟩
  show ixD y (.int r) M Q
  rw [ixD_items hy]
  exact nth_get r0 r1 fun d hd _ => q d hd

/-- plain data of some depth -/
def tame : Nat → D → Bool
  | 0, .tup _ => false
  | n + 1, .tup xs => decide (xs.length < 1000000) && xs.all (tame n)
  | _, .non => true
  | _, .bl _ => true
  | _, .int _ => true
  | _, .str _ => true
  | _, _ => false
def S_like (n : Nat) : DSp := fun ds M Q => ∃ x, ds = [x, x] ∧ tame n x = true ∧ Q (.bl true) M
def bLike (S : DSp) : TDS :=
  (dSeq (dIfS (dTest (dCB isiD (dCons (dVar 1) (dCons (dC (.ty "tuple")) dNil))))
    (dRet (dAndV (dCB isiD (dCons (dVar 0) (dCons (dC (.ty "tuple")) dNil))) (dAndV (dOp eqD (dCB lenD (dCons (dVar 0) dNil)) (dCB lenD (dCons (dVar 1) dNil))) (dCB allLD (dCons (dLc (diRng1 (dCons (dCB lenD (dCons (dVar 1) dNil)) dNil)) (dgName 2) dYes (dCall S [] (dCons (dOp ixD (dVar 0) (dVar 2)) (dCons (dOp ixD (dVar 1) (dVar 2)) dNil))) [2]) dNil)))))
    dNext)
    (dSeq (dIfS (dTest (dOp isD (dVar 1) (dC .non)))
    (dRet (dOp isD (dVar 0) (dC .non)))
    dNext)
    (dSeq (dIfS (dTest (dCB isiD (dCons (dVar 1) (dCons (dC (.ty "bool")) dNil))))
    (dRet (dIf (dTest (dVar 1)) (dOp isD (dVar 0) (dC (.bl true))) (dOp isD (dVar 0) (dC (.bl false)))))
    dNext)
    (dSeq (dIfS (dTest (dCB isiD (dCons (dVar 1) (dCons (dC (.ty "int")) dNil))))
    (dRet (dAndV (dCB isiD (dCons (dVar 0) (dCons (dC (.ty "int")) dNil))) (dAndV (dNotV (dCB isiD (dCons (dVar 0) (dCons (dC (.ty "bool")) dNil)))) (dOp eqD (dVar 0) (dVar 1)))))
    dNext)
    (dRet (dAndV (dCB isiD (dCons (dVar 0) (dCons (dC (.ty "str")) dNil))) (dOp eqD (dVar 0) (dVar 1))))))))
theorem sem_like_at {n : Nat} {S : DSp} (hS : ∀ x M Q, (∃ m, n = m + 1 ∧ tame m x = true) → Q (.bl true) M → S [x, x] M Q) : ∀ ds M Q, S_like n ds M Q → bLike S { nx := fun _ M => Q .non M, rt := Q } (startD ["told", "due", "at"] ds) M := by
  rintro ds M Q ⟨x, rfl, ht, q⟩
  show bLike _ _ [some x, some x, none] M
  unfold bLike
  cases x with
  | non => walk_at "all"; exact q
  | bl b =>
    walk_at "all"
    cases b
    · exact q
    · exact q
  | int i =>
    walk_at "all"
    rw [show decide True = true from rfl]
    exact q
  | str z =>
    walk_at "all"
    rw [show decide True = true from rfl]
    exact q
  | tup xs =>
    cases n with
    | zero => simp [tame] at ht
    | succ n =>
      have ht' : xs.length < 1000000 ∧ ∀ y ∈ xs, tame n y = true := by simpa [tame] using ht
      walk_at "all"
      rw [if_pos (by simp)]
      refine ⟨⟨by omega, by omega⟩, ?_⟩
      have e : rngD 0 ((xs.length : Int)).toNat = (List.range xs.length).map fun i => D.int (0 + (i : Nat)) := by unfold rngD; rfl
      rw [e]
      refine lc_all (fun i : Nat => D.int (0 + (i : Nat))) (fun _ => .bl true) trivial _ (fun i hi Y N hY => ?_) (by rw [sizeLine_eq, List.length_range]; omega) ?_
      · have hi' : i < xs.length := by simpa using hi
        simp only [wipeD, dgName, dYes, List.set, if_true, dCall, dCons, dNil, dOp, dVar, look, ixD_tup]
        refine nth_get (by omega) (by omega) fun d hd hg => ?_
        refine nth_get (by omega) (by omega) fun d' hd' hg' => ?_
        rw [hg] at hg'
        cases hg'
        exact hS d M Y ⟨n, rfl, ht'.2 d hd⟩ hY
      · refine ⟨List.replicate xs.length true, ?_, ?_⟩
        · show D.lst _ = D.lst _
          rw [List.map_replicate]
          exact congrArg D.lst (by rw [List.map_const', List.length_range])
        · rw [List.all_replicate]
          simp
          exact q
  | ty _ => cases n <;> simp [tame] at ht
  | lst _ => cases n <;> simp [tame] at ht
  | scr _ => cases n <;> simp [tame] at ht
  | obj _ _ _ => cases n <;> simp [tame] at ht
  | ref _ => cases n <;> simp [tame] at ht
theorem sem_like (n : Nat) : ∀ ds M Q, S_like (n + 1) ds M Q → bLike (S_like n) { nx := fun _ M => Q .non M, rt := Q } (startD ["told", "due", "at"] ds) M :=
  sem_like_at fun x M Q ⟨m, e, h⟩ q => ⟨x, rfl, by cases e; exact h, q⟩
theorem sem_like0 {S : DSp} : ∀ ds M Q, S_like 0 ds M Q → bLike S { nx := fun _ M => Q .non M, rt := Q } (startD ["told", "due", "at"] ds) M :=
  sem_like_at fun x M Q ⟨m, e, h⟩ q => by cases e
end DL

set_option Elab.async false
set_option linter.all false
set_option maxRecDepth 100000
set_option maxHeartbeats 4000000
/-! The rules to rewrite by, root first. Written by gen/mkdlm.py -/
namespace DL
open PySem PySem.Spec PyProof.Rows L2
theorem e_dTest {a : TD} {Γ : DE} {M : Mem} {Q : Bool → Mem → Prop} : dTest a Γ M Q = (a Γ M fun x M1 => match x with | .bl b => Q b M1 | _ => False) := propext Iff.rfl
theorem e_dOp {r : R2D} {a b : TD} {Γ : DE} {M : Mem} {Q : QD} : dOp r a b Γ M Q = (a Γ M fun x M1 => b Γ M1 fun y M2 => r x y M2 Q) := propext Iff.rfl
theorem e_dUn {r : R1D} {a : TD} {Γ : DE} {M : Mem} {Q : QD} : dUn r a Γ M Q = (a Γ M fun x M1 => r x M1 Q) := propext Iff.rfl
theorem e_dVar {i : Nat} {Γ : DE} {M : Mem} {Q : QD} : dVar i Γ M Q = (look Γ i fun d => Q d M) := propext Iff.rfl
theorem e_dC {d : D} {z1 : DE} {M : Mem} {Q : QD} : dC d z1 M Q = (Q d M) := propext Iff.rfl
theorem e_dAnd {t u : TDT} {Γ : DE} {M : Mem} {Q : Bool → Mem → Prop} : dAnd t u Γ M Q = (t Γ M fun c M1 => if c = true then u Γ M1 Q else Q false M1) := propext Iff.rfl
theorem e_dOr {t u : TDT} {Γ : DE} {M : Mem} {Q : Bool → Mem → Prop} : dOr t u Γ M Q = (t Γ M fun c M1 => if c = true then Q true M1 else u Γ M1 Q) := propext Iff.rfl
theorem e_dNot {t : TDT} {Γ : DE} {M : Mem} {Q : Bool → Mem → Prop} : dNot t Γ M Q = (t Γ M fun c M1 => Q (!c) M1) := propext Iff.rfl
theorem e_dAndV {a b : TD} {Γ : DE} {M : Mem} {Q : QD} : dAndV a b Γ M Q = (a Γ M fun x M1 => match x with | .bl c => if c = true then b Γ M1 Q else Q (.bl false) M1 | _ => False) := propext Iff.rfl
theorem e_dOrV {a b : TD} {Γ : DE} {M : Mem} {Q : QD} : dOrV a b Γ M Q = (a Γ M fun x M1 => match x with | .bl c => if c = true then Q (.bl true) M1 else b Γ M1 Q | _ => False) := propext Iff.rfl
theorem e_dNotV {a : TD} {Γ : DE} {M : Mem} {Q : QD} : dNotV a Γ M Q = (a Γ M fun x M1 => match x with | .bl c => Q (.bl (!c)) M1 | _ => False) := propext Iff.rfl
theorem e_dIf {t : TDT} {a b : TD} {Γ : DE} {M : Mem} {Q : QD} : dIf t a b Γ M Q = (t Γ M fun c M1 => if c = true then a Γ M1 Q else b Γ M1 Q) := propext Iff.rfl
theorem e_dNil {z1 : DE} {M : Mem} {Q : List D → Mem → Prop} : dNil z1 M Q = (Q [] M) := propext Iff.rfl
theorem e_dCons {a : TD} {r : TDA} {Γ : DE} {M : Mem} {Q : List D → Mem → Prop} : dCons a r Γ M Q = (a Γ M fun x M1 => r Γ M1 fun xs M2 => Q (x :: xs) M2) := propext Iff.rfl
theorem e_dTup {a : TDA} {Γ : DE} {M : Mem} {Q : QD} : dTup a Γ M Q = (a Γ M fun xs M1 => xs.length ≤ sizeLine ∧ Q (.tup xs) M1) := propext Iff.rfl
theorem e_dLst {a : TDA} {Γ : DE} {M : Mem} {Q : QD} : dLst a Γ M Q = (a Γ M fun xs M1 => xs.length ≤ sizeLine ∧ Q (.lst xs) M1) := propext Iff.rfl
theorem e_dLstM {a : TDA} {Γ : DE} {M : Mem} {Q : QD} : dLstM a Γ M Q = (a Γ M fun xs M1 => xs.length ≤ sizeLine ∧ ∀ p, M1 p = none → Q (.ref p) (mput M1 p (.lst xs))) := propext Iff.rfl
theorem e_dCB {r : RCD} {a : TDA} {Γ : DE} {M : Mem} {Q : QD} : dCB r a Γ M Q = (a Γ M fun xs M1 => r xs M1 Q) := propext Iff.rfl
theorem e_dNext {en : DE → Mem → Prop} {er : D → Mem → Prop} {eb ec : DE → Mem → Prop} {Γ : DE} {M : Mem} : dNext ⟨en, er, eb, ec⟩ Γ M = (en Γ M) := propext Iff.rfl
theorem e_dBreak {en : DE → Mem → Prop} {er : D → Mem → Prop} {eb ec : DE → Mem → Prop} {Γ : DE} {M : Mem} : dBreak ⟨en, er, eb, ec⟩ Γ M = (eb Γ M) := propext Iff.rfl
theorem e_dCont {en : DE → Mem → Prop} {er : D → Mem → Prop} {eb ec : DE → Mem → Prop} {Γ : DE} {M : Mem} : dCont ⟨en, er, eb, ec⟩ Γ M = (ec Γ M) := propext Iff.rfl
theorem e_dDrop {a : TD} {en : DE → Mem → Prop} {er : D → Mem → Prop} {eb ec : DE → Mem → Prop} {Γ : DE} {M : Mem} : dDrop a ⟨en, er, eb, ec⟩ Γ M = (a Γ M fun _ M1 => en Γ M1) := propext Iff.rfl
theorem e_dRet {a : TD} {en : DE → Mem → Prop} {er : D → Mem → Prop} {eb ec : DE → Mem → Prop} {Γ : DE} {M : Mem} : dRet a ⟨en, er, eb, ec⟩ Γ M = (a Γ M er) := propext Iff.rfl
theorem e_dRetN {en : DE → Mem → Prop} {er : D → Mem → Prop} {eb ec : DE → Mem → Prop} {z1 : DE} {M : Mem} : dRetN ⟨en, er, eb, ec⟩ z1 M = (er .non M) := propext Iff.rfl
theorem e_dAsg {a : TD} {g : TDG} {en : DE → Mem → Prop} {er : D → Mem → Prop} {eb ec : DE → Mem → Prop} {Γ : DE} {M : Mem} : dAsg a g ⟨en, er, eb, ec⟩ Γ M = (a Γ M fun x M1 => g x Γ M1 en) := propext Iff.rfl
theorem e_dgName {i : Nat} {d : D} {Γ : DE} {M : Mem} {Q : DE → Mem → Prop} : dgName i d Γ M Q = (Q (Γ.set i (some d)) M) := propext Iff.rfl
theorem e_dgTup {n : Nat} {u : TDGs} {x : D} {Γ : DE} {M : Mem} {Q : DE → Mem → Prop} : dgTup n u x Γ M Q = (match x with
  | .tup xs => xs.length = n ∧ u xs Γ M Q
  | _ => False) := propext Iff.rfl
theorem e_dgCons {g : TDG} {u : TDGs} {xs : List D} {Γ : DE} {M : Mem} {Q : DE → Mem → Prop} : dgCons g u xs Γ M Q = (match xs with
  | [] => False
  | x :: r => g x Γ M fun Γ1 M1 => u r Γ1 M1 Q) := propext Iff.rfl
theorem e_dgNil {xs : List D} {Γ : DE} {M : Mem} {Q : DE → Mem → Prop} : dgNil xs Γ M Q = (xs = [] ∧ Q Γ M) := propext Iff.rfl
theorem e_dgSub {o i : TD} {v : D} {Γ : DE} {M : Mem} {Q : DE → Mem → Prop} : dgSub o i v Γ M Q = (o Γ M fun x M1 => i Γ M1 fun y M2 => setLD x y v M2 fun M3 => Q Γ M3) := propext Iff.rfl
theorem e_dPar {is : List Nat} {a : TDA} {en : DE → Mem → Prop} {er : D → Mem → Prop} {eb ec : DE → Mem → Prop} {Γ : DE} {M : Mem} : dPar is a ⟨en, er, eb, ec⟩ Γ M = (a Γ M fun xs M1 => xs.length = is.length ∧ en (setMany is xs Γ) M1) := propext Iff.rfl
theorem e_dAug {i : Nat} {r : R2D} {a : TD} {en : DE → Mem → Prop} {er : D → Mem → Prop} {eb ec : DE → Mem → Prop} {Γ : DE} {M : Mem} : dAug i r a ⟨en, er, eb, ec⟩ Γ M = (look Γ i fun x => a Γ M fun y M1 => r x y M1 fun z M2 => en (Γ.set i (some z)) M2) := propext Iff.rfl
theorem e_dBM {r : D → List D → Mem → QD → Prop} {o : TD} {a : TDA} {Γ : DE} {M : Mem} {Q : QD} : dBM r o a Γ M Q = (o Γ M fun x M1 => isLstD M1 x ∧ a Γ M1 fun xs M2 => r x xs M2 Q) := propext Iff.rfl
theorem e_dBM0 {r : D → List D → Mem → QD → Prop} {o : TD} {Γ : DE} {M : Mem} {Q : QD} : dBM0 r o Γ M Q = (o Γ M fun x M1 => isLstD M1 x ∧ r x [] M1 Q) := propext Iff.rfl
theorem e_dFld {C : Addr} {ns : List Str} {i : Nat} {a : TD} {Γ : DE} {M : Mem} {Q : QD} : dFld C ns i a Γ M Q = (a Γ M fun x M1 => match fldsD M1 x with
  | some (C', ns', ds) => C' = C ∧ ns' = ns ∧ nthN ds i fun d => Q d M1
  | none => False) := propext Iff.rfl
theorem e_dCall {S : DSp} {dds : List D} {a : TDA} {Γ : DE} {M : Mem} {Q : QD} : dCall S dds a Γ M Q = (a Γ M fun ds M1 => S (ds ++ dds) M1 Q) := propext Iff.rfl
theorem e_dCallN {S : DSp} {ix : List Nat} {n m : Nat} {dds : List D} {a b : TDA} {Γ : DE} {M : Mem} {Q : QD} : dCallN S ix n m dds a b Γ M Q = (a Γ M fun ds M1 => b Γ M1 fun es M2 => ds.length = n ∧ es.length = m ∧ S (pick ix (ds ++ (es ++ dds))) M2 Q) := propext Iff.rfl
theorem e_dSl {a : TD} {l h : TDO} {Γ : DE} {M : Mem} {Q : QD} : dSl a l h Γ M Q = (a Γ M fun x M1 => l Γ M1 fun lo M2 => h Γ M2 fun hi M3 => slD x lo hi M3 Q) := propext Iff.rfl
theorem e_dRev {a : TD} {Γ : DE} {M : Mem} {Q : QD} : dRev a Γ M Q = (a Γ M fun x M1 => revD x M1 Q) := propext Iff.rfl
theorem e_dRevM {a : TD} {Γ : DE} {M : Mem} {Q : QD} : dRevM a Γ M Q = (a Γ M fun x M1 => revMD x M1 Q) := propext Iff.rfl
theorem e_dPart {t : TD} {Γ : DE} {M : Mem} {Q : Option Int → Mem → Prop} : dPart t Γ M Q = (t Γ M fun x M1 => match x with | .int i => Q (some i) M1 | _ => False) := propext Iff.rfl
theorem e_dNoPart {z1 : DE} {M : Mem} {Q : Option Int → Mem → Prop} : dNoPart z1 M Q = (Q none M) := propext Iff.rfl
theorem e_diAny {a : TD} {Γ : DE} {M : Mem} {P : List D → (Mem → Prop) → Mem → Prop} : diAny a Γ M P = (a Γ M fun x M1 => srcD x M1 P) := propext Iff.rfl
theorem e_diRng1 {a : TDA} {Γ : DE} {M : Mem} {P : List D → (Mem → Prop) → Mem → Prop} : diRng1 a Γ M P = (a Γ M fun xs M1 => match xs with
  | [.int j] => (-(2 ^ 62) ≤ j ∧ j < 2 ^ 62) ∧ P (rngD 0 j.toNat) noGrd M1
  | _ => False) := propext Iff.rfl
theorem e_diRng2 {a : TDA} {Γ : DE} {M : Mem} {P : List D → (Mem → Prop) → Mem → Prop} : diRng2 a Γ M P = (a Γ M fun xs M1 => match xs with
  | [.int i, .int j] => (-(2 ^ 62) ≤ i ∧ i < 2 ^ 62 ∧ -(2 ^ 62) ≤ j ∧ j < 2 ^ 62) ∧ P (rngD i (j - i).toNat) noGrd M1
  | _ => False) := propext Iff.rfl
theorem e_diEnum {a : TDA} {Γ : DE} {M : Mem} {P : List D → (Mem → Prop) → Mem → Prop} : diEnum a Γ M P = (a Γ M fun xs M1 => match xs with
  | [x] => srcD x M1 fun ds grd M2 => P (enumD ds) grd M2
  | _ => False) := propext Iff.rfl
theorem e_diZip {a : TDA} {Γ : DE} {M : Mem} {P : List D → (Mem → Prop) → Mem → Prop} : diZip a Γ M P = (a Γ M fun xs M1 => match xs with
  | [.lst xs, .lst ys] => P (zipD xs ys) noGrd M1
  | [.tup xs, .tup ys] => P (zipD xs ys) noGrd M1
  | _ => False) := propext Iff.rfl
theorem e_dLc {di : TDI} {g : TDG} {t : TDT} {e : TD} {vs : List Nat} {Γ : DE} {M : Mem} {Q : QD} : dLc di g t e vs Γ M Q = (di Γ M fun ds grd M1 => lcL grd g t e (wipeD Γ vs) (fun acc M2 => Q (.lst acc) M2) ds [] M1) := propext Iff.rfl
theorem e_dLcM {di : TDI} {g : TDG} {t : TDT} {e : TD} {vs : List Nat} {Γ : DE} {M : Mem} {Q : QD} : dLcM di g t e vs Γ M Q = (di Γ M fun ds grd M1 => lcL grd g t e (wipeD Γ vs) (fun acc M2 => ∀ p, M2 p = none → Q (.ref p) (mput M2 p (.lst acc))) ds [] M1) := propext Iff.rfl
theorem e_dYes {z1 : DE} {M : Mem} {Q : Bool → Mem → Prop} : dYes z1 M Q = (Q true M) := propext Iff.rfl
theorem e_dFor {di : TDI} {g : TDG} {body : TDS} {en : DE → Mem → Prop} {er : D → Mem → Prop} {eb ec : DE → Mem → Prop} {Γ : DE} {M : Mem} : dFor di g body ⟨en, er, eb, ec⟩ Γ M = (di Γ M fun ds grd M1 => forL grd g body ⟨en, er, eb, ec⟩ ds Γ M1) := propext Iff.rfl
theorem e_dIfS {t : TDT} {u w : TDS} {en : DE → Mem → Prop} {er : D → Mem → Prop} {eb ec : DE → Mem → Prop} {Γ : DE} {M : Mem} : dIfS t u w ⟨en, er, eb, ec⟩ Γ M = (t Γ M fun b M1 => if b = true then u ⟨en, er, eb, ec⟩ Γ M1 else w ⟨en, er, eb, ec⟩ Γ M1) := propext Iff.rfl
theorem e_dMeth {C : Addr} {S : DSp} {dds : List D} {o : TD} {a : TDA} {Γ : DE} {M : Mem} {Q : QD} : dMeth C S dds o a Γ M Q = (o Γ M fun x M1 => (match fldsD M1 x with
  | some (C', _, _) => C' = C
  | none => False) ∧ a Γ M1 fun ds M2 => S (x :: (ds ++ dds)) M2 Q) := propext Iff.rfl
theorem e_dTupRg1 {a : TD} {Γ : DE} {M : Mem} {Q : QD} : dTupRg1 a Γ M Q = (a Γ M fun x M1 => match x with
  | .int n => RgOk 0 n ∧ Q (.tup (rngD 0 n.toNat)) M1
  | _ => False) := propext Iff.rfl
theorem e_dTupRg2 {a b : TD} {Γ : DE} {M : Mem} {Q : QD} : dTupRg2 a b Γ M Q = (a Γ M fun x M1 => b Γ M1 fun y M2 => match x, y with
  | .int i, .int j => RgOk i j ∧ Q (.tup (rngD i (j - i).toNat)) M2
  | _, _ => False) := propext Iff.rfl
theorem e_dLstRg1 {a : TD} {Γ : DE} {M : Mem} {Q : QD} : dLstRg1 a Γ M Q = (a Γ M fun x M1 => match x with
  | .int n => RgOk 0 n ∧ Q (.lst (rngD 0 n.toNat)) M1
  | _ => False) := propext Iff.rfl
theorem e_dLstRg2 {a b : TD} {Γ : DE} {M : Mem} {Q : QD} : dLstRg2 a b Γ M Q = (a Γ M fun x M1 => b Γ M1 fun y M2 => match x, y with
  | .int i, .int j => RgOk i j ∧ Q (.lst (rngD i (j - i).toNat)) M2
  | _, _ => False) := propext Iff.rfl
theorem e_dIsi2 {n1 n2 : String} {a : TD} {Γ : DE} {M : Mem} {Q : QD} : dIsi2 n1 n2 a Γ M Q = (a Γ M fun x M1 => match tyNm (view M1 x) with
  | some t => kitB t n1 = some (isA t n1) ∧ kitB t n2 = some (isA t n2) ∧ Q (.bl (isA t n1 || isA t n2)) M1
  | none => False) := propext Iff.rfl
theorem e_dNever {en : DE → Mem → Prop} {er : D → Mem → Prop} {eb ec : DE → Mem → Prop} {z2 : DE} {z3 : Mem} : dNever ⟨en, er, eb, ec⟩ z2 z3 = (False) := propext Iff.rfl
theorem look_s {o : Option D} {n : Nat} {Γ : DE} {k : D → Prop} : look (o :: Γ) (n + 1) k = look Γ n k := by cases o <;> rfl
theorem look_0 {d : D} {Γ : DE} {k : D → Prop} : look (some d :: Γ) 0 k = k d := propext Iff.rfl
theorem look_1 {o0 : Option D} {d : D} {Γ : DE} {k : D → Prop} : look (o0 :: some d :: Γ) 1 k = k d := (look_s (n := 0)).trans look_0
theorem look_2 {o0 o1 : Option D} {d : D} {Γ : DE} {k : D → Prop} : look (o0 :: o1 :: some d :: Γ) 2 k = k d := (look_s (n := 1)).trans look_1
theorem look_3 {o0 o1 o2 : Option D} {d : D} {Γ : DE} {k : D → Prop} : look (o0 :: o1 :: o2 :: some d :: Γ) 3 k = k d := (look_s (n := 2)).trans look_2
theorem look_4 {o0 o1 o2 o3 : Option D} {d : D} {Γ : DE} {k : D → Prop} : look (o0 :: o1 :: o2 :: o3 :: some d :: Γ) 4 k = k d := (look_s (n := 3)).trans look_3
theorem look_5 {o0 o1 o2 o3 o4 : Option D} {d : D} {Γ : DE} {k : D → Prop} : look (o0 :: o1 :: o2 :: o3 :: o4 :: some d :: Γ) 5 k = k d := (look_s (n := 4)).trans look_4
theorem look_6 {o0 o1 o2 o3 o4 o5 : Option D} {d : D} {Γ : DE} {k : D → Prop} : look (o0 :: o1 :: o2 :: o3 :: o4 :: o5 :: some d :: Γ) 6 k = k d := (look_s (n := 5)).trans look_5
theorem look_7 {o0 o1 o2 o3 o4 o5 o6 : Option D} {d : D} {Γ : DE} {k : D → Prop} : look (o0 :: o1 :: o2 :: o3 :: o4 :: o5 :: o6 :: some d :: Γ) 7 k = k d := (look_s (n := 6)).trans look_6
theorem look_8 {o0 o1 o2 o3 o4 o5 o6 o7 : Option D} {d : D} {Γ : DE} {k : D → Prop} : look (o0 :: o1 :: o2 :: o3 :: o4 :: o5 :: o6 :: o7 :: some d :: Γ) 8 k = k d := (look_s (n := 7)).trans look_7
theorem look_9 {o0 o1 o2 o3 o4 o5 o6 o7 o8 : Option D} {d : D} {Γ : DE} {k : D → Prop} : look (o0 :: o1 :: o2 :: o3 :: o4 :: o5 :: o6 :: o7 :: o8 :: some d :: Γ) 9 k = k d := (look_s (n := 8)).trans look_8
theorem look_10 {o0 o1 o2 o3 o4 o5 o6 o7 o8 o9 : Option D} {d : D} {Γ : DE} {k : D → Prop} : look (o0 :: o1 :: o2 :: o3 :: o4 :: o5 :: o6 :: o7 :: o8 :: o9 :: some d :: Γ) 10 k = k d := (look_s (n := 9)).trans look_9
theorem look_11 {o0 o1 o2 o3 o4 o5 o6 o7 o8 o9 o10 : Option D} {d : D} {Γ : DE} {k : D → Prop} : look (o0 :: o1 :: o2 :: o3 :: o4 :: o5 :: o6 :: o7 :: o8 :: o9 :: o10 :: some d :: Γ) 11 k = k d := (look_s (n := 10)).trans look_10
theorem look_12 {o0 o1 o2 o3 o4 o5 o6 o7 o8 o9 o10 o11 : Option D} {d : D} {Γ : DE} {k : D → Prop} : look (o0 :: o1 :: o2 :: o3 :: o4 :: o5 :: o6 :: o7 :: o8 :: o9 :: o10 :: o11 :: some d :: Γ) 12 k = k d := (look_s (n := 11)).trans look_11
theorem look_13 {o0 o1 o2 o3 o4 o5 o6 o7 o8 o9 o10 o11 o12 : Option D} {d : D} {Γ : DE} {k : D → Prop} : look (o0 :: o1 :: o2 :: o3 :: o4 :: o5 :: o6 :: o7 :: o8 :: o9 :: o10 :: o11 :: o12 :: some d :: Γ) 13 k = k d := (look_s (n := 12)).trans look_12
theorem look_14 {o0 o1 o2 o3 o4 o5 o6 o7 o8 o9 o10 o11 o12 o13 : Option D} {d : D} {Γ : DE} {k : D → Prop} : look (o0 :: o1 :: o2 :: o3 :: o4 :: o5 :: o6 :: o7 :: o8 :: o9 :: o10 :: o11 :: o12 :: o13 :: some d :: Γ) 14 k = k d := (look_s (n := 13)).trans look_13
theorem look_15 {o0 o1 o2 o3 o4 o5 o6 o7 o8 o9 o10 o11 o12 o13 o14 : Option D} {d : D} {Γ : DE} {k : D → Prop} : look (o0 :: o1 :: o2 :: o3 :: o4 :: o5 :: o6 :: o7 :: o8 :: o9 :: o10 :: o11 :: o12 :: o13 :: o14 :: some d :: Γ) 15 k = k d := (look_s (n := 14)).trans look_14
theorem look_16 {o0 o1 o2 o3 o4 o5 o6 o7 o8 o9 o10 o11 o12 o13 o14 o15 : Option D} {d : D} {Γ : DE} {k : D → Prop} : look (o0 :: o1 :: o2 :: o3 :: o4 :: o5 :: o6 :: o7 :: o8 :: o9 :: o10 :: o11 :: o12 :: o13 :: o14 :: o15 :: some d :: Γ) 16 k = k d := (look_s (n := 15)).trans look_15
theorem look_17 {o0 o1 o2 o3 o4 o5 o6 o7 o8 o9 o10 o11 o12 o13 o14 o15 o16 : Option D} {d : D} {Γ : DE} {k : D → Prop} : look (o0 :: o1 :: o2 :: o3 :: o4 :: o5 :: o6 :: o7 :: o8 :: o9 :: o10 :: o11 :: o12 :: o13 :: o14 :: o15 :: o16 :: some d :: Γ) 17 k = k d := (look_s (n := 16)).trans look_16
theorem look_18 {o0 o1 o2 o3 o4 o5 o6 o7 o8 o9 o10 o11 o12 o13 o14 o15 o16 o17 : Option D} {d : D} {Γ : DE} {k : D → Prop} : look (o0 :: o1 :: o2 :: o3 :: o4 :: o5 :: o6 :: o7 :: o8 :: o9 :: o10 :: o11 :: o12 :: o13 :: o14 :: o15 :: o16 :: o17 :: some d :: Γ) 18 k = k d := (look_s (n := 17)).trans look_17
theorem look_19 {o0 o1 o2 o3 o4 o5 o6 o7 o8 o9 o10 o11 o12 o13 o14 o15 o16 o17 o18 : Option D} {d : D} {Γ : DE} {k : D → Prop} : look (o0 :: o1 :: o2 :: o3 :: o4 :: o5 :: o6 :: o7 :: o8 :: o9 :: o10 :: o11 :: o12 :: o13 :: o14 :: o15 :: o16 :: o17 :: o18 :: some d :: Γ) 19 k = k d := (look_s (n := 18)).trans look_18
theorem look_20 {o0 o1 o2 o3 o4 o5 o6 o7 o8 o9 o10 o11 o12 o13 o14 o15 o16 o17 o18 o19 : Option D} {d : D} {Γ : DE} {k : D → Prop} : look (o0 :: o1 :: o2 :: o3 :: o4 :: o5 :: o6 :: o7 :: o8 :: o9 :: o10 :: o11 :: o12 :: o13 :: o14 :: o15 :: o16 :: o17 :: o18 :: o19 :: some d :: Γ) 20 k = k d := (look_s (n := 19)).trans look_19
theorem look_21 {o0 o1 o2 o3 o4 o5 o6 o7 o8 o9 o10 o11 o12 o13 o14 o15 o16 o17 o18 o19 o20 : Option D} {d : D} {Γ : DE} {k : D → Prop} : look (o0 :: o1 :: o2 :: o3 :: o4 :: o5 :: o6 :: o7 :: o8 :: o9 :: o10 :: o11 :: o12 :: o13 :: o14 :: o15 :: o16 :: o17 :: o18 :: o19 :: o20 :: some d :: Γ) 21 k = k d := (look_s (n := 20)).trans look_20
theorem look_22 {o0 o1 o2 o3 o4 o5 o6 o7 o8 o9 o10 o11 o12 o13 o14 o15 o16 o17 o18 o19 o20 o21 : Option D} {d : D} {Γ : DE} {k : D → Prop} : look (o0 :: o1 :: o2 :: o3 :: o4 :: o5 :: o6 :: o7 :: o8 :: o9 :: o10 :: o11 :: o12 :: o13 :: o14 :: o15 :: o16 :: o17 :: o18 :: o19 :: o20 :: o21 :: some d :: Γ) 22 k = k d := (look_s (n := 21)).trans look_21
theorem look_23 {o0 o1 o2 o3 o4 o5 o6 o7 o8 o9 o10 o11 o12 o13 o14 o15 o16 o17 o18 o19 o20 o21 o22 : Option D} {d : D} {Γ : DE} {k : D → Prop} : look (o0 :: o1 :: o2 :: o3 :: o4 :: o5 :: o6 :: o7 :: o8 :: o9 :: o10 :: o11 :: o12 :: o13 :: o14 :: o15 :: o16 :: o17 :: o18 :: o19 :: o20 :: o21 :: o22 :: some d :: Γ) 23 k = k d := (look_s (n := 22)).trans look_22
theorem look_24 {o0 o1 o2 o3 o4 o5 o6 o7 o8 o9 o10 o11 o12 o13 o14 o15 o16 o17 o18 o19 o20 o21 o22 o23 : Option D} {d : D} {Γ : DE} {k : D → Prop} : look (o0 :: o1 :: o2 :: o3 :: o4 :: o5 :: o6 :: o7 :: o8 :: o9 :: o10 :: o11 :: o12 :: o13 :: o14 :: o15 :: o16 :: o17 :: o18 :: o19 :: o20 :: o21 :: o22 :: o23 :: some d :: Γ) 24 k = k d := (look_s (n := 23)).trans look_23
theorem look_25 {o0 o1 o2 o3 o4 o5 o6 o7 o8 o9 o10 o11 o12 o13 o14 o15 o16 o17 o18 o19 o20 o21 o22 o23 o24 : Option D} {d : D} {Γ : DE} {k : D → Prop} : look (o0 :: o1 :: o2 :: o3 :: o4 :: o5 :: o6 :: o7 :: o8 :: o9 :: o10 :: o11 :: o12 :: o13 :: o14 :: o15 :: o16 :: o17 :: o18 :: o19 :: o20 :: o21 :: o22 :: o23 :: o24 :: some d :: Γ) 25 k = k d := (look_s (n := 24)).trans look_24
section
variable {M : Mem} {Q : QD} {i j : Int} {a b : Bool} {s z : Str} {xs ys : List D} {x y : D} {k : D → Prop} {d0 d1 d2 d3 d4 d5 d6 d7 : D}
theorem q_addD_int : addD (.int i) (.int j) M Q = Q (.int (i + j)) M := propext Iff.rfl
theorem q_addD_lst : addD (.lst xs) (.lst ys) M Q = (xs.length + ys.length ≤ sizeLine ∧ Q (.lst (xs ++ ys)) M) := propext Iff.rfl
theorem q_addD_tup : addD (.tup xs) (.tup ys) M Q = (xs.length + ys.length ≤ sizeLine ∧ Q (.tup (xs ++ ys)) M) := propext Iff.rfl
theorem q_addD_str : addD (.str s) (.str z) M Q = (s.length + z.length ≤ sizeLine ∧ Q (.str (s ++ z)) M) := propext Iff.rfl
theorem q_iaddD_int : iaddD (.int i) (.int j) M Q = Q (.int (i + j)) M := propext Iff.rfl
theorem q_subD_int : subD (.int i) (.int j) M Q = Q (.int (i - j)) M := propext Iff.rfl
theorem q_mulD_int : mulD (.int i) (.int j) M Q = (((-(2 ^ 64) < i ∧ i < 2 ^ 64) ∨ (-(2 ^ 64) < j ∧ j < 2 ^ 64)) ∧ Q (.int (i * j)) M) := propext Iff.rfl
theorem q_mulD_lst : mulD (.lst xs) (.int j) M Q = (-(2 ^ 63) ≤ j ∧ j < 2 ^ 63 ∧ xs.length * j.toNat ≤ sizeLine ∧ Q (.lst (List.replicate j.toNat xs).flatten) M) := propext Iff.rfl
theorem q_fdivD_int : fdivD (.int i) (.int j) M Q = ((0 < j ∧ j < 1073741824) ∧ Q (.int (i / j)) M) := propext Iff.rfl
theorem q_modD_int : modD (.int i) (.int j) M Q = (0 < j ∧ Q (.int (i % j)) M) := propext Iff.rfl
theorem q_powD_int : powD (.int i) (.int j) M Q = ((0 ≤ j ∧ j ≤ 1000000 ∧ i.natAbs < 2 ^ 64) ∧ Q (.int (i ^ j.toNat)) M) := propext Iff.rfl
theorem q_negD_int : negD (.int i) M Q = Q (.int (-i)) M := propext Iff.rfl
theorem q_ltD_int : ltD (.int i) (.int j) M Q = Q (.bl (decide (i < j))) M := propext Iff.rfl
theorem q_leD_int : leD (.int i) (.int j) M Q = Q (.bl (decide (i ≤ j))) M := propext Iff.rfl
theorem q_gtD_int : gtD (.int i) (.int j) M Q = Q (.bl (decide (j < i))) M := propext Iff.rfl
theorem q_geD_int : geD (.int i) (.int j) M Q = Q (.bl (decide (j ≤ i))) M := propext Iff.rfl
theorem q_eqD_int : eqD (.int i) (.int j) M Q = Q (.bl (decide (i = j))) M := propext Iff.rfl
theorem q_eqD_bl : eqD (.bl a) (.bl b) M Q = Q (.bl (decide (a = b))) M := propext Iff.rfl
theorem q_eqD_str : eqD (.str s) (.str z) M Q = Q (.bl (decide (s = z))) M := propext Iff.rfl
theorem q_eqD_tup : eqD (.tup xs) (.tup ys) M Q = deepEq (.tup xs) (.tup ys) fun b => Q (.bl b) M := propext Iff.rfl
theorem q_eqD_lst : eqD (.lst xs) (.lst ys) M Q = deepEq (.lst xs) (.lst ys) fun b => Q (.bl b) M := propext Iff.rfl
theorem q_neD_int : neD (.int i) (.int j) M Q = Q (.bl (!decide (i = j))) M := propext Iff.rfl
theorem q_neD_bl : neD (.bl a) (.bl b) M Q = Q (.bl (!decide (a = b))) M := propext Iff.rfl
theorem q_neD_str : neD (.str s) (.str z) M Q = Q (.bl (!decide (s = z))) M := propext Iff.rfl
theorem q_neD_tup : neD (.tup xs) (.tup ys) M Q = deepEq (.tup xs) (.tup ys) fun b => Q (.bl (!b)) M := propext Iff.rfl
theorem q_neD_lst : neD (.lst xs) (.lst ys) M Q = deepEq (.lst xs) (.lst ys) fun b => Q (.bl (!b)) M := propext Iff.rfl
theorem q_isD_non : isD x .non M Q = Q (.bl (isNonD x)) M := propext Iff.rfl
theorem q_isD_bl : isD (.bl a) (.bl b) M Q = Q (.bl (decide (a = b))) M := propext Iff.rfl
theorem q_notD_non : notD x .non M Q = Q (.bl (!isNonD x)) M := propext Iff.rfl
theorem q_notD_bl : notD (.bl a) (.bl b) M Q = Q (.bl (!decide (a = b))) M := propext Iff.rfl
theorem q_intD_int : intD [.int i] M Q = Q (.int i) M := propext Iff.rfl
theorem q_intD_bl : intD [.bl a] M Q = Q (.int (if a then 1 else 0)) M := propext Iff.rfl
theorem q_absD_int : absD [.int i] M Q = Q (.int (if i < 0 then -i else i)) M := propext Iff.rfl
theorem q_lenD_lst : lenD [.lst xs] M Q = Q (.int (xs.length : Nat)) M := propext Iff.rfl
theorem q_lenD_tup : lenD [.tup xs] M Q = Q (.int (xs.length : Nat)) M := propext Iff.rfl
theorem q_lenD_scr : lenD [.scr xs] M Q = Q (.int (xs.length : Nat)) M := propext Iff.rfl
theorem q_tupleD_lst : tupleD [.lst xs] M Q = Q (.tup xs) M := propext Iff.rfl
theorem q_tupleD_tup : tupleD [.tup xs] M Q = Q (.tup xs) M := propext Iff.rfl
theorem q_listD_lst : listD [.lst xs] M Q = Q (.lst xs) M := propext Iff.rfl
theorem q_listD_tup : listD [.tup xs] M Q = Q (.lst xs) M := propext Iff.rfl
theorem q_listMD_lst : listMD [.lst xs] M Q = ∀ p, M p = none → Q (.ref p) (mput M p (.lst xs)) := propext Iff.rfl
theorem q_listMD_tup : listMD [.tup xs] M Q = ∀ p, M p = none → Q (.ref p) (mput M p (.lst xs)) := propext Iff.rfl
theorem q_ixD_tup : ixD (.tup xs) (.int i) M Q = nth xs i fun d => Q d M := propext Iff.rfl
theorem q_ixD_lst : ixD (.lst xs) (.int i) M Q = nth xs i fun d => Q d M := propext Iff.rfl
theorem q_ixD_scr : ixD (.scr xs) (.int i) M Q = nth xs i fun d => Q d M := propext Iff.rfl
theorem q_inD_lst : inD x (.lst ys) M Q = (flatD x = true ∧ ys.all flatD = true ∧ Q (.bl (ys.any fun z => eqF z x)) M) := propext Iff.rfl
theorem q_inD_tup : inD x (.tup ys) M Q = (flatD x = true ∧ ys.all flatD = true ∧ Q (.bl (ys.any fun z => eqF z x)) M) := propext Iff.rfl
theorem q_notInD_lst : notInD x (.lst ys) M Q = (flatD x = true ∧ ys.all flatD = true ∧ Q (.bl (!ys.any fun z => eqF z x)) M) := propext Iff.rfl
theorem q_notInD_tup : notInD x (.tup ys) M Q = (flatD x = true ∧ ys.all flatD = true ∧ Q (.bl (!ys.any fun z => eqF z x)) M) := propext Iff.rfl
theorem q_slD_lst {lo hi : Option Int} : slD (.lst xs) lo hi M Q = Q (.lst (cutD xs lo hi)) M := propext Iff.rfl
theorem q_slD_scr {lo hi : Option Int} : slD (.scr xs) lo hi M Q = Q (.lst (cutD xs lo hi)) M := propext Iff.rfl
theorem q_slD_tup {lo hi : Option Int} : slD (.tup xs) lo hi M Q = Q (.tup (cutD xs lo hi)) M := propext Iff.rfl
theorem q_revD_lst : revD (.lst xs) M Q = Q (.lst xs.reverse) M := propext Iff.rfl
theorem q_revMD_lst : revMD (.lst xs) M Q = ∀ p, M p = none → Q (.ref p) (mput M p (.lst xs.reverse)) := propext Iff.rfl
theorem q_nthN_0 : nthN (d0 :: xs) 0 k = k d0 := propext Iff.rfl
theorem q_nthN_1 : nthN (d0 :: d1 :: xs) 1 k = k d1 := propext Iff.rfl
theorem q_nthN_2 : nthN (d0 :: d1 :: d2 :: xs) 2 k = k d2 := propext Iff.rfl
theorem q_nthN_3 : nthN (d0 :: d1 :: d2 :: d3 :: xs) 3 k = k d3 := propext Iff.rfl
theorem q_nthN_4 : nthN (d0 :: d1 :: d2 :: d3 :: d4 :: xs) 4 k = k d4 := propext Iff.rfl
theorem q_nthN_5 : nthN (d0 :: d1 :: d2 :: d3 :: d4 :: d5 :: xs) 5 k = k d5 := propext Iff.rfl
theorem q_nthN_6 : nthN (d0 :: d1 :: d2 :: d3 :: d4 :: d5 :: d6 :: xs) 6 k = k d6 := propext Iff.rfl
theorem q_srcD_lst {P : List D → (Mem → Prop) → Mem → Prop} : srcD (.lst xs) M P = P xs noGrd M := propext Iff.rfl
theorem q_srcD_scr {P : List D → (Mem → Prop) → Mem → Prop} : srcD (.scr xs) M P = P xs noGrd M := propext Iff.rfl
theorem q_srcD_tup {P : List D → (Mem → Prop) → Mem → Prop} : srcD (.tup xs) M P = P xs noGrd M := propext Iff.rfl
theorem sq_ {t u : TDS} {en : DE → Mem → Prop} {er : D → Mem → Prop} {eb ec : DE → Mem → Prop} {Γ : DE} {M : Mem} (h : ∀ nx : DE → Mem → Prop, (∀ Γ' M', u ⟨en, er, eb, ec⟩ Γ' M' → nx Γ' M') → t ⟨nx, er, eb, ec⟩ Γ M) : dSeq t u ⟨en, er, eb, ec⟩ Γ M := h _ fun _ _ q => q
theorem e_forL0 {grd : Mem → Prop} {g : TDG} {body : TDS} {en : DE → Mem → Prop} {er : D → Mem → Prop} {eb ec : DE → Mem → Prop} {Γ : DE} {M : Mem} : forL grd g body ⟨en, er, eb, ec⟩ [] Γ M = (grd M ∧ en Γ M) := propext Iff.rfl
theorem e_forL1 {grd : Mem → Prop} {g : TDG} {body : TDS} {en : DE → Mem → Prop} {er : D → Mem → Prop} {eb ec : DE → Mem → Prop} {x : D} {xs : List D} {Γ : DE} {M : Mem} : forL grd g body ⟨en, er, eb, ec⟩ (x :: xs) Γ M = (grd M ∧ g x Γ M fun Γ1 M1 => body ⟨forL grd g body ⟨en, er, eb, ec⟩ xs, er, en, forL grd g body ⟨en, er, eb, ec⟩ xs⟩ Γ1 M1) := propext Iff.rfl
theorem forL_inv {grd : Mem → Prop} {g : TDG} {body : TDS} {en : DE → Mem → Prop} {er : D → Mem → Prop} {eb ec : DE → Mem → Prop} (I : List D → DE → Mem → Prop) (hg : ∀ xs Γ M, I xs Γ M → grd M) (h0 : ∀ Γ M, I [] Γ M → en Γ M)
    (hs : ∀ x xs Γ M, I (x :: xs) Γ M → ∀ nx : DE → Mem → Prop, (∀ Γ' M', I xs Γ' M' → nx Γ' M') → g x Γ M fun Γ1 M1 => body ⟨nx, er, en, nx⟩ Γ1 M1) : ∀ xs Γ M, I xs Γ M → forL grd g body ⟨en, er, eb, ec⟩ xs Γ M
  | [], Γ, M, h => ⟨hg _ _ _ h, h0 _ _ h⟩
  | x :: xs, Γ, M, h => ⟨hg _ _ _ h, hs x xs Γ M h _ fun Γ' M' q => forL_inv I hg h0 hs xs Γ' M' q⟩
theorem ite_t_ {h : Decidable (true = true)} {A B : Prop} : @ite Prop (true = true) h A B = A := if_pos rfl
theorem ite_f_ {h : Decidable (false = true)} {A B : Prop} : @ite Prop (false = true) h A B = B := if_neg Bool.false_ne_true
theorem ite_nt_ {h : Decidable ((!true) = true)} {A B : Prop} : @ite Prop ((!true) = true) h A B = B := if_neg Bool.false_ne_true
theorem ite_nf_ {h : Decidable ((!false) = true)} {A B : Prop} : @ite Prop ((!false) = true) h A B = A := if_pos rfl
end
end DL

set_option Elab.async false
set_option linter.all false
set_option maxRecDepth 100000
set_option maxHeartbeats 4000000
/-! For the end of a claim. -/
namespace DL
open PySem PySem.Spec PyProof.Rows L2
section
variable {P : Program} {w : World} {K : PySem.W.Frag} {mg : Str → Option Value} {base : Heap} {k : Nat} {f : Addr} {fd : FuncData} {ps : List Str} {x qual : Str} {pa : Arguments} {body : List Stmt} {scope : Scope} {dvs : List V}
theorem fn_never : FnOk P w K mg base CX0 k f fd ps (spD K fun _ _ _ => False) :=
  ⟨fun vs H Q E h => by obtain ⟨_, _, _, _, _, _, h, _⟩ := h; exact h.elim, fun A outer s H args us vs Q E _ _ _ _ h => by obtain ⟨_, _, _, _, _, _, h, _⟩ := h; exact h.elim⟩
theorem fn_never_of {kws : List (Str × V)} (F : FunD K x qual pa body scope dvs kws f fd) : FnOk P w K mg base CX0 0 f fd ps (spD K fun _ _ _ => False) := fn_never
/-- defaults stand, but all is written -/
theorem bind_full (F : FunD K x qual pa body scope dvs [] f fd) (hd : dvs ≠ [])
    (h : ∀ (T : Addr) (kV doc pm : Value) (an : Option Addr) (cdv ct : Value) (us its : List Value), us.length = ps.length → its.length = dvs.length →
      ∃ k, bindArgs (PySem.W.fnOf x qual pa body scope (.ref T) kV doc pm an cdv ct) ⟨us, []⟩ = seqItems? (.ref T) >>= k ∧ k (some its.toArray) = pure (ps.zip us)) : Binds K fd ps [] := by
  obtain ⟨ds, r, b⟩ := FunD.binds1 (ps := ps) F ps.length dvs.length hd (by omega) fun T kV doc pm an cdv ct us its h1 h2 => by
    obtain ⟨k, e1, e2⟩ := h T kV doc pm an cdv ct us its h1 h2
    refine ⟨k, e1, ?_⟩
    rw [← h2, List.drop_length, List.append_nil]
    exact e2
  rw [List.drop_length] at r
  cases r
  exact b
theorem law_start {S : DSp} {H : Hp} {a : Addr} {ns : List Int} {E : XK} (hS : SqL K H a (ns.map V.int)) (h : ∀ M : Mem, S [.scr (ns.map D.int)] M fun x _ => x = .bl true) : spD K S [.ref a] H (fun v _ => v = .bl true) E :=
  ⟨H, fun _ => none, _, _, ⟨Ex.refl H, fun a o e => by cases e⟩, .cons (.scr hS (RepL.ofInts ns)) .nil, h _, fun v F' H' M' x _ _ r e => by cases e; cases r; rfl⟩
end
end DL

set_option Elab.async false
set_option linter.all false
set_option maxRecDepth 100000
set_option maxHeartbeats 4000000
/-! The defs of the text, their bodies over data, the derivations: printed by gen.py. -/
namespace K32
open PySem PySem.Spec PyProof.Rows L2 DL
def topS (i : Nat) : Stmt := PySem.Challenge.pw_agreedapart_k32_whole_sums_and_least_apa.main.body.getD i (.Pass ⟨0, 0, 0, 0⟩)
def ns_Numbers : List Str := ["k", "f", "d", "a", "w1", "w2", "c"]
abbrev g_WAYS : D := .tup [.str "call", .str "any", .str "seen", .str "gone"]
abbrev g_ANY : D := .str "any"
abbrev g_PAPERS : D := .str "papers"
abbrev g_UNSEEN : D := .str "unseen"
abbrev g_MOST_COPIES : D := .int 12
abbrev g_MOST_LAG : D := .int 200
abbrev s_is_integer : Stmt := topS 5
abbrev N_is_integer : List Str := ["value"]
theorem sc_is_integer : FnScope N_is_integer ["value"] (defScope s_is_integer) := ⟨rfl, rfl, rfl, by decide +kernel, rfl, by decide +kernel, by decide +kernel⟩
abbrev s_is_number : Stmt := topS 6
abbrev N_is_number : List Str := ["value", "most"]
theorem sc_is_number : FnScope N_is_number ["value", "most"] (defScope s_is_number) := ⟨rfl, rfl, rfl, by decide +kernel, rfl, by decide +kernel, by decide +kernel⟩
abbrev s_need_way : Stmt := topS 13
abbrev N_need_way : List Str := ["manner"]
theorem sc_need_way : FnScope N_need_way ["manner"] (defScope s_need_way) := ⟨rfl, rfl, rfl, by decide +kernel, rfl, by decide +kernel, by decide +kernel⟩
abbrev s_unlike_of : Stmt := topS 15
abbrev N_unlike_of : List Str := ["manner", "spread"]
theorem sc_unlike_of : FnScope N_unlike_of ["manner", "spread"] (defScope s_unlike_of) := ⟨rfl, rfl, rfl, by decide +kernel, rfl, by decide +kernel, by decide +kernel⟩
abbrev s_shown_slack : Stmt := topS 19
abbrev N_shown_slack : List Str := ["numbers", "manner", "spread"]
theorem sc_shown_slack : FnScope N_shown_slack ["numbers", "manner", "spread"] (defScope s_shown_slack) := ⟨rfl, rfl, rfl, by decide +kernel, rfl, by decide +kernel, by decide +kernel⟩
abbrev s_taken_slack : Stmt := topS 20
abbrev N_taken_slack : List Str := ["numbers"]
theorem sc_taken_slack : FnScope N_taken_slack ["numbers"] (defScope s_taken_slack) := ⟨rfl, rfl, rfl, by decide +kernel, rfl, by decide +kernel, by decide +kernel⟩
abbrev s_kinds_of : Stmt := topS 21
abbrev N_kinds_of : List Str := ["numbers", "manner", "spread", "found"]
theorem sc_kinds_of : FnScope N_kinds_of ["numbers", "manner", "spread"] (defScope s_kinds_of) := ⟨rfl, rfl, rfl, by decide +kernel, rfl, by decide +kernel, by decide +kernel⟩
abbrev s_needed_apart : Stmt := topS 22
abbrev N_needed_apart : List Str := ["numbers"]
theorem sc_needed_apart : FnScope N_needed_apart ["numbers"] (defScope s_needed_apart) := ⟨rfl, rfl, rfl, by decide +kernel, rfl, by decide +kernel, by decide +kernel⟩
abbrev s_least_apart : Stmt := topS 23
abbrev N_least_apart : List Str := ["numbers", "manner", "spread", "kinds"]
theorem sc_least_apart : FnScope N_least_apart ["numbers", "manner", "spread"] (defScope s_least_apart) := ⟨rfl, rfl, rfl, by decide +kernel, rfl, by decide +kernel, by decide +kernel⟩
abbrev s_Numbers_init : Stmt := inClass (topS 27) 0
abbrev N_Numbers_init : List Str := ["self", "k", "f", "d", "a", "w1", "w2", "c", "place", "many"]
theorem sc_Numbers_init : FnScope N_Numbers_init ["self", "k", "f", "d", "a", "w1", "w2", "c"] (defScope s_Numbers_init) := ⟨rfl, rfl, rfl, by decide +kernel, rfl, by decide +kernel, by decide +kernel⟩
abbrev s_law_heap : Stmt := topS 29
abbrev N_law_heap : List Str := ["script", "cell", "cells", "stir"]
theorem sc_law_heap : FnScope N_law_heap ["script"] (defScope s_law_heap) := ⟨rfl, rfl, rfl, by decide +kernel, rfl, by decide +kernel, by decide +kernel⟩
abbrev s_law_draw : Stmt := topS 30
abbrev N_law_draw : List Str := ["heap", "many", "rest"]
theorem sc_law_draw : FnScope N_law_draw ["heap", "many"] (defScope s_law_draw) := ⟨rfl, rfl, rfl, by decide +kernel, rfl, by decide +kernel, by decide +kernel⟩
abbrev s_law_pick : Stmt := topS 31
abbrev N_law_pick : List Str := ["heap", "some"]
theorem sc_law_pick : FnScope N_law_pick ["heap", "some"] (defScope s_law_pick) := ⟨rfl, rfl, rfl, by decide +kernel, rfl, by decide +kernel, by decide +kernel⟩
abbrev s_law_like : Stmt := topS 32
abbrev N_law_like : List Str := ["told", "due", "at"]
theorem sc_law_like : FnScope N_law_like ["told", "due"] (defScope s_law_like) := ⟨rfl, rfl, rfl, by decide +kernel, rfl, by decide +kernel, by decide +kernel⟩
abbrev s_law_numbers : Stmt := topS 33
abbrev N_law_numbers : List Str := ["heap", "k", "manner", "f", "a", "d", "most", "both", "w2", "w1", "c"]
theorem sc_law_numbers : FnScope N_law_numbers ["heap", "k", "manner"] (defScope s_law_numbers) := ⟨rfl, rfl, rfl, by decide +kernel, rfl, by decide +kernel, by decide +kernel⟩
abbrev s_law_made : Stmt := topS 34
abbrev N_law_made : List Str := ["parts"]
theorem sc_law_made : FnScope N_law_made ["parts"] (defScope s_law_made) := ⟨rfl, rfl, rfl, by decide +kernel, rfl, by decide +kernel, by decide +kernel⟩
abbrev s_law_lots : Stmt := topS 35
abbrev N_law_lots : List Str := ["lot", "many", "found", "house", "one"]
theorem sc_law_lots : FnScope N_law_lots ["lot", "many"] (defScope s_law_lots) := ⟨rfl, rfl, rfl, by decide +kernel, rfl, by decide +kernel, by decide +kernel⟩
abbrev s_law_fewest : Stmt := topS 36
abbrev N_law_fewest : List Str := ["rows", "others", "liars", "honest", "lot", "house", "one"]
theorem sc_law_fewest : FnScope N_law_fewest ["rows", "others", "liars"] (defScope s_law_fewest) := ⟨rfl, rfl, rfl, by decide +kernel, rfl, by decide +kernel, by decide +kernel⟩
abbrev s_law_sums_right : Stmt := topS 37
abbrev N_law_sums_right : List Str := ["parts", "manner", "most", "k", "f", "d", "a", "w1", "w2", "c", "numbers", "wide", "told", "kinds", "due"]
theorem sc_law_sums_right : FnScope N_law_sums_right ["parts", "manner", "most"] (defScope s_law_sums_right) := ⟨rfl, rfl, rfl, by decide +kernel, rfl, by decide +kernel, by decide +kernel⟩
abbrev s_law_small : Stmt := topS 38
abbrev N_law_small : List Str := ["heap", "k", "f", "apart", "w1", "w2", "c", "lot", "other", "numbers", "fewest", "unseen", "liars", "rows", "kinds"]
theorem sc_law_small : FnScope N_law_small ["heap"] (defScope s_law_small) := ⟨rfl, rfl, rfl, by decide +kernel, rfl, by decide +kernel, by decide +kernel⟩
abbrev s_law : Stmt := topS 39
abbrev N_law : List Str := ["script", "heap", "turn", "k", "manner", "parts", "most"]
theorem sc_law : FnScope N_law ["script"] (defScope s_law) := ⟨rfl, rfl, rfl, by decide +kernel, rfl, by decide +kernel, by decide +kernel⟩
/-- what the module's names hold -/
structure Txt (K : PySem.W.Frag) (mg : Str → Option Value) (C_Numbers : Addr) : Prop where
  n_isinstance : mg "isinstance" = none
  n_bool : mg "bool" = none
  n_int : mg "int" = none
  n_str : mg "str" = none
  n_tuple : mg "tuple" = none
  n_max : mg "max" = none
  n_enumerate : mg "enumerate" = none
  n_abs : mg "abs" = none
  n_len : mg "len" = none
  n_all : mg "all" = none
  n_range : mg "range" = none
  n_min : mg "min" = none
  g_WAYS : GC K mg "WAYS" g_WAYS
  g_ANY : GC K mg "ANY" g_ANY
  g_PAPERS : GC K mg "PAPERS" g_PAPERS
  g_UNSEEN : GC K mg "UNSEEN" g_UNSEEN
  g_MOST_COPIES : GC K mg "MOST_COPIES" g_MOST_COPIES
  g_MOST_LAG : GC K mg "MOST_LAG" g_MOST_LAG
  c_Numbers : Cls K C_Numbers
  na_Numbers_c : NoAttr K C_Numbers "c"
  na_Numbers_w2 : NoAttr K C_Numbers "w2"
  na_Numbers_k : NoAttr K C_Numbers "k"
  na_Numbers_f : NoAttr K C_Numbers "f"
  na_Numbers_w1 : NoAttr K C_Numbers "w1"
  na_Numbers_d : NoAttr K C_Numbers "d"
  na_Numbers_a : NoAttr K C_Numbers "a"
section
variable {P : Program} {w : World} {K : PySem.W.Frag} {mg : Str → Option Value} {base : Heap} {C_Numbers : Addr}
/-- is_integer -/
def b_is_integer : TDS :=
  (dRet (dAndV (dCB isiD (dCons (dVar 0) (dCons (dC (.ty "int")) dNil))) (dNotV (dCB isiD (dCons (dVar 0) (dCons (dC (.ty "bool")) dNil))))))
theorem w_is_integer (T : Txt K mg C_Numbers)  {f : Addr} (cdv : Value) (A : Around) (outer : List Env) (s : Shared) (H : Hp) (E : XK) (hr : Room 0 (A.deeper (envOfC "is_integer" (defScope s_is_integer) s.heap.objs.size f cdv))) :
    ∃ t, PDSs (cxOf CX0 P w K mg base N_is_integer "is_integer" (defScope s_is_integer) f cdv A outer s H E).nox (defBody s_is_integer) t (b_is_integer) := by
  have hu := hu64 hr
  exact ⟨_, (pdss_one (pds_ret (pd_and (pd_callB (kc_isi (K := K) rfl) sc_isi (by rfl) T.n_isinstance (by decide +kernel) (pda_cons (pd_var (pv 0)) (pda_cons (pd_ty (by rfl) T.n_int (by decide +kernel)) pda_nil))) (pd_one (pd_not (pd_callB (kc_isi (K := K) rfl) sc_isi (by rfl) T.n_isinstance (by decide +kernel) (pda_cons (pd_var (pv 0)) (pda_cons (pd_ty (by rfl) T.n_bool (by decide +kernel)) pda_nil))))))))⟩
theorem ok_is_integer {S : DSp} (T : Txt K mg C_Numbers)  {f : Addr} {fd : FuncData} {dvs0 : List V} (F : FunD K "is_integer" "is_integer" (defArgs s_is_integer) (defBody s_is_integer) (defScope s_is_integer) dvs0 [] f fd)
    (len : ∀ ds M Q, S ds M Q → ds.length = 1) (sem : ∀ ds M Q, S ds M Q → (b_is_integer) { nx := fun _ M => Q .non M, rt := Q } (startD N_is_integer ds) M) : FnOk P w K mg base CX0 1 f fd ["value"] (spD K S) :=
  fn_d F sc_is_integer len (fun cdv A outer s H E hr => w_is_integer T cdv A outer s H E hr) sem
/-- is_number -/
def b_is_number (S_is_integer : DSp) : TDS :=
  (dRet (dAndV (dCall S_is_integer [] (dCons (dVar 0) dNil)) (dAndV (dOp geD (dVar 0) (dC (.int 0))) (dOrV (dOp isD (dVar 1) (dC .non)) (dOp leD (dVar 0) (dVar 1))))))
theorem w_is_number {S_is_integer : DSp} (T : Txt K mg C_Numbers) (c0 : Callee P w K mg base 1 "is_integer" ["value"] S_is_integer []) {f : Addr} (cdv : Value) (A : Around) (outer : List Env) (s : Shared) (H : Hp) (E : XK) (hr : Room 1 (A.deeper (envOfC "is_number" (defScope s_is_number) s.heap.objs.size f cdv))) :
    ∃ t, PDSs (cxOf CX0 P w K mg base N_is_number "is_number" (defScope s_is_number) f cdv A outer s H E).nox (defBody s_is_number) t (b_is_number S_is_integer) := by
  have hu := hu64 hr
  obtain ⟨f0, fd0, ds0, dvs0, F0, m0, kp0, b0, v0, r0⟩ := c0.ex
  exact ⟨_, (pdss_one (pds_ret (pd_and (kd_call rfl F0 (hr.mono (by first | decide | exact Nat.le_refl _ | omega)) (by rfl) m0 kp0 b0 v0 r0 (pda_cons (pd_var (pv 0)) pda_nil)) (pd_and (pd_cmp oop_ge s2_ge (pd_var (pv 0)) pd_int (nomark _)) (pd_one (pd_or (pd_cmp oop_is s2_is (pd_var (pv 1)) pd_non (nomark _)) (pd_one (pd_cmp oop_le s2_le (pd_var (pv 0)) (pd_var (pv 1)) (nomark _)))))))))⟩
theorem ok_is_number {S_is_integer : DSp} {S : DSp} (T : Txt K mg C_Numbers) (c0 : Callee P w K mg base 1 "is_integer" ["value"] S_is_integer []) {f : Addr} {fd : FuncData} {dvs0 : List V} (F : FunD K "is_number" "is_number" (defArgs s_is_number) (defBody s_is_number) (defScope s_is_number) dvs0 [] f fd)
    (len : ∀ ds M Q, S ds M Q → ds.length = 2) (sem : ∀ ds M Q, S ds M Q → (b_is_number S_is_integer) { nx := fun _ M => Q .non M, rt := Q } (startD N_is_number ds) M) : FnOk P w K mg base CX0 2 f fd ["value", "most"] (spD K S) :=
  fn_d F sc_is_number len (fun cdv A outer s H E hr => w_is_number T c0 cdv A outer s H E hr) sem
/-- need_way -/
def b_need_way : TDS :=
  (dIfS (dOr (dNot (dTest (dCB isiD (dCons (dVar 0) (dCons (dC (.ty "str")) dNil))))) (dTest (dOp notInD (dVar 0) (dC g_WAYS))))
    dNever
    dNext)
theorem w_need_way (T : Txt K mg C_Numbers)  {f : Addr} (cdv : Value) (A : Around) (outer : List Env) (s : Shared) (H : Hp) (E : XK) (hr : Room 0 (A.deeper (envOfC "need_way" (defScope s_need_way) s.heap.objs.size f cdv))) :
    ∃ t, PDSs (cxOf CX0 P w K mg base N_need_way "need_way" (defScope s_need_way) f cdv A outer s H E).nox (defBody s_need_way) t (b_need_way) := by
  have hu := hu64 hr
  obtain ⟨u_WAYS, v_WAYS, e_WAYS, r_WAYS, q_WAYS⟩ := T.g_WAYS
  exact ⟨_, (pdss_one (pds_if (PDW.pt (pdw_or (pdt_not (pdt_val (pd_callB (kc_isi (K := K) rfl) sc_isi (by rfl) T.n_isinstance (by decide +kernel) (pda_cons (pd_var (pv 0)) (pda_cons (pd_ty (by rfl) T.n_str (by decide +kernel)) pda_nil))))) (pdw_or1 (pdt_cmp (ko_notIn (K := K) rfl) s2_notIn (pd_var (pv 0)) (pd_glob rfl e_WAYS r_WAYS q_WAYS) (by rfl)))))
    (pdss_one pds_never)
    pdss_nil))⟩
theorem ok_need_way {S : DSp} (T : Txt K mg C_Numbers)  {f : Addr} {fd : FuncData} {dvs0 : List V} (F : FunD K "need_way" "need_way" (defArgs s_need_way) (defBody s_need_way) (defScope s_need_way) dvs0 [] f fd)
    (len : ∀ ds M Q, S ds M Q → ds.length = 1) (sem : ∀ ds M Q, S ds M Q → (b_need_way) { nx := fun _ M => Q .non M, rt := Q } (startD N_need_way ds) M) : FnOk P w K mg base CX0 1 f fd ["manner"] (spD K S) :=
  fn_d F sc_need_way len (fun cdv A outer s H E hr => w_need_way T cdv A outer s H E hr) sem
/-- unlike_of -/
def b_unlike_of (S_need_way : DSp) : TDS :=
  (dSeq (dDrop (dCall S_need_way [] (dCons (dVar 0) dNil)))
    (dRet (dIf (dTest (dOp eqD (dVar 0) (dC g_ANY))) (dVar 1) (dC (.int 0)))))
theorem w_unlike_of {S_need_way : DSp} (T : Txt K mg C_Numbers) (c0 : Callee P w K mg base 1 "need_way" ["manner"] S_need_way []) {f : Addr} (cdv : Value) (A : Around) (outer : List Env) (s : Shared) (H : Hp) (E : XK) (hr : Room 1 (A.deeper (envOfC "unlike_of" (defScope s_unlike_of) s.heap.objs.size f cdv))) :
    ∃ t, PDSs (cxOf CX0 P w K mg base N_unlike_of "unlike_of" (defScope s_unlike_of) f cdv A outer s H E).nox (defBody s_unlike_of) t (b_unlike_of S_need_way) := by
  have hu := hu64 hr
  obtain ⟨u_ANY, v_ANY, e_ANY, r_ANY, q_ANY⟩ := T.g_ANY
  obtain ⟨f0, fd0, ds0, dvs0, F0, m0, kp0, b0, v0, r0⟩ := c0.ex
  exact ⟨_, (pdss_cons (pds_expr (kd_call rfl F0 (hr.mono (by first | decide | exact Nat.le_refl _ | omega)) (by rfl) m0 kp0 b0 v0 r0 (pda_cons (pd_var (pv 0)) pda_nil)))
    (pdss_one (pds_ret (pd_ifExp (pdt_cmp (ko_eq (K := K) rfl hu) s2_eq (pd_var (pv 0)) (pd_glob rfl e_ANY r_ANY q_ANY) (nomark _)) (pd_var (pv 1)) pd_int))))⟩
theorem ok_unlike_of {S_need_way : DSp} {S : DSp} (T : Txt K mg C_Numbers) (c0 : Callee P w K mg base 1 "need_way" ["manner"] S_need_way []) {f : Addr} {fd : FuncData} {dvs0 : List V} (F : FunD K "unlike_of" "unlike_of" (defArgs s_unlike_of) (defBody s_unlike_of) (defScope s_unlike_of) dvs0 [] f fd)
    (len : ∀ ds M Q, S ds M Q → ds.length = 2) (sem : ∀ ds M Q, S ds M Q → (b_unlike_of S_need_way) { nx := fun _ M => Q .non M, rt := Q } (startD N_unlike_of ds) M) : FnOk P w K mg base CX0 2 f fd ["manner", "spread"] (spD K S) :=
  fn_d F sc_unlike_of len (fun cdv A outer s H E hr => w_unlike_of T c0 cdv A outer s H E hr) sem
/-- shown_slack -/
def b_shown_slack (C_Numbers : Addr) (S_unlike_of : DSp) : TDS :=
  (dRet (dOp subD (dOp subD (dOp subD (dOp addD (dFld C_Numbers ns_Numbers 6 (dVar 0)) (dFld C_Numbers ns_Numbers 5 (dVar 0))) (dFld C_Numbers ns_Numbers 0 (dVar 0))) (dFld C_Numbers ns_Numbers 1 (dVar 0))) (dCall S_unlike_of [] (dCons (dVar 1) (dCons (dVar 2) dNil)))))
theorem w_shown_slack {S_unlike_of : DSp} (T : Txt K mg C_Numbers) (c0 : Callee P w K mg base 2 "unlike_of" ["manner", "spread"] S_unlike_of []) {f : Addr} (cdv : Value) (A : Around) (outer : List Env) (s : Shared) (H : Hp) (E : XK) (hr : Room 2 (A.deeper (envOfC "shown_slack" (defScope s_shown_slack) s.heap.objs.size f cdv))) :
    ∃ t, PDSs (cxOf CX0 P w K mg base N_shown_slack "shown_slack" (defScope s_shown_slack) f cdv A outer s H E).nox (defBody s_shown_slack) t (b_shown_slack C_Numbers S_unlike_of) := by
  have hu := hu64 hr
  obtain ⟨f0, fd0, ds0, dvs0, F0, m0, kp0, b0, v0, r0⟩ := c0.ex
  exact ⟨_, (pdss_one (pds_ret (pd_op op_sub s2_sub (pd_op op_sub s2_sub (pd_op op_sub s2_sub (pd_op (ko_add (K := K) rfl) s2_add (kd_fld rfl T.c_Numbers T.na_Numbers_c (by decide +kernel) (pd_var (pv 0))) (kd_fld rfl T.c_Numbers T.na_Numbers_w2 (by decide +kernel) (pd_var (pv 0)))) (kd_fld rfl T.c_Numbers T.na_Numbers_k (by decide +kernel) (pd_var (pv 0)))) (kd_fld rfl T.c_Numbers T.na_Numbers_f (by decide +kernel) (pd_var (pv 0)))) (kd_call rfl F0 (hr.mono (by first | decide | exact Nat.le_refl _ | omega)) (by rfl) m0 kp0 b0 v0 r0 (pda_cons (pd_var (pv 1)) (pda_cons (pd_var (pv 2)) pda_nil))))))⟩
theorem ok_shown_slack {S_unlike_of : DSp} {S : DSp} (T : Txt K mg C_Numbers) (c0 : Callee P w K mg base 2 "unlike_of" ["manner", "spread"] S_unlike_of []) {f : Addr} {fd : FuncData} {dvs0 : List V} (F : FunD K "shown_slack" "shown_slack" (defArgs s_shown_slack) (defBody s_shown_slack) (defScope s_shown_slack) dvs0 [] f fd)
    (len : ∀ ds M Q, S ds M Q → ds.length = 3) (sem : ∀ ds M Q, S ds M Q → (b_shown_slack C_Numbers S_unlike_of) { nx := fun _ M => Q .non M, rt := Q } (startD N_shown_slack ds) M) : FnOk P w K mg base CX0 3 f fd ["numbers", "manner", "spread"] (spD K S) :=
  fn_d F sc_shown_slack len (fun cdv A outer s H E hr => w_shown_slack T c0 cdv A outer s H E hr) sem
/-- taken_slack -/
def b_taken_slack (C_Numbers : Addr) : TDS :=
  (dRet (dOp subD (dOp subD (dOp mulD (dC (.int 2)) (dFld C_Numbers ns_Numbers 4 (dVar 0))) (dFld C_Numbers ns_Numbers 0 (dVar 0))) (dFld C_Numbers ns_Numbers 1 (dVar 0))))
theorem w_taken_slack (T : Txt K mg C_Numbers)  {f : Addr} (cdv : Value) (A : Around) (outer : List Env) (s : Shared) (H : Hp) (E : XK) (hr : Room 0 (A.deeper (envOfC "taken_slack" (defScope s_taken_slack) s.heap.objs.size f cdv))) :
    ∃ t, PDSs (cxOf CX0 P w K mg base N_taken_slack "taken_slack" (defScope s_taken_slack) f cdv A outer s H E).nox (defBody s_taken_slack) t (b_taken_slack C_Numbers) := by
  have hu := hu64 hr
  exact ⟨_, (pdss_one (pds_ret (pd_op op_sub s2_sub (pd_op op_sub s2_sub (pd_op oop_mul s2_mul pd_int (kd_fld rfl T.c_Numbers T.na_Numbers_w1 (by decide +kernel) (pd_var (pv 0)))) (kd_fld rfl T.c_Numbers T.na_Numbers_k (by decide +kernel) (pd_var (pv 0)))) (kd_fld rfl T.c_Numbers T.na_Numbers_f (by decide +kernel) (pd_var (pv 0))))))⟩
theorem ok_taken_slack {S : DSp} (T : Txt K mg C_Numbers)  {f : Addr} {fd : FuncData} {dvs0 : List V} (F : FunD K "taken_slack" "taken_slack" (defArgs s_taken_slack) (defBody s_taken_slack) (defScope s_taken_slack) dvs0 [] f fd)
    (len : ∀ ds M Q, S ds M Q → ds.length = 1) (sem : ∀ ds M Q, S ds M Q → (b_taken_slack C_Numbers) { nx := fun _ M => Q .non M, rt := Q } (startD N_taken_slack ds) M) : FnOk P w K mg base CX0 1 f fd ["numbers"] (spD K S) :=
  fn_d F sc_taken_slack len (fun cdv A outer s H E hr => w_taken_slack T cdv A outer s H E hr) sem
/-- kinds_of -/
def b_kinds_of (C_Numbers : Addr) (S_taken_slack : DSp) (S_shown_slack : DSp) : TDS :=
  (dSeq (dAsg (dIf (dAnd (dTest (dOp gtD (dFld C_Numbers ns_Numbers 1 (dVar 0)) (dC (.int 0)))) (dTest (dOp leD (dCall S_taken_slack [] (dCons (dVar 0) dNil)) (dC (.int 0))))) (dLst (dCons (dC g_PAPERS) dNil)) (dLst dNil)) (dgName 3))
    (dRet (dIf (dTest (dOp leD (dCall S_shown_slack [] (dCons (dVar 0) (dCons (dVar 1) (dCons (dVar 2) dNil)))) (dC (.int 0)))) (dCB tupleD (dCons (dOp addD (dVar 3) (dLst (dCons (dC g_UNSEEN) dNil))) dNil)) (dCB tupleD (dCons (dVar 3) dNil)))))
theorem w_kinds_of {S_taken_slack : DSp} {S_shown_slack : DSp} (T : Txt K mg C_Numbers) (c0 : Callee P w K mg base 1 "taken_slack" ["numbers"] S_taken_slack []) (c1 : Callee P w K mg base 3 "shown_slack" ["numbers", "manner", "spread"] S_shown_slack []) {f : Addr} (cdv : Value) (A : Around) (outer : List Env) (s : Shared) (H : Hp) (E : XK) (hr : Room 3 (A.deeper (envOfC "kinds_of" (defScope s_kinds_of) s.heap.objs.size f cdv))) :
    ∃ t, PDSs (cxOf CX0 P w K mg base N_kinds_of "kinds_of" (defScope s_kinds_of) f cdv A outer s H E).nox (defBody s_kinds_of) t (b_kinds_of C_Numbers S_taken_slack S_shown_slack) := by
  have hu := hu64 hr
  obtain ⟨u_PAPERS, v_PAPERS, e_PAPERS, r_PAPERS, q_PAPERS⟩ := T.g_PAPERS
  obtain ⟨u_UNSEEN, v_UNSEEN, e_UNSEEN, r_UNSEEN, q_UNSEEN⟩ := T.g_UNSEEN
  obtain ⟨f0, fd0, ds0, dvs0, F0, m0, kp0, b0, v0, r0⟩ := c0.ex
  obtain ⟨f1, fd1, ds1, dvs1, F1, m1, kp1, b1, v1, r1⟩ := c1.ex
  exact ⟨_, (pdss_cons (pds_set (i := 3) sc_kinds_of.nd rfl (Or.inl rfl) (pd_ifExp (PDW.pt (pdw_and (pdt_cmp oop_gt s2_gt (kd_fld rfl T.c_Numbers T.na_Numbers_f (by decide +kernel) (pd_var (pv 0))) pd_int (nomark _)) (pdw_and1 (pdt_cmp oop_le s2_le (kd_call rfl F0 (hr.mono (by first | decide | exact Nat.le_refl _ | omega)) (by rfl) m0 kp0 b0 v0 r0 (pda_cons (pd_var (pv 0)) pda_nil)) pd_int (nomark _))))) (pd_lst (pda_cons (pd_glob rfl e_PAPERS r_PAPERS q_PAPERS) pda_nil)) (pd_lst pda_nil)))
    (pdss_one (pds_ret (pd_ifExp (pdt_cmp oop_le s2_le (kd_call rfl F1 (hr.mono (by first | decide | exact Nat.le_refl _ | omega)) (by rfl) m1 kp1 b1 v1 r1 (pda_cons (pd_var (pv 0)) (pda_cons (pd_var (pv 1)) (pda_cons (pd_var (pv 2)) pda_nil)))) pd_int (nomark _)) (pd_callTy (kc_tuple (K := K) rfl) ks_tuple (by rfl) T.n_tuple (by decide +kernel) (pda_cons (pd_op (ko_add (K := K) rfl) s2_add (pd_var (pv 3)) (pd_lst (pda_cons (pd_glob rfl e_UNSEEN r_UNSEEN q_UNSEEN) pda_nil))) pda_nil)) (pd_callTy (kc_tuple (K := K) rfl) ks_tuple (by rfl) T.n_tuple (by decide +kernel) (pda_cons (pd_var (pv 3)) pda_nil))))))⟩
theorem ok_kinds_of {S_taken_slack : DSp} {S_shown_slack : DSp} {S : DSp} (T : Txt K mg C_Numbers) (c0 : Callee P w K mg base 1 "taken_slack" ["numbers"] S_taken_slack []) (c1 : Callee P w K mg base 3 "shown_slack" ["numbers", "manner", "spread"] S_shown_slack []) {f : Addr} {fd : FuncData} {dvs0 : List V} (F : FunD K "kinds_of" "kinds_of" (defArgs s_kinds_of) (defBody s_kinds_of) (defScope s_kinds_of) dvs0 [] f fd)
    (len : ∀ ds M Q, S ds M Q → ds.length = 3) (sem : ∀ ds M Q, S ds M Q → (b_kinds_of C_Numbers S_taken_slack S_shown_slack) { nx := fun _ M => Q .non M, rt := Q } (startD N_kinds_of ds) M) : FnOk P w K mg base CX0 4 f fd ["numbers", "manner", "spread"] (spD K S) :=
  fn_d F sc_kinds_of len (fun cdv A outer s H E hr => w_kinds_of T c0 c1 cdv A outer s H E hr) sem
/-- needed_apart -/
def b_needed_apart (C_Numbers : Addr) : TDS :=
  (dRet (dCB max2D (dCons (dC (.int 0)) (dCons (dOp subD (dOp subD (dOp addD (dFld C_Numbers ns_Numbers 6 (dVar 0)) (dFld C_Numbers ns_Numbers 5 (dVar 0))) (dFld C_Numbers ns_Numbers 0 (dVar 0))) (dFld C_Numbers ns_Numbers 1 (dVar 0))) dNil))))
theorem w_needed_apart (T : Txt K mg C_Numbers)  {f : Addr} (cdv : Value) (A : Around) (outer : List Env) (s : Shared) (H : Hp) (E : XK) (hr : Room 0 (A.deeper (envOfC "needed_apart" (defScope s_needed_apart) s.heap.objs.size f cdv))) :
    ∃ t, PDSs (cxOf CX0 P w K mg base N_needed_apart "needed_apart" (defScope s_needed_apart) f cdv A outer s H E).nox (defBody s_needed_apart) t (b_needed_apart C_Numbers) := by
  have hu := hu64 hr
  exact ⟨_, (pdss_one (pds_ret (pd_callB (call_max2 rfl) sc_max2 (by rfl) T.n_max (by decide +kernel) (pda_cons pd_int (pda_cons (pd_op op_sub s2_sub (pd_op op_sub s2_sub (pd_op (ko_add (K := K) rfl) s2_add (kd_fld rfl T.c_Numbers T.na_Numbers_c (by decide +kernel) (pd_var (pv 0))) (kd_fld rfl T.c_Numbers T.na_Numbers_w2 (by decide +kernel) (pd_var (pv 0)))) (kd_fld rfl T.c_Numbers T.na_Numbers_k (by decide +kernel) (pd_var (pv 0)))) (kd_fld rfl T.c_Numbers T.na_Numbers_f (by decide +kernel) (pd_var (pv 0)))) pda_nil)))))⟩
theorem ok_needed_apart {S : DSp} (T : Txt K mg C_Numbers)  {f : Addr} {fd : FuncData} {dvs0 : List V} (F : FunD K "needed_apart" "needed_apart" (defArgs s_needed_apart) (defBody s_needed_apart) (defScope s_needed_apart) dvs0 [] f fd)
    (len : ∀ ds M Q, S ds M Q → ds.length = 1) (sem : ∀ ds M Q, S ds M Q → (b_needed_apart C_Numbers) { nx := fun _ M => Q .non M, rt := Q } (startD N_needed_apart ds) M) : FnOk P w K mg base CX0 1 f fd ["numbers"] (spD K S) :=
  fn_d F sc_needed_apart len (fun cdv A outer s H E hr => w_needed_apart T cdv A outer s H E hr) sem
/-- least_apart -/
def b_least_apart (S_kinds_of : DSp) (S_needed_apart : DSp) : TDS :=
  (dSeq (dAsg (dCall S_kinds_of [] (dCons (dVar 0) (dCons (dVar 1) (dCons (dVar 2) dNil)))) (dgName 3))
    (dSeq (dIfS (dTest (dOp eqD (dVar 3) (dTup dNil)))
    (dRet (dC .non))
    dNext)
    (dRet (dIf (dTest (dOp inD (dC g_PAPERS) (dVar 3))) (dC (.int 0)) (dCall S_needed_apart [] (dCons (dVar 0) dNil))))))
theorem w_least_apart {S_kinds_of : DSp} {S_needed_apart : DSp} (T : Txt K mg C_Numbers) (c0 : Callee P w K mg base 4 "kinds_of" ["numbers", "manner", "spread"] S_kinds_of []) (c1 : Callee P w K mg base 1 "needed_apart" ["numbers"] S_needed_apart []) {f : Addr} (cdv : Value) (A : Around) (outer : List Env) (s : Shared) (H : Hp) (E : XK) (hr : Room 4 (A.deeper (envOfC "least_apart" (defScope s_least_apart) s.heap.objs.size f cdv))) :
    ∃ t, PDSs (cxOf CX0 P w K mg base N_least_apart "least_apart" (defScope s_least_apart) f cdv A outer s H E).nox (defBody s_least_apart) t (b_least_apart S_kinds_of S_needed_apart) := by
  have hu := hu64 hr
  obtain ⟨u_PAPERS, v_PAPERS, e_PAPERS, r_PAPERS, q_PAPERS⟩ := T.g_PAPERS
  obtain ⟨f0, fd0, ds0, dvs0, F0, m0, kp0, b0, v0, r0⟩ := c0.ex
  obtain ⟨f1, fd1, ds1, dvs1, F1, m1, kp1, b1, v1, r1⟩ := c1.ex
  exact ⟨_, (pdss_cons (pds_set (i := 3) sc_least_apart.nd rfl (Or.inl rfl) (kd_call rfl F0 (hr.mono (by first | decide | exact Nat.le_refl _ | omega)) (by rfl) m0 kp0 b0 v0 r0 (pda_cons (pd_var (pv 0)) (pda_cons (pd_var (pv 1)) (pda_cons (pd_var (pv 2)) pda_nil)))))
    (pdss_cons (pds_if (pdt_cmp (ko_eq (K := K) rfl hu) s2_eq (pd_var (pv 3)) (pd_tup pda_nil) (nomark _))
    (pdss_one (pds_ret pd_non))
    pdss_nil)
    (pdss_one (pds_ret (pd_ifExp (pdt_cmp (ko_in (K := K) rfl) s2_in (pd_glob rfl e_PAPERS r_PAPERS q_PAPERS) (pd_var (pv 3)) (by rfl)) pd_int (kd_call rfl F1 (hr.mono (by first | decide | exact Nat.le_refl _ | omega)) (by rfl) m1 kp1 b1 v1 r1 (pda_cons (pd_var (pv 0)) pda_nil)))))))⟩
theorem ok_least_apart {S_kinds_of : DSp} {S_needed_apart : DSp} {S : DSp} (T : Txt K mg C_Numbers) (c0 : Callee P w K mg base 4 "kinds_of" ["numbers", "manner", "spread"] S_kinds_of []) (c1 : Callee P w K mg base 1 "needed_apart" ["numbers"] S_needed_apart []) {f : Addr} {fd : FuncData} {dvs0 : List V} (F : FunD K "least_apart" "least_apart" (defArgs s_least_apart) (defBody s_least_apart) (defScope s_least_apart) dvs0 [] f fd)
    (len : ∀ ds M Q, S ds M Q → ds.length = 3) (sem : ∀ ds M Q, S ds M Q → (b_least_apart S_kinds_of S_needed_apart) { nx := fun _ M => Q .non M, rt := Q } (startD N_least_apart ds) M) : FnOk P w K mg base CX0 5 f fd ["numbers", "manner", "spread"] (spD K S) :=
  fn_d F sc_least_apart len (fun cdv A outer s H E hr => w_least_apart T c0 c1 cdv A outer s H E hr) sem
/-- Numbers.__init__ -/
def b_Numbers_init (C_Numbers : Addr) (S_is_number : DSp) : TDS :=
  (dSeq (dIfS (dOr (dNot (dTest (dCall S_is_number [] (dCons (dVar 1) (dCons (dC g_MOST_COPIES) dNil))))) (dTest (dOp eqD (dVar 1) (dC (.int 0)))))
    dNever
    dNext)
    (dSeq (dIfS (dNot (dTest (dCall S_is_number [] (dCons (dVar 2) (dCons (dOp subD (dVar 1) (dC (.int 1))) dNil)))))
    dNever
    dNext)
    (dSeq (dFor (diEnum (dCons (dTup (dCons (dVar 3) (dCons (dVar 4) dNil))) dNil)) (dgTup 2 (dgCons (dgName 8) (dgCons (dgName 9) dgNil)))
    (dIfS (dNot (dTest (dCall S_is_number [] (dCons (dVar 9) (dCons (dC g_MOST_LAG) dNil)))))
    dNever
    dNext))
    (dSeq (dFor (diEnum (dCons (dTup (dCons (dVar 5) (dCons (dVar 6) (dCons (dVar 7) dNil)))) dNil)) (dgTup 2 (dgCons (dgName 8) (dgCons (dgName 9) dgNil)))
    (dIfS (dOr (dNot (dTest (dCall S_is_number [] (dCons (dVar 9) (dCons (dVar 1) dNil))))) (dTest (dOp eqD (dVar 9) (dC (.int 0)))))
    dNever
    dNext))
    (dSeq (dSetNew C_Numbers "k" (dVar 0) (dVar 1))
    (dSeq (dSetNew C_Numbers "f" (dVar 0) (dVar 2))
    (dSeq (dSetNew C_Numbers "d" (dVar 0) (dVar 3))
    (dSeq (dSetNew C_Numbers "a" (dVar 0) (dVar 4))
    (dSeq (dSetNew C_Numbers "w1" (dVar 0) (dVar 5))
    (dSeq (dSetNew C_Numbers "w2" (dVar 0) (dVar 6))
    (dSetNew C_Numbers "c" (dVar 0) (dVar 7))))))))))))
theorem w_Numbers_init {S_is_number : DSp} (T : Txt K mg C_Numbers) (c0 : Callee P w K mg base 2 "is_number" ["value", "most"] S_is_number []) {f : Addr} (cdv : Value) (A : Around) (outer : List Env) (s : Shared) (H : Hp) (E : XK) (hr : Room 2 (A.deeper (envOfC "Numbers.__init__" (defScope s_Numbers_init) s.heap.objs.size f cdv))) :
    ∃ t, PDSs (cxOf CX0 P w K mg base N_Numbers_init "Numbers.__init__" (defScope s_Numbers_init) f cdv A outer s H E).nox (defBody s_Numbers_init) t (b_Numbers_init C_Numbers S_is_number) := by
  have hu := hu64 hr
  obtain ⟨u_MOST_COPIES, v_MOST_COPIES, e_MOST_COPIES, r_MOST_COPIES, q_MOST_COPIES⟩ := T.g_MOST_COPIES
  obtain ⟨u_MOST_LAG, v_MOST_LAG, e_MOST_LAG, r_MOST_LAG, q_MOST_LAG⟩ := T.g_MOST_LAG
  obtain ⟨f0, fd0, ds0, dvs0, F0, m0, kp0, b0, v0, r0⟩ := c0.ex
  exact ⟨_, (pdss_cons (pds_if (PDW.pt (pdw_or (pdt_not (pdt_val (kd_call rfl F0 (hr.mono (by first | decide | exact Nat.le_refl _ | omega)) (by rfl) m0 kp0 b0 v0 r0 (pda_cons (pd_var (pv 1)) (pda_cons (pd_glob rfl e_MOST_COPIES r_MOST_COPIES q_MOST_COPIES) pda_nil))))) (pdw_or1 (pdt_cmp (ko_eq (K := K) rfl hu) s2_eq (pd_var (pv 1)) pd_int (nomark _)))))
    (pdss_one pds_never)
    pdss_nil)
    (pdss_cons (pds_if (pdt_not (pdt_val (kd_call rfl F0 (hr.mono (by first | decide | exact Nat.le_refl _ | omega)) (by rfl) m0 kp0 b0 v0 r0 (pda_cons (pd_var (pv 2)) (pda_cons (pd_op op_sub s2_sub (pd_var (pv 1)) pd_int) pda_nil)))))
    (pdss_one pds_never)
    pdss_nil)
    (pdss_cons (pds_for PassesOwn.never rfl (kdi_enum (K := K) rfl (by rfl) T.n_enumerate (pda_cons (pd_tup (pda_cons (pd_var (pv 3)) (pda_cons (pd_var (pv 4)) pda_nil))) pda_nil)) (kdg_tup (K := K) rfl rfl (pdgs_cons (pdg_name (pg_name (i := 8) sc_Numbers_init.nd rfl (Or.inl rfl))) (pdgs_cons (pdg_name (pg_name (i := 9) sc_Numbers_init.nd rfl (Or.inl rfl))) pdgs_nil)))
    (pdss_one (pds_if (pdt_not (pdt_val (kd_call rfl F0 (hr.mono (by first | decide | exact Nat.le_refl _ | omega)) (by rfl) m0 kp0 b0 v0 r0 (pda_cons (pd_var (pv 9)) (pda_cons (pd_glob rfl e_MOST_LAG r_MOST_LAG q_MOST_LAG) pda_nil)))))
    (pdss_one pds_never)
    pdss_nil)))
    (pdss_cons (pds_for PassesOwn.never rfl (kdi_enum (K := K) rfl (by rfl) T.n_enumerate (pda_cons (pd_tup (pda_cons (pd_var (pv 5)) (pda_cons (pd_var (pv 6)) (pda_cons (pd_var (pv 7)) pda_nil)))) pda_nil)) (kdg_tup (K := K) rfl rfl (pdgs_cons (pdg_name (pg_name (i := 8) sc_Numbers_init.nd rfl (Or.inl rfl))) (pdgs_cons (pdg_name (pg_name (i := 9) sc_Numbers_init.nd rfl (Or.inl rfl))) pdgs_nil)))
    (pdss_one (pds_if (PDW.pt (pdw_or (pdt_not (pdt_val (kd_call rfl F0 (hr.mono (by first | decide | exact Nat.le_refl _ | omega)) (by rfl) m0 kp0 b0 v0 r0 (pda_cons (pd_var (pv 9)) (pda_cons (pd_var (pv 1)) pda_nil))))) (pdw_or1 (pdt_cmp (ko_eq (K := K) rfl hu) s2_eq (pd_var (pv 9)) pd_int (nomark _)))))
    (pdss_one pds_never)
    pdss_nil)))
    (pdss_cons (kds_setNew rfl T.c_Numbers T.na_Numbers_k (pd_var (pv 0)) (pd_var (pv 1)))
    (pdss_cons (kds_setNew rfl T.c_Numbers T.na_Numbers_f (pd_var (pv 0)) (pd_var (pv 2)))
    (pdss_cons (kds_setNew rfl T.c_Numbers T.na_Numbers_d (pd_var (pv 0)) (pd_var (pv 3)))
    (pdss_cons (kds_setNew rfl T.c_Numbers T.na_Numbers_a (pd_var (pv 0)) (pd_var (pv 4)))
    (pdss_cons (kds_setNew rfl T.c_Numbers T.na_Numbers_w1 (pd_var (pv 0)) (pd_var (pv 5)))
    (pdss_cons (kds_setNew rfl T.c_Numbers T.na_Numbers_w2 (pd_var (pv 0)) (pd_var (pv 6)))
    (pdss_one (kds_setNew rfl T.c_Numbers T.na_Numbers_c (pd_var (pv 0)) (pd_var (pv 7))))))))))))))⟩
theorem ok_Numbers_init {S_is_number : DSp} {S : DSp} (T : Txt K mg C_Numbers) (c0 : Callee P w K mg base 2 "is_number" ["value", "most"] S_is_number []) {f : Addr} {fd : FuncData} {dvs0 : List V} (F : FunD K "__init__" "Numbers.__init__" (defArgs s_Numbers_init) (defBody s_Numbers_init) (defScope s_Numbers_init) dvs0 [] f fd)
    (len : ∀ ds M Q, S ds M Q → ds.length = 8) (sem : ∀ ds M Q, S ds M Q → (b_Numbers_init C_Numbers S_is_number) { nx := fun _ M => Q .non M, rt := Q } (startD N_Numbers_init ds) M) : FnOk P w K mg base CX0 3 f fd ["self", "k", "f", "d", "a", "w1", "w2", "c"] (spD K S) :=
  fn_d F sc_Numbers_init len (fun cdv A outer s H E hr => w_Numbers_init T c0 cdv A outer s H E hr) sem
/-- _law_heap -/
def b_law_heap : TDS :=
  (dSeq (dPar [2, 3] (dCons (dLc (diAny (dSl (dVar 0) dNoPart (dPart (dC (.int 60))))) (dgName 1) dYes (dOp addD (dOp mulD (dC (.int 2)) (dCB absD (dCons (dVar 1) dNil))) (dCB intD (dCons (dOp ltD (dVar 1) (dC (.int 0))) dNil))) [1]) (dCons (dC (.int 80273)) dNil)))
    (dSeq (dFor (diAny (dVar 2)) (dgName 1)
    (dAsg (dOp modD (dCB intD (dCons (dOp addD (dOp addD (dOp mulD (dVar 3) (dC (.int 69621))) (dOp modD (dCB intD (dCons (dVar 1) dNil)) (dC (.int 2147483563)))) (dC (.int 29))) dNil)) (dC (.int 2147483647))) (dgName 3)))
    (dRet (dLstM (dCons (dRevM (dLc (diAny (dVar 2)) (dgName 1) (dTest (dOp geD (dVar 1) (dOp powD (dC (.int 10)) (dC (.int 18))))) (dVar 1) [1])) (dCons (dVar 3) dNil))))))
theorem w_law_heap (T : Txt K mg C_Numbers)  {f : Addr} (cdv : Value) (A : Around) (outer : List Env) (s : Shared) (H : Hp) (E : XK) (hr : Room 0 (A.deeper (envOfC "_law_heap" (defScope s_law_heap) s.heap.objs.size f cdv))) :
    ∃ t, PDSs (cxOf CX0 P w K mg base N_law_heap "_law_heap" (defScope s_law_heap) f cdv A outer s H E).nox (defBody s_law_heap) t (b_law_heap) := by
  have hu := hu64 hr
  exact ⟨_, (pdss_cons (pds_par' (i := 2) (j := 3) rfl sc_law_heap.nd rfl rfl (by decide) rfl rfl (pda_cons (pd_lc rfl sc_law_heap.nd (kdi_any (K := K) rfl (kd_slice (K := K) rfl (pd_var (pv 0)) pdo_none (pdo_some pd_int))) (blkOk_by (N := N_law_heap) (sc := defScope s_law_heap) (own := [("cell", 1)]) (by decide +kernel)) rfl (fun _ _ _ _ _ => (pdg_name (pg_name (i := 1) sc_law_heap.nd rfl (by first | exact Or.inl rfl | exact Or.inr rfl)))) (wr_name (by decide)) (fun _ _ _ _ _ => pdts_nil) (fun _ _ _ _ _ => (pd_op (ko_add (K := K) rfl) s2_add (pd_op oop_mul s2_mul pd_int (pd_callB call_abs sc_abs (by rfl) T.n_abs (by decide +kernel) (pda_cons (pd_var (pv 1)) pda_nil))) (pd_callTy call_int1 sc_int (by rfl) T.n_int (by decide +kernel) (pda_cons (pd_cmp oop_lt s2_lt (pd_var (pv 1)) pd_int (nomark _)) pda_nil))))) (pda_cons pd_int pda_nil)) (by rfl))
    (pdss_cons (pds_for PassesOwn.never rfl (kdi_any (K := K) rfl (pd_var (pv 2))) (pdg_name (pg_name (i := 1) sc_law_heap.nd rfl (Or.inl rfl)))
    (pdss_one (pds_set (i := 3) sc_law_heap.nd rfl (Or.inl rfl) (pd_op op_mod s2_mod (pd_callTy call_int1 sc_int (by rfl) T.n_int (by decide +kernel) (pda_cons (pd_op (ko_add (K := K) rfl) s2_add (pd_op (ko_add (K := K) rfl) s2_add (pd_op oop_mul s2_mul (pd_var (pv 3)) pd_int) (pd_op op_mod s2_mod (pd_callTy call_int1 sc_int (by rfl) T.n_int (by decide +kernel) (pda_cons (pd_var (pv 1)) pda_nil)) pd_int)) pd_int) pda_nil)) pd_int))))
    (pdss_one (pds_ret (pd_lstM (pda_cons (kd_revM (K := K) rfl (pd_lc rfl sc_law_heap.nd (kdi_any (K := K) rfl (pd_var (pv 2))) (blkOk_by (N := N_law_heap) (sc := defScope s_law_heap) (own := [("cell", 1)]) (by decide +kernel)) rfl (fun _ _ _ _ _ => (pdg_name (pg_name (i := 1) sc_law_heap.nd rfl (by first | exact Or.inl rfl | exact Or.inr rfl)))) (wr_name (by decide)) (fun _ _ _ _ _ => (pdts_one (pdt_cmp oop_ge s2_ge (pd_var (pv 1)) (pd_op op_pow s2_pow pd_int pd_int) (nomark _)))) (fun _ _ _ _ _ => (pd_var (pv 1))))) (pda_cons (pd_var (pv 3)) pda_nil)))))))⟩
theorem ok_law_heap {S : DSp} (T : Txt K mg C_Numbers)  {f : Addr} {fd : FuncData} {dvs0 : List V} (F : FunD K "_law_heap" "_law_heap" (defArgs s_law_heap) (defBody s_law_heap) (defScope s_law_heap) dvs0 [] f fd)
    (len : ∀ ds M Q, S ds M Q → ds.length = 1) (sem : ∀ ds M Q, S ds M Q → (b_law_heap) { nx := fun _ M => Q .non M, rt := Q } (startD N_law_heap ds) M) : FnOk P w K mg base CX0 1 f fd ["script"] (spD K S) :=
  fn_d F sc_law_heap len (fun cdv A outer s H E hr => w_law_heap T cdv A outer s H E hr) sem
/-- _law_draw -/
def b_law_draw : TDS :=
  (dSeq (dWhile (dAnd (dTest (dOp neD (dOp ixD (dVar 0) (dC (.int 0))) (dLst dNil))) (dTest (dOp eqD (dOp ixD (dOp ixD (dVar 0) (dC (.int 0))) (dUn negD (dC (.int 1)))) (dC (.int 0)))))
    (dDrop (dBM0 popD (dOp ixD (dVar 0) (dC (.int 0))))))
    (dSeq (dIfS (dTest (dOp neD (dOp ixD (dVar 0) (dC (.int 0))) (dLst dNil)))
    (dSeq (dAsg (dBM0 popD (dOp ixD (dVar 0) (dC (.int 0)))) (dgName 2))
    (dSeq (dDrop (dBM appD (dOp ixD (dVar 0) (dC (.int 0))) (dCons (dOp fdivD (dVar 2) (dVar 1)) dNil)))
    (dRet (dOp modD (dCB intD (dCons (dVar 2) dNil)) (dVar 1)))))
    dNext)
    (dSeq (dAsg (dOp modD (dCB intD (dCons (dOp addD (dOp mulD (dOp ixD (dVar 0) (dC (.int 1))) (dC (.int 48271))) (dC (.int 17))) dNil)) (dC (.int 2147483647))) (dgSub (dVar 0) (dC (.int 1))))
    (dRet (dOp modD (dCB intD (dCons (dOp fdivD (dOp ixD (dVar 0) (dC (.int 1))) (dC (.int 32))) dNil)) (dVar 1))))))
theorem w_law_draw (T : Txt K mg C_Numbers)  {f : Addr} (cdv : Value) (A : Around) (outer : List Env) (s : Shared) (H : Hp) (E : XK) (hr : Room 0 (A.deeper (envOfC "_law_draw" (defScope s_law_draw) s.heap.objs.size f cdv))) :
    ∃ t, PDSs (cxOf CX0 P w K mg base N_law_draw "_law_draw" (defScope s_law_draw) f cdv A outer s H E).nox (defBody s_law_draw) t (b_law_draw) := by
  have hu := hu64 hr
  exact ⟨_, (pdss_cons (pds_while PassesOwn.never (PDW.pt (pdw_and (pdt_cmp (ko_ne (K := K) rfl hu) s2_ne (pd_ix (kix (K := K) rfl) s2_ix (pd_var (pv 0)) pd_int (fun _ _ => rfl)) (pd_lst pda_nil) (nomark _)) (pdw_and1 (pdt_cmp (ko_eq (K := K) rfl hu) s2_eq (pd_ix (kix (K := K) rfl) s2_ix (pd_ix (kix (K := K) rfl) s2_ix (pd_var (pv 0)) pd_int (fun _ _ => rfl)) (pd_un un_neg s1_neg pd_int) (fun _ _ => rfl)) pd_int (nomark _)))))
    (pdss_one (pds_expr (kd_pop (K := K) rfl (pd_ix (kix (K := K) rfl) s2_ix (pd_var (pv 0)) pd_int (fun _ _ => rfl))))))
    (pdss_cons (pds_if (pdt_cmp (ko_ne (K := K) rfl hu) s2_ne (pd_ix (kix (K := K) rfl) s2_ix (pd_var (pv 0)) pd_int (fun _ _ => rfl)) (pd_lst pda_nil) (nomark _))
    (pdss_cons (pds_set (i := 2) sc_law_draw.nd rfl (Or.inl rfl) (kd_pop (K := K) rfl (pd_ix (kix (K := K) rfl) s2_ix (pd_var (pv 0)) pd_int (fun _ _ => rfl))))
    (pdss_cons (pds_expr (kd_app (K := K) rfl (pd_ix (kix (K := K) rfl) s2_ix (pd_var (pv 0)) pd_int (fun _ _ => rfl)) (pda_cons (pd_op op_fdiv s2_fdiv (pd_var (pv 2)) (pd_var (pv 1))) pda_nil)))
    (pdss_one (pds_ret (pd_op op_mod s2_mod (pd_callTy call_int1 sc_int (by rfl) T.n_int (by decide +kernel) (pda_cons (pd_var (pv 2)) pda_nil)) (pd_var (pv 1)))))))
    pdss_nil)
    (pdss_cons (pds_asg (pd_op op_mod s2_mod (pd_callTy call_int1 sc_int (by rfl) T.n_int (by decide +kernel) (pda_cons (pd_op (ko_add (K := K) rfl) s2_add (pd_op oop_mul s2_mul (pd_ix (kix (K := K) rfl) s2_ix (pd_var (pv 0)) pd_int (fun _ _ => rfl)) pd_int) pd_int) pda_nil)) pd_int) (pdg_sub (pd_var (pv 0)) pd_int))
    (pdss_one (pds_ret (pd_op op_mod s2_mod (pd_callTy call_int1 sc_int (by rfl) T.n_int (by decide +kernel) (pda_cons (pd_op op_fdiv s2_fdiv (pd_ix (kix (K := K) rfl) s2_ix (pd_var (pv 0)) pd_int (fun _ _ => rfl)) pd_int) pda_nil)) (pd_var (pv 1))))))))⟩
theorem ok_law_draw {S : DSp} (T : Txt K mg C_Numbers)  {f : Addr} {fd : FuncData} {dvs0 : List V} (F : FunD K "_law_draw" "_law_draw" (defArgs s_law_draw) (defBody s_law_draw) (defScope s_law_draw) dvs0 [] f fd)
    (len : ∀ ds M Q, S ds M Q → ds.length = 2) (sem : ∀ ds M Q, S ds M Q → (b_law_draw) { nx := fun _ M => Q .non M, rt := Q } (startD N_law_draw ds) M) : FnOk P w K mg base CX0 1 f fd ["heap", "many"] (spD K S) :=
  fn_d F sc_law_draw len (fun cdv A outer s H E hr => w_law_draw T cdv A outer s H E hr) sem
/-- _law_pick -/
def b_law_pick (S_law_draw : DSp) : TDS :=
  (dRet (dOp ixD (dVar 1) (dCall S_law_draw [] (dCons (dVar 0) (dCons (dCB lenD (dCons (dVar 1) dNil)) dNil)))))
theorem w_law_pick {S_law_draw : DSp} (T : Txt K mg C_Numbers) (c0 : Callee P w K mg base 1 "_law_draw" ["heap", "many"] S_law_draw []) {f : Addr} (cdv : Value) (A : Around) (outer : List Env) (s : Shared) (H : Hp) (E : XK) (hr : Room 1 (A.deeper (envOfC "_law_pick" (defScope s_law_pick) s.heap.objs.size f cdv))) :
    ∃ t, PDSs (cxOf CX0 P w K mg base N_law_pick "_law_pick" (defScope s_law_pick) f cdv A outer s H E).nox (defBody s_law_pick) t (b_law_pick S_law_draw) := by
  have hu := hu64 hr
  obtain ⟨f0, fd0, ds0, dvs0, F0, m0, kp0, b0, v0, r0⟩ := c0.ex
  exact ⟨_, (pdss_one (pds_ret (pd_ix (kix (K := K) rfl) s2_ix (pd_var (pv 1)) (kd_call rfl F0 (hr.mono (by first | decide | exact Nat.le_refl _ | omega)) (by rfl) m0 kp0 b0 v0 r0 (pda_cons (pd_var (pv 0)) (pda_cons (pd_callB (kc_len (K := K) rfl) ks_len (by rfl) T.n_len (by decide +kernel) (pda_cons (pd_var (pv 1)) pda_nil)) pda_nil))) (fun _ _ => rfl))))⟩
theorem ok_law_pick {S_law_draw : DSp} {S : DSp} (T : Txt K mg C_Numbers) (c0 : Callee P w K mg base 1 "_law_draw" ["heap", "many"] S_law_draw []) {f : Addr} {fd : FuncData} {dvs0 : List V} (F : FunD K "_law_pick" "_law_pick" (defArgs s_law_pick) (defBody s_law_pick) (defScope s_law_pick) dvs0 [] f fd)
    (len : ∀ ds M Q, S ds M Q → ds.length = 2) (sem : ∀ ds M Q, S ds M Q → (b_law_pick S_law_draw) { nx := fun _ M => Q .non M, rt := Q } (startD N_law_pick ds) M) : FnOk P w K mg base CX0 2 f fd ["heap", "some"] (spD K S) :=
  fn_d F sc_law_pick len (fun cdv A outer s H E hr => w_law_pick T c0 cdv A outer s H E hr) sem
/-- _law_like -/
def b_law_like (S_law_like : DSp) : TDS :=
  (dSeq (dIfS (dTest (dCB isiD (dCons (dVar 1) (dCons (dC (.ty "tuple")) dNil))))
    (dRet (dAndV (dCB isiD (dCons (dVar 0) (dCons (dC (.ty "tuple")) dNil))) (dAndV (dOp eqD (dCB lenD (dCons (dVar 0) dNil)) (dCB lenD (dCons (dVar 1) dNil))) (dCB allLD (dCons (dLc (diRng1 (dCons (dCB lenD (dCons (dVar 1) dNil)) dNil)) (dgName 2) dYes (dCall S_law_like [] (dCons (dOp ixD (dVar 0) (dVar 2)) (dCons (dOp ixD (dVar 1) (dVar 2)) dNil))) [2]) dNil)))))
    dNext)
    (dSeq (dIfS (dTest (dOp isD (dVar 1) (dC .non)))
    (dRet (dOp isD (dVar 0) (dC .non)))
    dNext)
    (dSeq (dIfS (dTest (dCB isiD (dCons (dVar 1) (dCons (dC (.ty "bool")) dNil))))
    (dRet (dIf (dTest (dVar 1)) (dOp isD (dVar 0) (dC (.bl true))) (dOp isD (dVar 0) (dC (.bl false)))))
    dNext)
    (dSeq (dIfS (dTest (dCB isiD (dCons (dVar 1) (dCons (dC (.ty "int")) dNil))))
    (dRet (dAndV (dCB isiD (dCons (dVar 0) (dCons (dC (.ty "int")) dNil))) (dAndV (dNotV (dCB isiD (dCons (dVar 0) (dCons (dC (.ty "bool")) dNil)))) (dOp eqD (dVar 0) (dVar 1)))))
    dNext)
    (dRet (dAndV (dCB isiD (dCons (dVar 0) (dCons (dC (.ty "str")) dNil))) (dOp eqD (dVar 0) (dVar 1))))))))
theorem w_law_like {S_law_like : DSp} (T : Txt K mg C_Numbers) {rl : Nat} (hrl : 0 ≤ rl) (c0 : Callee P w K mg base rl "_law_like" ["told", "due"] S_law_like []) {f : Addr} (cdv : Value) (A : Around) (outer : List Env) (s : Shared) (H : Hp) (E : XK) (hr : Room rl (A.deeper (envOfC "_law_like" (defScope s_law_like) s.heap.objs.size f cdv))) :
    ∃ t, PDSs (cxOf CX0 P w K mg base N_law_like "_law_like" (defScope s_law_like) f cdv A outer s H E).nox (defBody s_law_like) t (b_law_like S_law_like) := by
  have hu := hu64 hr
  obtain ⟨f0, fd0, ds0, dvs0, F0, m0, kp0, b0, v0, r0⟩ := c0.ex
  exact ⟨_, (pdss_cons (pds_if (pdt_val (pd_callB (kc_isi (K := K) rfl) sc_isi (by rfl) T.n_isinstance (by decide +kernel) (pda_cons (pd_var (pv 1)) (pda_cons (pd_ty (by rfl) T.n_tuple (by decide +kernel)) pda_nil))))
    (pdss_one (pds_ret (pd_and (pd_callB (kc_isi (K := K) rfl) sc_isi (by rfl) T.n_isinstance (by decide +kernel) (pda_cons (pd_var (pv 0)) (pda_cons (pd_ty (by rfl) T.n_tuple (by decide +kernel)) pda_nil))) (pd_and (pd_cmp (ko_eq (K := K) rfl hu) s2_eq (pd_callB (kc_len (K := K) rfl) ks_len (by rfl) T.n_len (by decide +kernel) (pda_cons (pd_var (pv 0)) pda_nil)) (pd_callB (kc_len (K := K) rfl) ks_len (by rfl) T.n_len (by decide +kernel) (pda_cons (pd_var (pv 1)) pda_nil)) (nomark _)) (pd_one (pd_callB (kc_all (K := K) rfl rfl) sc_allL (by rfl) T.n_all (by decide +kernel) (pda_cons (pd_lc rfl sc_law_like.nd (pdi_rng1 (by rfl) T.n_range (pda_cons (pd_callB (kc_len (K := K) rfl) ks_len (by rfl) T.n_len (by decide +kernel) (pda_cons (pd_var (pv 1)) pda_nil)) pda_nil)) (blkOk_by (N := N_law_like) (sc := defScope s_law_like) (own := [("at", 2)]) (by decide +kernel)) rfl (fun _ _ _ _ _ => (pdg_name (pg_name (i := 2) sc_law_like.nd rfl (by first | exact Or.inl rfl | exact Or.inr rfl)))) (wr_name (by decide)) (fun _ _ _ _ _ => pdts_nil) (fun _ _ _ _ _ => (kd_call rfl F0 (hr.mono (by first | decide | exact Nat.le_refl _ | omega)) (by rfl) m0 kp0 b0 v0 r0 (pda_cons (pd_ix (kix (K := K) rfl) s2_ix (pd_var (pv 0)) (pd_var (pv 2)) (fun _ _ => rfl)) (pda_cons (pd_ix (kix (K := K) rfl) s2_ix (pd_var (pv 1)) (pd_var (pv 2)) (fun _ _ => rfl)) pda_nil))))) pda_nil)))))))
    pdss_nil)
    (pdss_cons (pds_if (pdt_cmp oop_is s2_is (pd_var (pv 1)) pd_non (nomark _))
    (pdss_one (pds_ret (pd_cmp oop_is s2_is (pd_var (pv 0)) pd_non (nomark _))))
    pdss_nil)
    (pdss_cons (pds_if (pdt_val (pd_callB (kc_isi (K := K) rfl) sc_isi (by rfl) T.n_isinstance (by decide +kernel) (pda_cons (pd_var (pv 1)) (pda_cons (pd_ty (by rfl) T.n_bool (by decide +kernel)) pda_nil))))
    (pdss_one (pds_ret (pd_ifExp (pdt_val (pd_var (pv 1))) (pd_cmp oop_is s2_is (pd_var (pv 0)) pd_bl (nomark _)) (pd_cmp oop_is s2_is (pd_var (pv 0)) pd_bl (nomark _)))))
    pdss_nil)
    (pdss_cons (pds_if (pdt_val (pd_callB (kc_isi (K := K) rfl) sc_isi (by rfl) T.n_isinstance (by decide +kernel) (pda_cons (pd_var (pv 1)) (pda_cons (pd_ty (by rfl) T.n_int (by decide +kernel)) pda_nil))))
    (pdss_one (pds_ret (pd_and (pd_callB (kc_isi (K := K) rfl) sc_isi (by rfl) T.n_isinstance (by decide +kernel) (pda_cons (pd_var (pv 0)) (pda_cons (pd_ty (by rfl) T.n_int (by decide +kernel)) pda_nil))) (pd_and (pd_not (pd_callB (kc_isi (K := K) rfl) sc_isi (by rfl) T.n_isinstance (by decide +kernel) (pda_cons (pd_var (pv 0)) (pda_cons (pd_ty (by rfl) T.n_bool (by decide +kernel)) pda_nil)))) (pd_one (pd_cmp (ko_eq (K := K) rfl hu) s2_eq (pd_var (pv 0)) (pd_var (pv 1)) (nomark _)))))))
    pdss_nil)
    (pdss_one (pds_ret (pd_and (pd_callB (kc_isi (K := K) rfl) sc_isi (by rfl) T.n_isinstance (by decide +kernel) (pda_cons (pd_var (pv 0)) (pda_cons (pd_ty (by rfl) T.n_str (by decide +kernel)) pda_nil))) (pd_one (pd_cmp (ko_eq (K := K) rfl hu) s2_eq (pd_var (pv 0)) (pd_var (pv 1)) (nomark _))))))))))⟩
theorem ok_law_like {S_law_like : DSp} {S : DSp} (T : Txt K mg C_Numbers) {rl : Nat} (hrl : 0 ≤ rl) (c0 : Callee P w K mg base rl "_law_like" ["told", "due"] S_law_like []) {f : Addr} {fd : FuncData} {dvs0 : List V} (F : FunD K "_law_like" "_law_like" (defArgs s_law_like) (defBody s_law_like) (defScope s_law_like) dvs0 [] f fd)
    (len : ∀ ds M Q, S ds M Q → ds.length = 2) (sem : ∀ ds M Q, S ds M Q → (b_law_like S_law_like) { nx := fun _ M => Q .non M, rt := Q } (startD N_law_like ds) M) : FnOk P w K mg base CX0 (rl + 1) f fd ["told", "due"] (spD K S) :=
  fn_d F sc_law_like len (fun cdv A outer s H E hr => w_law_like T hrl c0 cdv A outer s H E hr) sem
/-- _law_numbers -/
def b_law_numbers (S_law_draw : DSp) (S_law_pick : DSp) : TDS :=
  (dSeq (dPar [3, 4] (dCons (dCall S_law_pick [] (dCons (dVar 0) (dCons (dLst (dCons (dC (.int 0)) (dCons (dCB min2D (dCons (dC (.int 1)) (dCons (dOp subD (dVar 1) (dC (.int 1))) dNil))) (dCons (dCB min2D (dCons (dC (.int 1)) (dCons (dOp subD (dVar 1) (dC (.int 1))) dNil))) (dCons (dCall S_law_draw [] (dCons (dVar 0) (dCons (dVar 1) dNil))) dNil))))) dNil))) (dCons (dCall S_law_draw [] (dCons (dVar 0) (dCons (dC (.int 5)) dNil))) dNil)))
    (dSeq (dPar [5, 6] (dCons (dCall S_law_draw [] (dCons (dVar 0) (dCons (dC (.int 5)) dNil))) (dCons (dIf (dTest (dOp gtD (dVar 4) (dC (.int 0)))) (dCall S_law_draw [] (dCons (dVar 0) (dCons (dOp addD (dVar 1) (dC (.int 1))) dNil))) (dC (.int 0))) dNil)))
    (dSeq (dAsg (dOp addD (dOp addD (dVar 1) (dVar 3)) (dIf (dTest (dOp eqD (dVar 2) (dC (.str "any")))) (dVar 6) (dC (.int 0)))) (dgName 7))
    (dSeq (dAsg (dOp addD (dC (.int 1)) (dCall S_law_draw [] (dCons (dVar 0) (dCons (dVar 1) dNil)))) (dgName 8))
    (dSeq (dAsg (dCB max2D (dCons (dC (.int 1)) (dCons (dCB min2D (dCons (dVar 1) (dCons (dCall S_law_pick [] (dCons (dVar 0) (dCons (dLst (dCons (dOp fdivD (dOp addD (dVar 1) (dVar 3)) (dC (.int 2))) (dCons (dOp addD (dOp fdivD (dOp addD (dVar 1) (dVar 3)) (dC (.int 2))) (dC (.int 1))) (dCons (dOp addD (dC (.int 1)) (dCall S_law_draw [] (dCons (dVar 0) (dCons (dVar 1) dNil)))) dNil)))) dNil))) dNil))) dNil))) (dgName 9))
    (dSeq (dAsg (dCB max2D (dCons (dC (.int 1)) (dCons (dCB min2D (dCons (dVar 1) (dCons (dCall S_law_pick [] (dCons (dVar 0) (dCons (dLst (dCons (dOp subD (dVar 7) (dVar 8)) (dCons (dOp addD (dOp subD (dVar 7) (dVar 8)) (dC (.int 1))) (dCons (dOp addD (dC (.int 1)) (dCall S_law_draw [] (dCons (dVar 0) (dCons (dVar 1) dNil)))) dNil)))) dNil))) dNil))) dNil))) (dgName 10))
    (dRet (dTup (dCons (dTup (dCons (dVar 1) (dCons (dVar 3) (dCons (dVar 5) (dCons (dVar 4) (dCons (dVar 9) (dCons (dVar 8) (dCons (dVar 10) dNil)))))))) (dCons (dVar 6) dNil))))))))))
theorem w_law_numbers {S_law_draw : DSp} {S_law_pick : DSp} (T : Txt K mg C_Numbers) (c0 : Callee P w K mg base 1 "_law_draw" ["heap", "many"] S_law_draw []) (c1 : Callee P w K mg base 2 "_law_pick" ["heap", "some"] S_law_pick []) {f : Addr} (cdv : Value) (A : Around) (outer : List Env) (s : Shared) (H : Hp) (E : XK) (hr : Room 2 (A.deeper (envOfC "_law_numbers" (defScope s_law_numbers) s.heap.objs.size f cdv))) :
    ∃ t, PDSs (cxOf CX0 P w K mg base N_law_numbers "_law_numbers" (defScope s_law_numbers) f cdv A outer s H E).nox (defBody s_law_numbers) t (b_law_numbers S_law_draw S_law_pick) := by
  have hu := hu64 hr
  obtain ⟨f0, fd0, ds0, dvs0, F0, m0, kp0, b0, v0, r0⟩ := c0.ex
  obtain ⟨f1, fd1, ds1, dvs1, F1, m1, kp1, b1, v1, r1⟩ := c1.ex
  exact ⟨_, (pdss_cons (pds_par' (i := 3) (j := 4) rfl sc_law_numbers.nd rfl rfl (by decide) rfl rfl (pda_cons (kd_call rfl F1 (hr.mono (by first | decide | exact Nat.le_refl _ | omega)) (by rfl) m1 kp1 b1 v1 r1 (pda_cons (pd_var (pv 0)) (pda_cons (pd_lst (pda_cons pd_int (pda_cons (pd_callB (call_min2 rfl) sc_min2 (by rfl) T.n_min (by decide +kernel) (pda_cons pd_int (pda_cons (pd_op op_sub s2_sub (pd_var (pv 1)) pd_int) pda_nil))) (pda_cons (pd_callB (call_min2 rfl) sc_min2 (by rfl) T.n_min (by decide +kernel) (pda_cons pd_int (pda_cons (pd_op op_sub s2_sub (pd_var (pv 1)) pd_int) pda_nil))) (pda_cons (kd_call rfl F0 (hr.mono (by first | decide | exact Nat.le_refl _ | omega)) (by rfl) m0 kp0 b0 v0 r0 (pda_cons (pd_var (pv 0)) (pda_cons (pd_var (pv 1)) pda_nil))) pda_nil))))) pda_nil))) (pda_cons (kd_call rfl F0 (hr.mono (by first | decide | exact Nat.le_refl _ | omega)) (by rfl) m0 kp0 b0 v0 r0 (pda_cons (pd_var (pv 0)) (pda_cons pd_int pda_nil))) pda_nil)) (by rfl))
    (pdss_cons (pds_par' (i := 5) (j := 6) rfl sc_law_numbers.nd rfl rfl (by decide) rfl rfl (pda_cons (kd_call rfl F0 (hr.mono (by first | decide | exact Nat.le_refl _ | omega)) (by rfl) m0 kp0 b0 v0 r0 (pda_cons (pd_var (pv 0)) (pda_cons pd_int pda_nil))) (pda_cons (pd_ifExp (pdt_cmp oop_gt s2_gt (pd_var (pv 4)) pd_int (nomark _)) (kd_call rfl F0 (hr.mono (by first | decide | exact Nat.le_refl _ | omega)) (by rfl) m0 kp0 b0 v0 r0 (pda_cons (pd_var (pv 0)) (pda_cons (pd_op (ko_add (K := K) rfl) s2_add (pd_var (pv 1)) pd_int) pda_nil))) pd_int) pda_nil)) (by rfl))
    (pdss_cons (pds_set (i := 7) sc_law_numbers.nd rfl (Or.inl rfl) (pd_op (ko_add (K := K) rfl) s2_add (pd_op (ko_add (K := K) rfl) s2_add (pd_var (pv 1)) (pd_var (pv 3))) (pd_ifExp (pdt_cmp (ko_eq (K := K) rfl hu) s2_eq (pd_var (pv 2)) pd_str (nomark _)) (pd_var (pv 6)) pd_int)))
    (pdss_cons (pds_set (i := 8) sc_law_numbers.nd rfl (Or.inl rfl) (pd_op (ko_add (K := K) rfl) s2_add pd_int (kd_call rfl F0 (hr.mono (by first | decide | exact Nat.le_refl _ | omega)) (by rfl) m0 kp0 b0 v0 r0 (pda_cons (pd_var (pv 0)) (pda_cons (pd_var (pv 1)) pda_nil)))))
    (pdss_cons (pds_set (i := 9) sc_law_numbers.nd rfl (Or.inl rfl) (pd_callB (call_max2 rfl) sc_max2 (by rfl) T.n_max (by decide +kernel) (pda_cons pd_int (pda_cons (pd_callB (call_min2 rfl) sc_min2 (by rfl) T.n_min (by decide +kernel) (pda_cons (pd_var (pv 1)) (pda_cons (kd_call rfl F1 (hr.mono (by first | decide | exact Nat.le_refl _ | omega)) (by rfl) m1 kp1 b1 v1 r1 (pda_cons (pd_var (pv 0)) (pda_cons (pd_lst (pda_cons (pd_op op_fdiv s2_fdiv (pd_op (ko_add (K := K) rfl) s2_add (pd_var (pv 1)) (pd_var (pv 3))) pd_int) (pda_cons (pd_op (ko_add (K := K) rfl) s2_add (pd_op op_fdiv s2_fdiv (pd_op (ko_add (K := K) rfl) s2_add (pd_var (pv 1)) (pd_var (pv 3))) pd_int) pd_int) (pda_cons (pd_op (ko_add (K := K) rfl) s2_add pd_int (kd_call rfl F0 (hr.mono (by first | decide | exact Nat.le_refl _ | omega)) (by rfl) m0 kp0 b0 v0 r0 (pda_cons (pd_var (pv 0)) (pda_cons (pd_var (pv 1)) pda_nil)))) pda_nil)))) pda_nil))) pda_nil))) pda_nil))))
    (pdss_cons (pds_set (i := 10) sc_law_numbers.nd rfl (Or.inl rfl) (pd_callB (call_max2 rfl) sc_max2 (by rfl) T.n_max (by decide +kernel) (pda_cons pd_int (pda_cons (pd_callB (call_min2 rfl) sc_min2 (by rfl) T.n_min (by decide +kernel) (pda_cons (pd_var (pv 1)) (pda_cons (kd_call rfl F1 (hr.mono (by first | decide | exact Nat.le_refl _ | omega)) (by rfl) m1 kp1 b1 v1 r1 (pda_cons (pd_var (pv 0)) (pda_cons (pd_lst (pda_cons (pd_op op_sub s2_sub (pd_var (pv 7)) (pd_var (pv 8))) (pda_cons (pd_op (ko_add (K := K) rfl) s2_add (pd_op op_sub s2_sub (pd_var (pv 7)) (pd_var (pv 8))) pd_int) (pda_cons (pd_op (ko_add (K := K) rfl) s2_add pd_int (kd_call rfl F0 (hr.mono (by first | decide | exact Nat.le_refl _ | omega)) (by rfl) m0 kp0 b0 v0 r0 (pda_cons (pd_var (pv 0)) (pda_cons (pd_var (pv 1)) pda_nil)))) pda_nil)))) pda_nil))) pda_nil))) pda_nil))))
    (pdss_one (pds_ret (pd_tup (pda_cons (pd_tup (pda_cons (pd_var (pv 1)) (pda_cons (pd_var (pv 3)) (pda_cons (pd_var (pv 5)) (pda_cons (pd_var (pv 4)) (pda_cons (pd_var (pv 9)) (pda_cons (pd_var (pv 8)) (pda_cons (pd_var (pv 10)) pda_nil)))))))) (pda_cons (pd_var (pv 6)) pda_nil)))))))))))⟩
theorem ok_law_numbers {S_law_draw : DSp} {S_law_pick : DSp} {S : DSp} (T : Txt K mg C_Numbers) (c0 : Callee P w K mg base 1 "_law_draw" ["heap", "many"] S_law_draw []) (c1 : Callee P w K mg base 2 "_law_pick" ["heap", "some"] S_law_pick []) {f : Addr} {fd : FuncData} {dvs0 : List V} (F : FunD K "_law_numbers" "_law_numbers" (defArgs s_law_numbers) (defBody s_law_numbers) (defScope s_law_numbers) dvs0 [] f fd)
    (len : ∀ ds M Q, S ds M Q → ds.length = 3) (sem : ∀ ds M Q, S ds M Q → (b_law_numbers S_law_draw S_law_pick) { nx := fun _ M => Q .non M, rt := Q } (startD N_law_numbers ds) M) : FnOk P w K mg base CX0 3 f fd ["heap", "k", "manner"] (spD K S) :=
  fn_d F sc_law_numbers len (fun cdv A outer s H E hr => w_law_numbers T c0 c1 cdv A outer s H E hr) sem
/-- _law_made -/
def b_law_made (C_Numbers : Addr) (S_Numbers_init : DSp) : TDS :=
  (dRet (dMake C_Numbers S_Numbers_init [] (dCons (dOp ixD (dVar 0) (dC (.int 0))) (dCons (dOp ixD (dVar 0) (dC (.int 1))) (dCons (dOp ixD (dVar 0) (dC (.int 2))) (dCons (dOp ixD (dVar 0) (dC (.int 3))) (dCons (dOp ixD (dVar 0) (dC (.int 4))) (dCons (dOp ixD (dVar 0) (dC (.int 5))) (dCons (dOp ixD (dVar 0) (dC (.int 6))) dNil)))))))))
theorem w_law_made {S_Numbers_init : DSp} (T : Txt K mg C_Numbers) (c0 : CalleeC P w K mg base 3 "Numbers" C_Numbers ["self", "k", "f", "d", "a", "w1", "w2", "c"] S_Numbers_init []) {f : Addr} (cdv : Value) (A : Around) (outer : List Env) (s : Shared) (H : Hp) (E : XK) (hr : Room 4 (A.deeper (envOfC "_law_made" (defScope s_law_made) s.heap.objs.size f cdv))) :
    ∃ t, PDSs (cxOf CX0 P w K mg base N_law_made "_law_made" (defScope s_law_made) f cdv A outer s H E).nox (defBody s_law_made) t (b_law_made C_Numbers S_Numbers_init) := by
  have hu := hu64 hr
  obtain ⟨f0, fd0, ds0, dvs0, M0, F0, m0, b0, v0, r0⟩ := c0.ex
  exact ⟨_, (pdss_one (pds_ret (kd_make rfl M0 F0 (hr.mono (by first | decide | exact Nat.le_refl _ | omega)) (by rfl) m0 b0 v0 r0 (pda_cons (pd_ix (kix (K := K) rfl) s2_ix (pd_var (pv 0)) pd_int (fun _ _ => rfl)) (pda_cons (pd_ix (kix (K := K) rfl) s2_ix (pd_var (pv 0)) pd_int (fun _ _ => rfl)) (pda_cons (pd_ix (kix (K := K) rfl) s2_ix (pd_var (pv 0)) pd_int (fun _ _ => rfl)) (pda_cons (pd_ix (kix (K := K) rfl) s2_ix (pd_var (pv 0)) pd_int (fun _ _ => rfl)) (pda_cons (pd_ix (kix (K := K) rfl) s2_ix (pd_var (pv 0)) pd_int (fun _ _ => rfl)) (pda_cons (pd_ix (kix (K := K) rfl) s2_ix (pd_var (pv 0)) pd_int (fun _ _ => rfl)) (pda_cons (pd_ix (kix (K := K) rfl) s2_ix (pd_var (pv 0)) pd_int (fun _ _ => rfl)) pda_nil))))))))))⟩
theorem ok_law_made {S_Numbers_init : DSp} {S : DSp} (T : Txt K mg C_Numbers) (c0 : CalleeC P w K mg base 3 "Numbers" C_Numbers ["self", "k", "f", "d", "a", "w1", "w2", "c"] S_Numbers_init []) {f : Addr} {fd : FuncData} {dvs0 : List V} (F : FunD K "_law_made" "_law_made" (defArgs s_law_made) (defBody s_law_made) (defScope s_law_made) dvs0 [] f fd)
    (len : ∀ ds M Q, S ds M Q → ds.length = 1) (sem : ∀ ds M Q, S ds M Q → (b_law_made C_Numbers S_Numbers_init) { nx := fun _ M => Q .non M, rt := Q } (startD N_law_made ds) M) : FnOk P w K mg base CX0 5 f fd ["parts"] (spD K S) :=
  fn_d F sc_law_made len (fun cdv A outer s H E hr => w_law_made T c0 cdv A outer s H E hr) sem
/-- _law_lots -/
def b_law_lots : TDS :=
  (dSeq (dAsg (dLst (dCons (dTup dNil) dNil)) (dgName 2))
    (dSeq (dFor (diAny (dVar 0)) (dgName 3)
    (dAsg (dOp addD (dVar 2) (dLc (diAny (dVar 2)) (dgName 4) (dTest (dOp ltD (dCB lenD (dCons (dVar 4) dNil)) (dVar 1))) (dOp addD (dVar 4) (dTup (dCons (dVar 3) dNil))) [4])) (dgName 2)))
    (dRet (dLc (diAny (dVar 2)) (dgName 4) (dTest (dOp eqD (dCB lenD (dCons (dVar 4) dNil)) (dVar 1))) (dVar 4) [4]))))
theorem w_law_lots (T : Txt K mg C_Numbers)  {f : Addr} (cdv : Value) (A : Around) (outer : List Env) (s : Shared) (H : Hp) (E : XK) (hr : Room 0 (A.deeper (envOfC "_law_lots" (defScope s_law_lots) s.heap.objs.size f cdv))) :
    ∃ t, PDSs (cxOf CX0 P w K mg base N_law_lots "_law_lots" (defScope s_law_lots) f cdv A outer s H E).nox (defBody s_law_lots) t (b_law_lots) := by
  have hu := hu64 hr
  exact ⟨_, (pdss_cons (pds_set (i := 2) sc_law_lots.nd rfl (Or.inl rfl) (pd_lst (pda_cons (pd_tup pda_nil) pda_nil)))
    (pdss_cons (pds_for PassesOwn.never rfl (kdi_any (K := K) rfl (pd_var (pv 0))) (pdg_name (pg_name (i := 3) sc_law_lots.nd rfl (Or.inr rfl)))
    (pdss_one (pds_set (i := 2) sc_law_lots.nd rfl (Or.inl rfl) (pd_op (ko_add (K := K) rfl) s2_add (pd_var (pv 2)) (pd_lc rfl sc_law_lots.nd (kdi_any (K := K) rfl (pd_var (pv 2))) (blkOk_by (N := N_law_lots) (sc := defScope s_law_lots) (own := [("one", 4)]) (by decide +kernel)) rfl (fun _ _ _ _ _ => (pdg_name (pg_name (i := 4) sc_law_lots.nd rfl (by first | exact Or.inl rfl | exact Or.inr rfl)))) (wr_name (by decide)) (fun _ _ _ _ _ => (pdts_one (pdt_cmp oop_lt s2_lt (pd_callB (kc_len (K := K) rfl) ks_len (by rfl) T.n_len (by decide +kernel) (pda_cons (pd_var (pv 4)) pda_nil)) (pd_var (pv 1)) (nomark _)))) (fun _ _ _ _ _ => (pd_op (ko_add (K := K) rfl) s2_add (pd_var (pv 4)) (pd_tup (pda_cons (pd_var (pv 3)) pda_nil)))))))))
    (pdss_one (pds_ret (pd_lc rfl sc_law_lots.nd (kdi_any (K := K) rfl (pd_var (pv 2))) (blkOk_by (N := N_law_lots) (sc := defScope s_law_lots) (own := [("one", 4)]) (by decide +kernel)) rfl (fun _ _ _ _ _ => (pdg_name (pg_name (i := 4) sc_law_lots.nd rfl (by first | exact Or.inl rfl | exact Or.inr rfl)))) (wr_name (by decide)) (fun _ _ _ _ _ => (pdts_one (pdt_cmp (ko_eq (K := K) rfl hu) s2_eq (pd_callB (kc_len (K := K) rfl) ks_len (by rfl) T.n_len (by decide +kernel) (pda_cons (pd_var (pv 4)) pda_nil)) (pd_var (pv 1)) (nomark _)))) (fun _ _ _ _ _ => (pd_var (pv 4))))))))⟩
theorem ok_law_lots {S : DSp} (T : Txt K mg C_Numbers)  {f : Addr} {fd : FuncData} {dvs0 : List V} (F : FunD K "_law_lots" "_law_lots" (defArgs s_law_lots) (defBody s_law_lots) (defScope s_law_lots) dvs0 [] f fd)
    (len : ∀ ds M Q, S ds M Q → ds.length = 2) (sem : ∀ ds M Q, S ds M Q → (b_law_lots) { nx := fun _ M => Q .non M, rt := Q } (startD N_law_lots ds) M) : FnOk P w K mg base CX0 1 f fd ["lot", "many"] (spD K S) :=
  fn_d F sc_law_lots len (fun cdv A outer s H E hr => w_law_lots T cdv A outer s H E hr) sem
/-- _law_fewest -/
def b_law_fewest : TDS :=
  (dSeq (dAsg (dLc (diAny (dVar 1)) (dgName 4) dYes (dLc (diAny (dVar 4)) (dgName 5) (dTest (dOp notInD (dVar 5) (dVar 2))) (dVar 5) [5]) [4]) (dgName 3))
    (dRet (dCB minLD (dCons (dLc (diAny (dVar 0)) (dgName 6) dYes (dCB minLD (dCons (dLc (diAny (dVar 3)) (dgName 4) dYes (dCB lenD (dCons (dLc (diAny (dVar 6)) (dgName 5) (dTest (dOp inD (dVar 5) (dVar 4))) (dVar 5) [5]) dNil)) [4]) dNil)) [6]) dNil))))
theorem w_law_fewest (T : Txt K mg C_Numbers)  {f : Addr} (cdv : Value) (A : Around) (outer : List Env) (s : Shared) (H : Hp) (E : XK) (hr : Room 0 (A.deeper (envOfC "_law_fewest" (defScope s_law_fewest) s.heap.objs.size f cdv))) :
    ∃ t, PDSs (cxOf CX0 P w K mg base N_law_fewest "_law_fewest" (defScope s_law_fewest) f cdv A outer s H E).nox (defBody s_law_fewest) t (b_law_fewest) := by
  have hu := hu64 hr
  exact ⟨_, (pdss_cons (pds_set (i := 3) sc_law_fewest.nd rfl (Or.inr rfl) (pd_lc rfl sc_law_fewest.nd (kdi_any (K := K) rfl (pd_var (pv 1))) (blkOk_by (N := N_law_fewest) (sc := defScope s_law_fewest) (own := [("lot", 4)]) (by decide +kernel)) rfl (fun _ _ _ _ _ => (pdg_name (pg_name (i := 4) sc_law_fewest.nd rfl (by first | exact Or.inl rfl | exact Or.inr rfl)))) (wr_name (by decide)) (fun _ _ _ _ _ => pdts_nil) (fun _ _ _ _ _ => (pd_lc rfl sc_law_fewest.nd (kdi_any (K := K) rfl (pd_var (pv 4))) (blkOk_by (N := N_law_fewest) (sc := (relS _ (defScope s_law_fewest))) (own := [("house", 5)]) (by decide +kernel)) rfl (fun _ _ _ _ _ => (pdg_name (pg_name (i := 5) sc_law_fewest.nd rfl (by first | exact Or.inl rfl | exact Or.inr rfl)))) (wr_name (by decide)) (fun _ _ _ _ _ => (pdts_one (pdt_cmp (ko_notIn (K := K) rfl) s2_notIn (pd_var (pv 5)) (pd_var (pv 2)) (by rfl)))) (fun _ _ _ _ _ => (pd_var (pv 5)))))))
    (pdss_one (pds_ret (pd_callB (kc_min (K := K) rfl rfl) sc_minL (by rfl) T.n_min (by decide +kernel) (pda_cons (pd_lc rfl sc_law_fewest.nd (kdi_any (K := K) rfl (pd_var (pv 0))) (blkOk_by (N := N_law_fewest) (sc := defScope s_law_fewest) (own := [("one", 6)]) (by decide +kernel)) rfl (fun _ _ _ _ _ => (pdg_name (pg_name (i := 6) sc_law_fewest.nd rfl (by first | exact Or.inl rfl | exact Or.inr rfl)))) (wr_name (by decide)) (fun _ _ _ _ _ => pdts_nil) (fun _ _ _ _ _ => (pd_callB (kc_min (K := K) rfl rfl) sc_minL (by rfl) T.n_min (by decide +kernel) (pda_cons (pd_lc rfl sc_law_fewest.nd (kdi_any (K := K) rfl (pd_var (pv 3))) (blkOk_by (N := N_law_fewest) (sc := (relS _ (defScope s_law_fewest))) (own := [("lot", 4)]) (by decide +kernel)) rfl (fun _ _ _ _ _ => (pdg_name (pg_name (i := 4) sc_law_fewest.nd rfl (by first | exact Or.inl rfl | exact Or.inr rfl)))) (wr_name (by decide)) (fun _ _ _ _ _ => pdts_nil) (fun _ _ _ _ _ => (pd_callB (kc_len (K := K) rfl) ks_len (by rfl) T.n_len (by decide +kernel) (pda_cons (pd_lc rfl sc_law_fewest.nd (kdi_any (K := K) rfl (pd_var (pv 6))) (blkOk_by (N := N_law_fewest) (sc := (relS _ ((relS _ (defScope s_law_fewest))))) (own := [("house", 5)]) (by decide +kernel)) rfl (fun _ _ _ _ _ => (pdg_name (pg_name (i := 5) sc_law_fewest.nd rfl (by first | exact Or.inl rfl | exact Or.inr rfl)))) (wr_name (by decide)) (fun _ _ _ _ _ => (pdts_one (pdt_cmp (ko_in (K := K) rfl) s2_in (pd_var (pv 5)) (pd_var (pv 4)) (by rfl)))) (fun _ _ _ _ _ => (pd_var (pv 5)))) pda_nil)))) pda_nil)))) pda_nil)))))⟩
theorem ok_law_fewest {S : DSp} (T : Txt K mg C_Numbers)  {f : Addr} {fd : FuncData} {dvs0 : List V} (F : FunD K "_law_fewest" "_law_fewest" (defArgs s_law_fewest) (defBody s_law_fewest) (defScope s_law_fewest) dvs0 [] f fd)
    (len : ∀ ds M Q, S ds M Q → ds.length = 3) (sem : ∀ ds M Q, S ds M Q → (b_law_fewest) { nx := fun _ M => Q .non M, rt := Q } (startD N_law_fewest ds) M) : FnOk P w K mg base CX0 1 f fd ["rows", "others", "liars"] (spD K S) :=
  fn_d F sc_law_fewest len (fun cdv A outer s H E hr => w_law_fewest T cdv A outer s H E hr) sem
/-- _law_sums_right -/
def b_law_sums_right (S_law_made : DSp) (S_needed_apart : DSp) (S_taken_slack : DSp) (S_shown_slack : DSp) (S_law_like : DSp) (S_least_apart : DSp) (S_kinds_of : DSp) : TDS :=
  (dSeq (dAsg (dVar 0) (dgTup 7 (dgCons (dgName 3) (dgCons (dgName 4) (dgCons (dgName 5) (dgCons (dgName 6) (dgCons (dgName 7) (dgCons (dgName 8) (dgCons (dgName 9) dgNil)))))))))
    (dSeq (dPar [10, 11] (dCons (dCall S_law_made [] (dCons (dVar 0) dNil)) (dCons (dIf (dTest (dOp eqD (dVar 1) (dC (.str "any")))) (dVar 2) (dC (.int 0))) dNil)))
    (dSeq (dAsg (dTup (dCons (dCall S_shown_slack [] (dCons (dVar 10) (dCons (dVar 1) (dCons (dVar 2) dNil)))) (dCons (dCall S_taken_slack [] (dCons (dVar 10) dNil)) (dCons (dCall S_needed_apart [] (dCons (dVar 10) dNil)) dNil)))) (dgName 12))
    (dSeq (dIfS (dNot (dTest (dCall S_law_like [] (dCons (dVar 12) (dCons (dTup (dCons (dOp subD (dOp subD (dOp subD (dOp addD (dVar 9) (dVar 8)) (dVar 3)) (dVar 4)) (dVar 11)) (dCons (dOp subD (dOp subD (dOp mulD (dC (.int 2)) (dVar 7)) (dVar 3)) (dVar 4)) (dCons (dCB max2D (dCons (dC (.int 0)) (dCons (dOp subD (dOp subD (dOp addD (dVar 9) (dVar 8)) (dVar 3)) (dVar 4)) dNil))) dNil)))) dNil)))))
    (dRet (dC (.bl false)))
    dNext)
    (dSeq (dAsg (dOp addD (dOp mulD (dLst (dCons (dC (.str "papers")) dNil)) (dCB intD (dCons (dAndV (dOp gtD (dVar 4) (dC (.int 0))) (dOp leD (dOp mulD (dC (.int 2)) (dVar 7)) (dOp addD (dVar 3) (dVar 4)))) dNil))) (dOp mulD (dLst (dCons (dC (.str "unseen")) dNil)) (dCB intD (dCons (dOp leD (dOp addD (dVar 9) (dVar 8)) (dOp addD (dOp addD (dVar 3) (dVar 4)) (dVar 11))) dNil)))) (dgName 13))
    (dSeq (dAsg (dIf (dTest (dOp eqD (dVar 13) (dLst dNil))) (dC .non) (dIf (dTest (dOp eqD (dOp ixD (dVar 13) (dC (.int 0))) (dC (.str "papers")))) (dC (.int 0)) (dCB max2D (dCons (dC (.int 0)) (dCons (dOp subD (dOp subD (dOp addD (dVar 9) (dVar 8)) (dVar 3)) (dVar 4)) dNil))))) (dgName 14))
    (dRet (dCall S_law_like [] (dCons (dTup (dCons (dCall S_kinds_of [] (dCons (dVar 10) (dCons (dVar 1) (dCons (dVar 2) dNil)))) (dCons (dCallN S_least_apart [2, 1, 0] 0 (List.length (["spread", "manner", "numbers"] : List Str)) [] dNil (dCons (dVar 2) (dCons (dVar 1) (dCons (dVar 10) dNil)))) dNil))) (dCons (dTup (dCons (dCB tupleD (dCons (dVar 13) dNil)) (dCons (dVar 14) dNil))) dNil))))))))))
theorem w_law_sums_right {S_law_made : DSp} {S_needed_apart : DSp} {S_taken_slack : DSp} {S_shown_slack : DSp} {S_law_like : DSp} {S_least_apart : DSp} {S_kinds_of : DSp} (T : Txt K mg C_Numbers) (c0 : Callee P w K mg base 5 "_law_made" ["parts"] S_law_made []) (c1 : Callee P w K mg base 1 "needed_apart" ["numbers"] S_needed_apart []) (c2 : Callee P w K mg base 1 "taken_slack" ["numbers"] S_taken_slack []) (c3 : Callee P w K mg base 3 "shown_slack" ["numbers", "manner", "spread"] S_shown_slack []) (c4 : Callee P w K mg base 6 "_law_like" ["told", "due"] S_law_like []) (c5 : CalleeN P w K mg base 5 "least_apart" ["numbers", "manner", "spread"] S_least_apart 0 ["spread", "manner", "numbers"] [2, 1, 0] []) (c6 : Callee P w K mg base 4 "kinds_of" ["numbers", "manner", "spread"] S_kinds_of []) {f : Addr} (cdv : Value) (A : Around) (outer : List Env) (s : Shared) (H : Hp) (E : XK) (hr : Room 6 (A.deeper (envOfC "_law_sums_right" (defScope s_law_sums_right) s.heap.objs.size f cdv))) :
    ∃ t, PDSs (cxOf CX0 P w K mg base N_law_sums_right "_law_sums_right" (defScope s_law_sums_right) f cdv A outer s H E).nox (defBody s_law_sums_right) t (b_law_sums_right S_law_made S_needed_apart S_taken_slack S_shown_slack S_law_like S_least_apart S_kinds_of) := by
  have hu := hu64 hr
  obtain ⟨f0, fd0, ds0, dvs0, F0, m0, kp0, b0, v0, r0⟩ := c0.ex
  obtain ⟨f1, fd1, ds1, dvs1, F1, m1, kp1, b1, v1, r1⟩ := c1.ex
  obtain ⟨f2, fd2, ds2, dvs2, F2, m2, kp2, b2, v2, r2⟩ := c2.ex
  obtain ⟨f3, fd3, ds3, dvs3, F3, m3, kp3, b3, v3, r3⟩ := c3.ex
  obtain ⟨f4, fd4, ds4, dvs4, F4, m4, kp4, b4, v4, r4⟩ := c4.ex
  obtain ⟨f5, fd5, its5, dvs5, F5, m5, kp5, b5, r5⟩ := c5.ex
  obtain ⟨f6, fd6, ds6, dvs6, F6, m6, kp6, b6, v6, r6⟩ := c6.ex
  exact ⟨_, (pdss_cons (pds_asg (pd_var (pv 0)) (kdg_tup (K := K) rfl rfl (pdgs_cons (pdg_name (pg_name (i := 3) sc_law_sums_right.nd rfl (Or.inl rfl))) (pdgs_cons (pdg_name (pg_name (i := 4) sc_law_sums_right.nd rfl (Or.inl rfl))) (pdgs_cons (pdg_name (pg_name (i := 5) sc_law_sums_right.nd rfl (Or.inl rfl))) (pdgs_cons (pdg_name (pg_name (i := 6) sc_law_sums_right.nd rfl (Or.inl rfl))) (pdgs_cons (pdg_name (pg_name (i := 7) sc_law_sums_right.nd rfl (Or.inl rfl))) (pdgs_cons (pdg_name (pg_name (i := 8) sc_law_sums_right.nd rfl (Or.inl rfl))) (pdgs_cons (pdg_name (pg_name (i := 9) sc_law_sums_right.nd rfl (Or.inl rfl))) pdgs_nil)))))))))
    (pdss_cons (pds_par' (i := 10) (j := 11) rfl sc_law_sums_right.nd rfl rfl (by decide) rfl rfl (pda_cons (kd_call rfl F0 (hr.mono (by first | decide | exact Nat.le_refl _ | omega)) (by rfl) m0 kp0 b0 v0 r0 (pda_cons (pd_var (pv 0)) pda_nil)) (pda_cons (pd_ifExp (pdt_cmp (ko_eq (K := K) rfl hu) s2_eq (pd_var (pv 1)) pd_str (nomark _)) (pd_var (pv 2)) pd_int) pda_nil)) (by rfl))
    (pdss_cons (pds_set (i := 12) sc_law_sums_right.nd rfl (Or.inl rfl) (pd_tup (pda_cons (kd_call rfl F3 (hr.mono (by first | decide | exact Nat.le_refl _ | omega)) (by rfl) m3 kp3 b3 v3 r3 (pda_cons (pd_var (pv 10)) (pda_cons (pd_var (pv 1)) (pda_cons (pd_var (pv 2)) pda_nil)))) (pda_cons (kd_call rfl F2 (hr.mono (by first | decide | exact Nat.le_refl _ | omega)) (by rfl) m2 kp2 b2 v2 r2 (pda_cons (pd_var (pv 10)) pda_nil)) (pda_cons (kd_call rfl F1 (hr.mono (by first | decide | exact Nat.le_refl _ | omega)) (by rfl) m1 kp1 b1 v1 r1 (pda_cons (pd_var (pv 10)) pda_nil)) pda_nil)))))
    (pdss_cons (pds_if (pdt_not (pdt_val (kd_call rfl F4 (hr.mono (by first | decide | exact Nat.le_refl _ | omega)) (by rfl) m4 kp4 b4 v4 r4 (pda_cons (pd_var (pv 12)) (pda_cons (pd_tup (pda_cons (pd_op op_sub s2_sub (pd_op op_sub s2_sub (pd_op op_sub s2_sub (pd_op (ko_add (K := K) rfl) s2_add (pd_var (pv 9)) (pd_var (pv 8))) (pd_var (pv 3))) (pd_var (pv 4))) (pd_var (pv 11))) (pda_cons (pd_op op_sub s2_sub (pd_op op_sub s2_sub (pd_op oop_mul s2_mul pd_int (pd_var (pv 7))) (pd_var (pv 3))) (pd_var (pv 4))) (pda_cons (pd_callB (call_max2 rfl) sc_max2 (by rfl) T.n_max (by decide +kernel) (pda_cons pd_int (pda_cons (pd_op op_sub s2_sub (pd_op op_sub s2_sub (pd_op (ko_add (K := K) rfl) s2_add (pd_var (pv 9)) (pd_var (pv 8))) (pd_var (pv 3))) (pd_var (pv 4))) pda_nil))) pda_nil)))) pda_nil)))))
    (pdss_one (pds_ret pd_bl))
    pdss_nil)
    (pdss_cons (pds_set (i := 13) sc_law_sums_right.nd rfl (Or.inl rfl) (pd_op (ko_add (K := K) rfl) s2_add (pd_op oop_mul s2_mul (pd_lst (pda_cons pd_str pda_nil)) (pd_callTy call_int1 sc_int (by rfl) T.n_int (by decide +kernel) (pda_cons (pd_and (pd_cmp oop_gt s2_gt (pd_var (pv 4)) pd_int (nomark _)) (pd_one (pd_cmp oop_le s2_le (pd_op oop_mul s2_mul pd_int (pd_var (pv 7))) (pd_op (ko_add (K := K) rfl) s2_add (pd_var (pv 3)) (pd_var (pv 4))) (nomark _)))) pda_nil))) (pd_op oop_mul s2_mul (pd_lst (pda_cons pd_str pda_nil)) (pd_callTy call_int1 sc_int (by rfl) T.n_int (by decide +kernel) (pda_cons (pd_cmp oop_le s2_le (pd_op (ko_add (K := K) rfl) s2_add (pd_var (pv 9)) (pd_var (pv 8))) (pd_op (ko_add (K := K) rfl) s2_add (pd_op (ko_add (K := K) rfl) s2_add (pd_var (pv 3)) (pd_var (pv 4))) (pd_var (pv 11))) (nomark _)) pda_nil)))))
    (pdss_cons (pds_set (i := 14) sc_law_sums_right.nd rfl (Or.inl rfl) (pd_ifExp (pdt_cmp (ko_eq (K := K) rfl hu) s2_eq (pd_var (pv 13)) (pd_lst pda_nil) (nomark _)) pd_non (pd_ifExp (pdt_cmp (ko_eq (K := K) rfl hu) s2_eq (pd_ix (kix (K := K) rfl) s2_ix (pd_var (pv 13)) pd_int (fun _ _ => rfl)) pd_str (nomark _)) pd_int (pd_callB (call_max2 rfl) sc_max2 (by rfl) T.n_max (by decide +kernel) (pda_cons pd_int (pda_cons (pd_op op_sub s2_sub (pd_op op_sub s2_sub (pd_op (ko_add (K := K) rfl) s2_add (pd_var (pv 9)) (pd_var (pv 8))) (pd_var (pv 3))) (pd_var (pv 4))) pda_nil))))))
    (pdss_one (pds_ret (kd_call rfl F4 (hr.mono (by first | decide | exact Nat.le_refl _ | omega)) (by rfl) m4 kp4 b4 v4 r4 (pda_cons (pd_tup (pda_cons (kd_call rfl F6 (hr.mono (by first | decide | exact Nat.le_refl _ | omega)) (by rfl) m6 kp6 b6 v6 r6 (pda_cons (pd_var (pv 10)) (pda_cons (pd_var (pv 1)) (pda_cons (pd_var (pv 2)) pda_nil)))) (pda_cons (kd_callN0 rfl F5 (hr.mono (by first | decide | exact Nat.le_refl _ | omega)) (by rfl) m5 kp5 b5 r5 (pdk_cons (pd_var (pv 2)) (pdk_cons (pd_var (pv 1)) (pdk_cons (pd_var (pv 10)) pdk_nil)))) pda_nil))) (pda_cons (pd_tup (pda_cons (pd_callTy (kc_tuple (K := K) rfl) ks_tuple (by rfl) T.n_tuple (by decide +kernel) (pda_cons (pd_var (pv 13)) pda_nil)) (pda_cons (pd_var (pv 14)) pda_nil))) pda_nil)))))))))))⟩
theorem ok_law_sums_right {S_law_made : DSp} {S_needed_apart : DSp} {S_taken_slack : DSp} {S_shown_slack : DSp} {S_law_like : DSp} {S_least_apart : DSp} {S_kinds_of : DSp} {S : DSp} (T : Txt K mg C_Numbers) (c0 : Callee P w K mg base 5 "_law_made" ["parts"] S_law_made []) (c1 : Callee P w K mg base 1 "needed_apart" ["numbers"] S_needed_apart []) (c2 : Callee P w K mg base 1 "taken_slack" ["numbers"] S_taken_slack []) (c3 : Callee P w K mg base 3 "shown_slack" ["numbers", "manner", "spread"] S_shown_slack []) (c4 : Callee P w K mg base 6 "_law_like" ["told", "due"] S_law_like []) (c5 : CalleeN P w K mg base 5 "least_apart" ["numbers", "manner", "spread"] S_least_apart 0 ["spread", "manner", "numbers"] [2, 1, 0] []) (c6 : Callee P w K mg base 4 "kinds_of" ["numbers", "manner", "spread"] S_kinds_of []) {f : Addr} {fd : FuncData} {dvs0 : List V} (F : FunD K "_law_sums_right" "_law_sums_right" (defArgs s_law_sums_right) (defBody s_law_sums_right) (defScope s_law_sums_right) dvs0 [] f fd)
    (len : ∀ ds M Q, S ds M Q → ds.length = 3) (sem : ∀ ds M Q, S ds M Q → (b_law_sums_right S_law_made S_needed_apart S_taken_slack S_shown_slack S_law_like S_least_apart S_kinds_of) { nx := fun _ M => Q .non M, rt := Q } (startD N_law_sums_right ds) M) : FnOk P w K mg base CX0 7 f fd ["parts", "manner", "most"] (spD K S) :=
  fn_d F sc_law_sums_right len (fun cdv A outer s H E hr => w_law_sums_right T c0 c1 c2 c3 c4 c5 c6 cdv A outer s H E hr) sem
/-- _law_small -/
def b_law_small (C_Numbers : Addr) (S_law_draw : DSp) (S_Numbers_init : DSp) (S_law_lots : DSp) (S_law_fewest : DSp) (S_taken_slack : DSp) (S_needed_apart : DSp) (S_kinds_of : DSp) : TDS :=
  (dSeq (dAsg (dOp addD (dC (.int 1)) (dCall S_law_draw [] (dCons (dVar 0) (dCons (dC (.int 4)) dNil)))) (dgName 1))
    (dSeq (dPar [2, 3] (dCons (dCall S_law_draw [] (dCons (dVar 0) (dCons (dVar 1) dNil))) (dCons (dCall S_law_draw [] (dCons (dVar 0) (dCons (dOp addD (dVar 1) (dC (.int 1))) dNil))) dNil)))
    (dSeq (dPar [4, 5, 6] (dCons (dOp addD (dC (.int 1)) (dCall S_law_draw [] (dCons (dVar 0) (dCons (dVar 1) dNil)))) (dCons (dOp addD (dC (.int 1)) (dCall S_law_draw [] (dCons (dVar 0) (dCons (dVar 1) dNil)))) (dCons (dOp addD (dC (.int 1)) (dCall S_law_draw [] (dCons (dVar 0) (dCons (dVar 1) dNil)))) dNil))))
    (dSeq (dPar [7, 8] (dCons (dTupRg1 (dVar 1)) (dCons (dTupRg2 (dVar 3) (dOp addD (dVar 1) (dVar 3))) dNil)))
    (dSeq (dPar [9, 10, 11] (dCons (dMake C_Numbers S_Numbers_init [] (dCons (dVar 1) (dCons (dVar 2) (dCons (dC (.int 1)) (dCons (dC (.int 1)) (dCons (dVar 4) (dCons (dVar 5) (dCons (dVar 6) dNil)))))))) (dCons (dLstM dNil) (dCons (dLstM dNil) dNil))))
    (dSeq (dFor (diAny (dCall S_law_lots [] (dCons (dVar 7) (dCons (dVar 2) dNil)))) (dgName 12)
    (dSeq (dAsg (dCall S_law_lots [] (dCons (dVar 7) (dCons (dVar 4) dNil))) (dgName 13))
    (dSeq (dDrop (dBM appD (dVar 10) (dCons (dCall S_law_fewest [] (dCons (dVar 13) (dCons (dVar 13) (dCons (dVar 12) dNil)))) dNil)))
    (dDrop (dBM appD (dVar 11) (dCons (dCall S_law_fewest [] (dCons (dCall S_law_lots [] (dCons (dVar 7) (dCons (dVar 5) dNil))) (dCons (dCall S_law_lots [] (dCons (dVar 8) (dCons (dVar 6) dNil))) (dCons (dVar 12) dNil)))) dNil))))))
    (dSeq (dIfS (dTest (dOp neD (dOp gtD (dCB minLD (dCons (dVar 10) dNil)) (dC (.int 0))) (dOp gtD (dCall S_taken_slack [] (dCons (dVar 9) dNil)) (dC (.int 0)))))
    (dRet (dC (.bl false)))
    dNext)
    (dSeq (dIfS (dAnd (dTest (dOp neD (dOp gtD (dCB minLD (dCons (dVar 11) dNil)) (dC (.int 0))) (dOp ltD (dVar 3) (dCall S_needed_apart [] (dCons (dVar 9) dNil))))) (dTest (dOp geD (dOp subD (dVar 1) (dVar 3)) (dVar 2))))
    (dRet (dC (.bl false)))
    dNext)
    (dSeq (dAsg (dCall S_kinds_of [] (dCons (dVar 9) (dCons (dC (.str "any")) (dCons (dVar 3) dNil)))) (dgName 14))
    (dSeq (dIfS (dOr (dNot (dTest (dCB isiD (dCons (dVar 14) (dCons (dC (.ty "tuple")) dNil))))) (dTest (dOp neD (dOp inD (dC (.str "unseen")) (dVar 14)) (dOp leD (dCall S_needed_apart [] (dCons (dVar 9) dNil)) (dVar 3)))))
    (dRet (dC (.bl false)))
    dNext)
    (dRet (dOp eqD (dOp inD (dC (.str "papers")) (dVar 14)) (dAndV (dOp gtD (dVar 2) (dC (.int 0))) (dOp eqD (dCB minLD (dCons (dVar 10) dNil)) (dC (.int 0))))))))))))))))
theorem w_law_small {S_law_draw : DSp} {S_Numbers_init : DSp} {S_law_lots : DSp} {S_law_fewest : DSp} {S_taken_slack : DSp} {S_needed_apart : DSp} {S_kinds_of : DSp} (T : Txt K mg C_Numbers) (c0 : Callee P w K mg base 1 "_law_draw" ["heap", "many"] S_law_draw []) (c1 : CalleeC P w K mg base 3 "Numbers" C_Numbers ["self", "k", "f", "d", "a", "w1", "w2", "c"] S_Numbers_init []) (c2 : Callee P w K mg base 1 "_law_lots" ["lot", "many"] S_law_lots []) (c3 : Callee P w K mg base 1 "_law_fewest" ["rows", "others", "liars"] S_law_fewest []) (c4 : Callee P w K mg base 1 "taken_slack" ["numbers"] S_taken_slack []) (c5 : Callee P w K mg base 1 "needed_apart" ["numbers"] S_needed_apart []) (c6 : Callee P w K mg base 4 "kinds_of" ["numbers", "manner", "spread"] S_kinds_of []) {f : Addr} (cdv : Value) (A : Around) (outer : List Env) (s : Shared) (H : Hp) (E : XK) (hr : Room 4 (A.deeper (envOfC "_law_small" (defScope s_law_small) s.heap.objs.size f cdv))) :
    ∃ t, PDSs (cxOf CX0 P w K mg base N_law_small "_law_small" (defScope s_law_small) f cdv A outer s H E).nox (defBody s_law_small) t (b_law_small C_Numbers S_law_draw S_Numbers_init S_law_lots S_law_fewest S_taken_slack S_needed_apart S_kinds_of) := by
  have hu := hu64 hr
  obtain ⟨f0, fd0, ds0, dvs0, F0, m0, kp0, b0, v0, r0⟩ := c0.ex
  obtain ⟨f1, fd1, ds1, dvs1, M1, F1, m1, b1, v1, r1⟩ := c1.ex
  obtain ⟨f2, fd2, ds2, dvs2, F2, m2, kp2, b2, v2, r2⟩ := c2.ex
  obtain ⟨f3, fd3, ds3, dvs3, F3, m3, kp3, b3, v3, r3⟩ := c3.ex
  obtain ⟨f4, fd4, ds4, dvs4, F4, m4, kp4, b4, v4, r4⟩ := c4.ex
  obtain ⟨f5, fd5, ds5, dvs5, F5, m5, kp5, b5, v5, r5⟩ := c5.ex
  obtain ⟨f6, fd6, ds6, dvs6, F6, m6, kp6, b6, v6, r6⟩ := c6.ex
  exact ⟨_, (pdss_cons (pds_set (i := 1) sc_law_small.nd rfl (Or.inl rfl) (pd_op (ko_add (K := K) rfl) s2_add pd_int (kd_call rfl F0 (hr.mono (by first | decide | exact Nat.le_refl _ | omega)) (by rfl) m0 kp0 b0 v0 r0 (pda_cons (pd_var (pv 0)) (pda_cons pd_int pda_nil)))))
    (pdss_cons (pds_par' (i := 2) (j := 3) rfl sc_law_small.nd rfl rfl (by decide) rfl rfl (pda_cons (kd_call rfl F0 (hr.mono (by first | decide | exact Nat.le_refl _ | omega)) (by rfl) m0 kp0 b0 v0 r0 (pda_cons (pd_var (pv 0)) (pda_cons (pd_var (pv 1)) pda_nil))) (pda_cons (kd_call rfl F0 (hr.mono (by first | decide | exact Nat.le_refl _ | omega)) (by rfl) m0 kp0 b0 v0 r0 (pda_cons (pd_var (pv 0)) (pda_cons (pd_op (ko_add (K := K) rfl) s2_add (pd_var (pv 1)) pd_int) pda_nil))) pda_nil)) (by rfl))
    (pdss_cons (pds_par3' (i := 4) (j := 5) (l := 6) rfl sc_law_small.nd rfl rfl rfl (by decide) (by decide) (by decide) rfl rfl rfl (pda_cons (pd_op (ko_add (K := K) rfl) s2_add pd_int (kd_call rfl F0 (hr.mono (by first | decide | exact Nat.le_refl _ | omega)) (by rfl) m0 kp0 b0 v0 r0 (pda_cons (pd_var (pv 0)) (pda_cons (pd_var (pv 1)) pda_nil)))) (pda_cons (pd_op (ko_add (K := K) rfl) s2_add pd_int (kd_call rfl F0 (hr.mono (by first | decide | exact Nat.le_refl _ | omega)) (by rfl) m0 kp0 b0 v0 r0 (pda_cons (pd_var (pv 0)) (pda_cons (pd_var (pv 1)) pda_nil)))) (pda_cons (pd_op (ko_add (K := K) rfl) s2_add pd_int (kd_call rfl F0 (hr.mono (by first | decide | exact Nat.le_refl _ | omega)) (by rfl) m0 kp0 b0 v0 r0 (pda_cons (pd_var (pv 0)) (pda_cons (pd_var (pv 1)) pda_nil)))) pda_nil))) (by rfl))
    (pdss_cons (pds_par' (i := 7) (j := 8) rfl sc_law_small.nd rfl rfl (by decide) rfl rfl (pda_cons (pd_tupRg1 T.n_tuple T.n_range (pd_var (pv 1))) (pda_cons (pd_tupRg2 T.n_tuple T.n_range (pd_var (pv 3)) (pd_op (ko_add (K := K) rfl) s2_add (pd_var (pv 1)) (pd_var (pv 3)))) pda_nil)) (by rfl))
    (pdss_cons (pds_par3' (i := 9) (j := 10) (l := 11) rfl sc_law_small.nd rfl rfl rfl (by decide) (by decide) (by decide) rfl rfl rfl (pda_cons (kd_make rfl M1 F1 (hr.mono (by first | decide | exact Nat.le_refl _ | omega)) (by rfl) m1 b1 v1 r1 (pda_cons (pd_var (pv 1)) (pda_cons (pd_var (pv 2)) (pda_cons pd_int (pda_cons pd_int (pda_cons (pd_var (pv 4)) (pda_cons (pd_var (pv 5)) (pda_cons (pd_var (pv 6)) pda_nil)))))))) (pda_cons (pd_lstM pda_nil) (pda_cons (pd_lstM pda_nil) pda_nil))) (by rfl))
    (pdss_cons (pds_for PassesOwn.never rfl (kdi_any (K := K) rfl (kd_call rfl F2 (hr.mono (by first | decide | exact Nat.le_refl _ | omega)) (by rfl) m2 kp2 b2 v2 r2 (pda_cons (pd_var (pv 7)) (pda_cons (pd_var (pv 2)) pda_nil)))) (pdg_name (pg_name (i := 12) sc_law_small.nd rfl (Or.inl rfl)))
    (pdss_cons (pds_set (i := 13) sc_law_small.nd rfl (Or.inl rfl) (kd_call rfl F2 (hr.mono (by first | decide | exact Nat.le_refl _ | omega)) (by rfl) m2 kp2 b2 v2 r2 (pda_cons (pd_var (pv 7)) (pda_cons (pd_var (pv 4)) pda_nil))))
    (pdss_cons (pds_expr (kd_app (K := K) rfl (pd_var (pv 10)) (pda_cons (kd_call rfl F3 (hr.mono (by first | decide | exact Nat.le_refl _ | omega)) (by rfl) m3 kp3 b3 v3 r3 (pda_cons (pd_var (pv 13)) (pda_cons (pd_var (pv 13)) (pda_cons (pd_var (pv 12)) pda_nil)))) pda_nil)))
    (pdss_one (pds_expr (kd_app (K := K) rfl (pd_var (pv 11)) (pda_cons (kd_call rfl F3 (hr.mono (by first | decide | exact Nat.le_refl _ | omega)) (by rfl) m3 kp3 b3 v3 r3 (pda_cons (kd_call rfl F2 (hr.mono (by first | decide | exact Nat.le_refl _ | omega)) (by rfl) m2 kp2 b2 v2 r2 (pda_cons (pd_var (pv 7)) (pda_cons (pd_var (pv 5)) pda_nil))) (pda_cons (kd_call rfl F2 (hr.mono (by first | decide | exact Nat.le_refl _ | omega)) (by rfl) m2 kp2 b2 v2 r2 (pda_cons (pd_var (pv 8)) (pda_cons (pd_var (pv 6)) pda_nil))) (pda_cons (pd_var (pv 12)) pda_nil)))) pda_nil)))))))
    (pdss_cons (pds_if (pdt_cmp (ko_ne (K := K) rfl hu) s2_ne (pd_cmp oop_gt s2_gt (pd_callB (kc_min (K := K) rfl rfl) sc_minL (by rfl) T.n_min (by decide +kernel) (pda_cons (pd_var (pv 10)) pda_nil)) pd_int (nomark _)) (pd_cmp oop_gt s2_gt (kd_call rfl F4 (hr.mono (by first | decide | exact Nat.le_refl _ | omega)) (by rfl) m4 kp4 b4 v4 r4 (pda_cons (pd_var (pv 9)) pda_nil)) pd_int (nomark _)) (nomark _))
    (pdss_one (pds_ret pd_bl))
    pdss_nil)
    (pdss_cons (pds_if (PDW.pt (pdw_and (pdt_cmp (ko_ne (K := K) rfl hu) s2_ne (pd_cmp oop_gt s2_gt (pd_callB (kc_min (K := K) rfl rfl) sc_minL (by rfl) T.n_min (by decide +kernel) (pda_cons (pd_var (pv 11)) pda_nil)) pd_int (nomark _)) (pd_cmp oop_lt s2_lt (pd_var (pv 3)) (kd_call rfl F5 (hr.mono (by first | decide | exact Nat.le_refl _ | omega)) (by rfl) m5 kp5 b5 v5 r5 (pda_cons (pd_var (pv 9)) pda_nil)) (nomark _)) (nomark _)) (pdw_and1 (pdt_cmp oop_ge s2_ge (pd_op op_sub s2_sub (pd_var (pv 1)) (pd_var (pv 3))) (pd_var (pv 2)) (nomark _)))))
    (pdss_one (pds_ret pd_bl))
    pdss_nil)
    (pdss_cons (pds_set (i := 14) sc_law_small.nd rfl (Or.inl rfl) (kd_call rfl F6 (hr.mono (by first | decide | exact Nat.le_refl _ | omega)) (by rfl) m6 kp6 b6 v6 r6 (pda_cons (pd_var (pv 9)) (pda_cons pd_str (pda_cons (pd_var (pv 3)) pda_nil)))))
    (pdss_cons (pds_if (PDW.pt (pdw_or (pdt_not (pdt_val (pd_callB (kc_isi (K := K) rfl) sc_isi (by rfl) T.n_isinstance (by decide +kernel) (pda_cons (pd_var (pv 14)) (pda_cons (pd_ty (by rfl) T.n_tuple (by decide +kernel)) pda_nil))))) (pdw_or1 (pdt_cmp (ko_ne (K := K) rfl hu) s2_ne (pd_cmp (ko_in (K := K) rfl) s2_in pd_str (pd_var (pv 14)) (by rfl)) (pd_cmp oop_le s2_le (kd_call rfl F5 (hr.mono (by first | decide | exact Nat.le_refl _ | omega)) (by rfl) m5 kp5 b5 v5 r5 (pda_cons (pd_var (pv 9)) pda_nil)) (pd_var (pv 3)) (nomark _)) (nomark _)))))
    (pdss_one (pds_ret pd_bl))
    pdss_nil)
    (pdss_one (pds_ret (pd_cmp (ko_eq (K := K) rfl hu) s2_eq (pd_cmp (ko_in (K := K) rfl) s2_in pd_str (pd_var (pv 14)) (by rfl)) (pd_and (pd_cmp oop_gt s2_gt (pd_var (pv 2)) pd_int (nomark _)) (pd_one (pd_cmp (ko_eq (K := K) rfl hu) s2_eq (pd_callB (kc_min (K := K) rfl rfl) sc_minL (by rfl) T.n_min (by decide +kernel) (pda_cons (pd_var (pv 10)) pda_nil)) pd_int (nomark _)))) (nomark _))))))))))))))⟩
theorem ok_law_small {S_law_draw : DSp} {S_Numbers_init : DSp} {S_law_lots : DSp} {S_law_fewest : DSp} {S_taken_slack : DSp} {S_needed_apart : DSp} {S_kinds_of : DSp} {S : DSp} (T : Txt K mg C_Numbers) (c0 : Callee P w K mg base 1 "_law_draw" ["heap", "many"] S_law_draw []) (c1 : CalleeC P w K mg base 3 "Numbers" C_Numbers ["self", "k", "f", "d", "a", "w1", "w2", "c"] S_Numbers_init []) (c2 : Callee P w K mg base 1 "_law_lots" ["lot", "many"] S_law_lots []) (c3 : Callee P w K mg base 1 "_law_fewest" ["rows", "others", "liars"] S_law_fewest []) (c4 : Callee P w K mg base 1 "taken_slack" ["numbers"] S_taken_slack []) (c5 : Callee P w K mg base 1 "needed_apart" ["numbers"] S_needed_apart []) (c6 : Callee P w K mg base 4 "kinds_of" ["numbers", "manner", "spread"] S_kinds_of []) {f : Addr} {fd : FuncData} {dvs0 : List V} (F : FunD K "_law_small" "_law_small" (defArgs s_law_small) (defBody s_law_small) (defScope s_law_small) dvs0 [] f fd)
    (len : ∀ ds M Q, S ds M Q → ds.length = 1) (sem : ∀ ds M Q, S ds M Q → (b_law_small C_Numbers S_law_draw S_Numbers_init S_law_lots S_law_fewest S_taken_slack S_needed_apart S_kinds_of) { nx := fun _ M => Q .non M, rt := Q } (startD N_law_small ds) M) : FnOk P w K mg base CX0 5 f fd ["heap"] (spD K S) :=
  fn_d F sc_law_small len (fun cdv A outer s H E hr => w_law_small T c0 c1 c2 c3 c4 c5 c6 cdv A outer s H E hr) sem
/-- law -/
def b_law (S_law_heap : DSp) (S_law_draw : DSp) (S_law_numbers : DSp) (S_law_sums_right : DSp) (S_law_small : DSp) (S_law_like : DSp) (S_kinds_of : DSp) (S_law_made : DSp) (S_least_apart : DSp) : TDS :=
  (dSeq (dAsg (dCall S_law_heap [] (dCons (dVar 0) dNil)) (dgName 1))
    (dSeq (dFor (diRng1 (dCons (dC (.int 4)) dNil)) (dgName 2)
    (dSeq (dAsg (dOp addD (dC (.int 1)) (dCall S_law_draw [] (dCons (dVar 1) (dCons (dC (.int 12)) dNil)))) (dgName 3))
    (dSeq (dFor (diAny (dLst (dCons (dC (.str "any")) (dCons (dC (.str "call")) (dCons (dC (.str "gone")) dNil))))) (dgName 4)
    (dSeq (dAsg (dCall S_law_numbers [] (dCons (dVar 1) (dCons (dVar 3) (dCons (dVar 4) dNil)))) (dgTup 2 (dgCons (dgName 5) (dgCons (dgName 6) dgNil))))
    (dIfS (dNot (dTest (dCall S_law_sums_right [] (dCons (dVar 5) (dCons (dVar 4) (dCons (dVar 6) dNil))))))
    (dRet (dC (.bl false)))
    dNext)))
    (dIfS (dNot (dTest (dCall S_law_small [] (dCons (dVar 1) dNil))))
    (dRet (dC (.bl false)))
    dNext))))
    (dRet (dCall S_law_like [] (dCons (dTup (dCons (dCall S_least_apart [] (dCons (dCall S_law_made [] (dCons (dTup (dCons (dC (.int 3)) (dCons (dC (.int 1)) (dCons (dC (.int 1)) (dCons (dC (.int 1)) (dCons (dC (.int 3)) (dCons (dC (.int 3)) (dCons (dC (.int 3)) dNil)))))))) dNil)) (dCons (dC (.str "any")) (dCons (dC (.int 2)) dNil)))) (dCons (dCall S_kinds_of [] (dCons (dCall S_law_made [] (dCons (dTup (dCons (dC (.int 2)) (dCons (dC (.int 1)) (dCons (dC (.int 0)) (dCons (dC (.int 0)) (dCons (dC (.int 1)) (dCons (dC (.int 2)) (dCons (dC (.int 2)) dNil)))))))) dNil)) (dCons (dC (.str "call")) (dCons (dC (.int 0)) dNil)))) dNil))) (dCons (dTup (dCons (dC (.int 2)) (dCons (dTup (dCons (dC (.str "papers")) dNil)) dNil))) dNil))))))
theorem w_law {S_law_heap : DSp} {S_law_draw : DSp} {S_law_numbers : DSp} {S_law_sums_right : DSp} {S_law_small : DSp} {S_law_like : DSp} {S_kinds_of : DSp} {S_law_made : DSp} {S_least_apart : DSp} (T : Txt K mg C_Numbers) (c0 : Callee P w K mg base 1 "_law_heap" ["script"] S_law_heap []) (c1 : Callee P w K mg base 1 "_law_draw" ["heap", "many"] S_law_draw []) (c2 : Callee P w K mg base 3 "_law_numbers" ["heap", "k", "manner"] S_law_numbers []) (c3 : Callee P w K mg base 7 "_law_sums_right" ["parts", "manner", "most"] S_law_sums_right []) (c4 : Callee P w K mg base 5 "_law_small" ["heap"] S_law_small []) (c5 : Callee P w K mg base 6 "_law_like" ["told", "due"] S_law_like []) (c6 : Callee P w K mg base 4 "kinds_of" ["numbers", "manner", "spread"] S_kinds_of []) (c7 : Callee P w K mg base 5 "_law_made" ["parts"] S_law_made []) (c8 : Callee P w K mg base 5 "least_apart" ["numbers", "manner", "spread"] S_least_apart []) {f : Addr} (cdv : Value) (A : Around) (outer : List Env) (s : Shared) (H : Hp) (E : XK) (hr : Room 7 (A.deeper (envOfC "law" (defScope s_law) s.heap.objs.size f cdv))) :
    ∃ t, PDSs (cxOf CX0 P w K mg base N_law "law" (defScope s_law) f cdv A outer s H E).nox (defBody s_law) t (b_law S_law_heap S_law_draw S_law_numbers S_law_sums_right S_law_small S_law_like S_kinds_of S_law_made S_least_apart) := by
  have hu := hu64 hr
  obtain ⟨f0, fd0, ds0, dvs0, F0, m0, kp0, b0, v0, r0⟩ := c0.ex
  obtain ⟨f1, fd1, ds1, dvs1, F1, m1, kp1, b1, v1, r1⟩ := c1.ex
  obtain ⟨f2, fd2, ds2, dvs2, F2, m2, kp2, b2, v2, r2⟩ := c2.ex
  obtain ⟨f3, fd3, ds3, dvs3, F3, m3, kp3, b3, v3, r3⟩ := c3.ex
  obtain ⟨f4, fd4, ds4, dvs4, F4, m4, kp4, b4, v4, r4⟩ := c4.ex
  obtain ⟨f5, fd5, ds5, dvs5, F5, m5, kp5, b5, v5, r5⟩ := c5.ex
  obtain ⟨f6, fd6, ds6, dvs6, F6, m6, kp6, b6, v6, r6⟩ := c6.ex
  obtain ⟨f7, fd7, ds7, dvs7, F7, m7, kp7, b7, v7, r7⟩ := c7.ex
  obtain ⟨f8, fd8, ds8, dvs8, F8, m8, kp8, b8, v8, r8⟩ := c8.ex
  exact ⟨_, (pdss_cons (pds_set (i := 1) sc_law.nd rfl (Or.inl rfl) (kd_call rfl F0 (hr.mono (by first | decide | exact Nat.le_refl _ | omega)) (by rfl) m0 kp0 b0 v0 r0 (pda_cons (pd_var (pv 0)) pda_nil)))
    (pdss_cons (pds_for PassesOwn.never rfl (pdi_rng1 (by rfl) T.n_range (pda_cons pd_int pda_nil)) (pdg_name (pg_name (i := 2) sc_law.nd rfl (Or.inl rfl)))
    (pdss_cons (pds_set (i := 3) sc_law.nd rfl (Or.inl rfl) (pd_op (ko_add (K := K) rfl) s2_add pd_int (kd_call rfl F1 (hr.mono (by first | decide | exact Nat.le_refl _ | omega)) (by rfl) m1 kp1 b1 v1 r1 (pda_cons (pd_var (pv 1)) (pda_cons pd_int pda_nil)))))
    (pdss_cons (pds_for PassesOwn.never rfl (kdi_any (K := K) rfl (pd_lst (pda_cons pd_str (pda_cons pd_str (pda_cons pd_str pda_nil))))) (pdg_name (pg_name (i := 4) sc_law.nd rfl (Or.inl rfl)))
    (pdss_cons (pds_asg (kd_call rfl F2 (hr.mono (by first | decide | exact Nat.le_refl _ | omega)) (by rfl) m2 kp2 b2 v2 r2 (pda_cons (pd_var (pv 1)) (pda_cons (pd_var (pv 3)) (pda_cons (pd_var (pv 4)) pda_nil)))) (kdg_tup (K := K) rfl rfl (pdgs_cons (pdg_name (pg_name (i := 5) sc_law.nd rfl (Or.inl rfl))) (pdgs_cons (pdg_name (pg_name (i := 6) sc_law.nd rfl (Or.inl rfl))) pdgs_nil))))
    (pdss_one (pds_if (pdt_not (pdt_val (kd_call rfl F3 (hr.mono (by first | decide | exact Nat.le_refl _ | omega)) (by rfl) m3 kp3 b3 v3 r3 (pda_cons (pd_var (pv 5)) (pda_cons (pd_var (pv 4)) (pda_cons (pd_var (pv 6)) pda_nil))))))
    (pdss_one (pds_ret pd_bl))
    pdss_nil))))
    (pdss_one (pds_if (pdt_not (pdt_val (kd_call rfl F4 (hr.mono (by first | decide | exact Nat.le_refl _ | omega)) (by rfl) m4 kp4 b4 v4 r4 (pda_cons (pd_var (pv 1)) pda_nil))))
    (pdss_one (pds_ret pd_bl))
    pdss_nil)))))
    (pdss_one (pds_ret (kd_call rfl F5 (hr.mono (by first | decide | exact Nat.le_refl _ | omega)) (by rfl) m5 kp5 b5 v5 r5 (pda_cons (pd_tup (pda_cons (kd_call rfl F8 (hr.mono (by first | decide | exact Nat.le_refl _ | omega)) (by rfl) m8 kp8 b8 v8 r8 (pda_cons (kd_call rfl F7 (hr.mono (by first | decide | exact Nat.le_refl _ | omega)) (by rfl) m7 kp7 b7 v7 r7 (pda_cons (pd_tup (pda_cons pd_int (pda_cons pd_int (pda_cons pd_int (pda_cons pd_int (pda_cons pd_int (pda_cons pd_int (pda_cons pd_int pda_nil)))))))) pda_nil)) (pda_cons pd_str (pda_cons pd_int pda_nil)))) (pda_cons (kd_call rfl F6 (hr.mono (by first | decide | exact Nat.le_refl _ | omega)) (by rfl) m6 kp6 b6 v6 r6 (pda_cons (kd_call rfl F7 (hr.mono (by first | decide | exact Nat.le_refl _ | omega)) (by rfl) m7 kp7 b7 v7 r7 (pda_cons (pd_tup (pda_cons pd_int (pda_cons pd_int (pda_cons pd_int (pda_cons pd_int (pda_cons pd_int (pda_cons pd_int (pda_cons pd_int pda_nil)))))))) pda_nil)) (pda_cons pd_str (pda_cons pd_int pda_nil)))) pda_nil))) (pda_cons (pd_tup (pda_cons pd_int (pda_cons (pd_tup (pda_cons pd_str pda_nil)) pda_nil))) pda_nil)))))))⟩
theorem ok_law {S_law_heap : DSp} {S_law_draw : DSp} {S_law_numbers : DSp} {S_law_sums_right : DSp} {S_law_small : DSp} {S_law_like : DSp} {S_kinds_of : DSp} {S_law_made : DSp} {S_least_apart : DSp} {S : DSp} (T : Txt K mg C_Numbers) (c0 : Callee P w K mg base 1 "_law_heap" ["script"] S_law_heap []) (c1 : Callee P w K mg base 1 "_law_draw" ["heap", "many"] S_law_draw []) (c2 : Callee P w K mg base 3 "_law_numbers" ["heap", "k", "manner"] S_law_numbers []) (c3 : Callee P w K mg base 7 "_law_sums_right" ["parts", "manner", "most"] S_law_sums_right []) (c4 : Callee P w K mg base 5 "_law_small" ["heap"] S_law_small []) (c5 : Callee P w K mg base 6 "_law_like" ["told", "due"] S_law_like []) (c6 : Callee P w K mg base 4 "kinds_of" ["numbers", "manner", "spread"] S_kinds_of []) (c7 : Callee P w K mg base 5 "_law_made" ["parts"] S_law_made []) (c8 : Callee P w K mg base 5 "least_apart" ["numbers", "manner", "spread"] S_least_apart []) {f : Addr} {fd : FuncData} {dvs0 : List V} (F : FunD K "law" "law" (defArgs s_law) (defBody s_law) (defScope s_law) dvs0 [] f fd)
    (len : ∀ ds M Q, S ds M Q → ds.length = 1) (sem : ∀ ds M Q, S ds M Q → (b_law S_law_heap S_law_draw S_law_numbers S_law_sums_right S_law_small S_law_like S_kinds_of S_law_made S_least_apart) { nx := fun _ M => Q .non M, rt := Q } (startD N_law ds) M) : FnOk P w K mg base CX0 8 f fd ["script"] (spD K S) :=
  fn_d F sc_law len (fun cdv A outer s H E hr => w_law T c0 c1 c2 c3 c4 c5 c6 c7 c8 cdv A outer s H E hr) sem
end
end K32

set_option Elab.async false
set_option linter.all false
set_option maxRecDepth 100000
set_option maxHeartbeats 4000000
namespace K32
open PySem PySem.Spec PyProof.Rows L2 DL
local macro_rules | `(tactic| walk_at "dl") => `(tactic| simp only [dSeq, dIfS, dTest, dOp, dUn, dVar, dC, look, dAnd, dOr, dNot, dAndV, dOrV, dNotV, dIf, dNil, dCons, dTup, dLst, dLstM, dCB, dNext, dBreak, dCont, dDrop, dRet, dRetN, dAsg, dgName, dgTup, dgCons, dgNil, dgSub, dPar, setMany, dAug, dBM, dBM0, dFld, dCall, dCallN, dSl, dRev, dRevM, dPart, dNoPart, diAny, diRng1, diRng2, diEnum, diZip, dLc, dLcM, dYes, dFor, List.set, List.nil_append, List.cons_append, List.append_nil, List.length_cons, List.length_nil, if_true, if_false, true_and, Bool.false_eq_true, Bool.not_true, Bool.not_false, List.isEmpty_nil])
local macro_rules | `(tactic| walk_at "leaf") => `(tactic| simp only [addD_int, addD_lst, addD_tup, addD_str, iaddD_int, subD_int, mulD_int, mulD_lst, fdivD_int, modD_int, powD_int, negD_int, ltD_int, leD_int, gtD_int, geD_int, eqD_int, eqD_bl, eqD_str, eqD_tup, eqD_lst, neD_int, neD_bl, neD_str, neD_tup, neD_lst, isD_non, isD_bl, notD_non, notD_bl, isNon_non, isNon_int, isNon_bl, isNon_str, isNon_tup, isNon_lst, intD_int, intD_bl, absD_int, max2D_int, min2D_int, lenD_lst, lenD_tup, lenD_scr, tupleD_lst, tupleD_tup, listD_lst, listD_tup, listMD_lst, listMD_tup, ixD_tup, ixD_lst, ixD_scr, inD_lst, inD_tup, notInD_lst, notInD_tup, slD_lst, slD_scr, slD_tup, revD_lst, revMD_lst, nth_0, nth_1, nth_2, nth_3, nth_4, nth_5, nth_6, nth_7, nthN_0, nthN_1, nthN_2, nthN_3, nthN_4, nthN_5, nthN_6, srcD_lst, srcD_scr, srcD_tup, fldsD_obj, isi_non_bool, isi_non_int, isi_non_str, isi_non_tuple, isi_non_list, isi_bl_bool, isi_bl_int, isi_bl_str, isi_bl_tuple, isi_bl_list, isi_int_bool, isi_int_int, isi_int_str, isi_int_tuple, isi_int_list, isi_str_bool, isi_str_int, isi_str_str, isi_str_tuple, isi_str_list, isi_tup_bool, isi_tup_int, isi_tup_str, isi_tup_tuple, isi_tup_list, isi_lst_bool, isi_lst_int, isi_lst_str, isi_lst_tuple, isi_lst_list, if_true, if_false, true_and, Bool.false_eq_true, Bool.not_true, Bool.not_false, List.isEmpty_nil])
local macro_rules | `(tactic| walk_at "all") => `(tactic| simp only [dSeq, dIfS, dTest, dOp, dUn, dVar, dC, look, dAnd, dOr, dNot, dAndV, dOrV, dNotV, dIf, dNil, dCons, dTup, dLst, dLstM, dCB, dNext, dBreak, dCont, dDrop, dRet, dRetN, dAsg, dgName, dgTup, dgCons, dgNil, dgSub, dPar, setMany, dAug, dBM, dBM0, dFld, dCall, dCallN, dSl, dRev, dRevM, dPart, dNoPart, diAny, diRng1, diRng2, diEnum, diZip, dLc, dLcM, dYes, dFor, List.set, List.nil_append, List.cons_append, List.append_nil, List.length_cons, List.length_nil, addD_int, addD_lst, addD_tup, addD_str, iaddD_int, subD_int, mulD_int, mulD_lst, fdivD_int, modD_int, powD_int, negD_int, ltD_int, leD_int, gtD_int, geD_int, eqD_int, eqD_bl, eqD_str, eqD_tup, eqD_lst, neD_int, neD_bl, neD_str, neD_tup, neD_lst, isD_non, isD_bl, notD_non, notD_bl, isNon_non, isNon_int, isNon_bl, isNon_str, isNon_tup, isNon_lst, intD_int, intD_bl, absD_int, max2D_int, min2D_int, lenD_lst, lenD_tup, lenD_scr, tupleD_lst, tupleD_tup, listD_lst, listD_tup, listMD_lst, listMD_tup, ixD_tup, ixD_lst, ixD_scr, inD_lst, inD_tup, notInD_lst, notInD_tup, slD_lst, slD_scr, slD_tup, revD_lst, revMD_lst, nth_0, nth_1, nth_2, nth_3, nth_4, nth_5, nth_6, nth_7, nthN_0, nthN_1, nthN_2, nthN_3, nthN_4, nthN_5, nthN_6, srcD_lst, srcD_scr, srcD_tup, fldsD_obj, isi_non_bool, isi_non_int, isi_non_str, isi_non_tuple, isi_non_list, isi_bl_bool, isi_bl_int, isi_bl_str, isi_bl_tuple, isi_bl_list, isi_int_bool, isi_int_int, isi_int_str, isi_int_tuple, isi_int_list, isi_str_bool, isi_str_int, isi_str_str, isi_str_tuple, isi_str_list, isi_tup_bool, isi_tup_int, isi_tup_str, isi_tup_tuple, isi_tup_list, isi_lst_bool, isi_lst_int, isi_lst_str, isi_lst_tuple, isi_lst_list, if_true, if_false, true_and, Bool.false_eq_true, Bool.not_true, Bool.not_false, List.isEmpty_nil])
local macro_rules | `(tactic| walk_at "one") => `(tactic| simp only [dIfS, dTest, dOp, dUn, dVar, dC, look, dAnd, dOr, dNot, dAndV, dOrV, dNotV, dIf, dNil, dCons, dTup, dLst, dLstM, dCB, dNext, dBreak, dCont, dDrop, dRet, dRetN, dAsg, dgName, dgTup, dgCons, dgNil, dgSub, dPar, setMany, dAug, dBM, dBM0, dFld, dCall, dCallN, dSl, dRev, dRevM, dPart, dNoPart, diAny, diRng1, diRng2, diEnum, diZip, dLc, dLcM, dYes, dFor, List.set, List.nil_append, List.cons_append, List.append_nil, List.length_cons, List.length_nil, addD_int, addD_lst, addD_tup, addD_str, iaddD_int, subD_int, mulD_int, mulD_lst, fdivD_int, modD_int, powD_int, negD_int, ltD_int, leD_int, gtD_int, geD_int, eqD_int, eqD_bl, eqD_str, eqD_tup, eqD_lst, neD_int, neD_bl, neD_str, neD_tup, neD_lst, isD_non, isD_bl, notD_non, notD_bl, isNon_non, isNon_int, isNon_bl, isNon_str, isNon_tup, isNon_lst, intD_int, intD_bl, absD_int, max2D_int, min2D_int, lenD_lst, lenD_tup, lenD_scr, tupleD_lst, tupleD_tup, listD_lst, listD_tup, listMD_lst, listMD_tup, ixD_tup, ixD_lst, ixD_scr, inD_lst, inD_tup, notInD_lst, notInD_tup, slD_lst, slD_scr, slD_tup, revD_lst, revMD_lst, nth_0, nth_1, nth_2, nth_3, nth_4, nth_5, nth_6, nth_7, nthN_0, nthN_1, nthN_2, nthN_3, nthN_4, nthN_5, nthN_6, srcD_lst, srcD_scr, srcD_tup, fldsD_obj, isi_non_bool, isi_non_int, isi_non_str, isi_non_tuple, isi_non_list, isi_bl_bool, isi_bl_int, isi_bl_str, isi_bl_tuple, isi_bl_list, isi_int_bool, isi_int_int, isi_int_str, isi_int_tuple, isi_int_list, isi_str_bool, isi_str_int, isi_str_str, isi_str_tuple, isi_str_list, isi_tup_bool, isi_tup_int, isi_tup_str, isi_tup_tuple, isi_tup_list, isi_lst_bool, isi_lst_int, isi_lst_str, isi_lst_tuple, isi_lst_list, if_true, if_false, true_and, Bool.false_eq_true, Bool.not_true, Bool.not_false, List.isEmpty_nil])

/-! ### what each def is worth -/
structure Nums where
  k : Int
  f : Int
  d : Int
  a : Int
  w1 : Int
  w2 : Int
  c : Int
def Nums.obj (C : Addr) (n : Nums) : D := .obj C ns_Numbers [.int n.k, .int n.f, .int n.d, .int n.a, .int n.w1, .int n.w2, .int n.c]
structure Nums.Good (n : Nums) : Prop where
  k0 : 0 < n.k
  k1 : n.k ≤ 12
  f0 : 0 ≤ n.f
  f1 : n.f ≤ n.k - 1
  d0 : 0 ≤ n.d
  d1 : n.d ≤ 200
  a0 : 0 ≤ n.a
  a1 : n.a ≤ 200
  x0 : 0 < n.w1
  x1 : n.w1 ≤ n.k
  y0 : 0 < n.w2
  y1 : n.w2 ≤ n.k
  c0 : 0 < n.c
  c1 : n.c ≤ n.k
def Way (m : Str) : Prop := m = "call" ∨ m = "any" ∨ m = "seen" ∨ m = "gone"
def wide (m : Str) (s : Int) : Int := if m = "any" then s else 0
def S_is_integer : DSp := fun ds M Q => ∃ i : Int, ds = [.int i] ∧ Q (.bl true) M
def S_is_number : DSp := fun ds M Q => ∃ i m : Int, ds = [.int i, .int m] ∧ Q (.bl (decide (0 ≤ i ∧ i ≤ m))) M
def S_need_way : DSp := fun ds M Q => ∃ m : Str, ds = [.str m] ∧ Way m ∧ Q .non M
def S_unlike_of : DSp := fun ds M Q => ∃ (m : Str) (s : Int), ds = [.str m, .int s] ∧ Way m ∧ Q (.int (wide m s)) M
def shown (n : Nums) (m : Str) (s : Int) : Int := n.c + n.w2 - n.k - n.f - wide m s
def taken (n : Nums) : Int := 2 * n.w1 - n.k - n.f
def S_shown_slack (C : Addr) : DSp := fun ds M Q => ∃ (n : Nums) (m : Str) (s : Int), ds = [n.obj C, .str m, .int s] ∧ Way m ∧ Q (.int (shown n m s)) M
def S_taken_slack (C : Addr) : DSp := fun ds M Q => ∃ n : Nums, ds = [n.obj C] ∧ Q (.int (taken n)) M
theorem sem_is_integer : ∀ ds M Q, S_is_integer ds M Q → b_is_integer { nx := fun _ M => Q .non M, rt := Q } (startD N_is_integer ds) M := by
  rintro ds M Q ⟨i, rfl, q⟩
  show b_is_integer _ [some (.int i)] M
  unfold b_is_integer
  walk_at "all"
  exact q
theorem sem_is_number : ∀ ds M Q, S_is_number ds M Q → b_is_number S_is_integer { nx := fun _ M => Q .non M, rt := Q } (startD N_is_number ds) M := by
  rintro ds M Q ⟨i, m, rfl, q⟩
  show b_is_number _ _ [some (.int i), some (.int m)] M
  unfold b_is_number
  walk_at "all"
  refine ⟨i, rfl, ?_⟩
  walk_at "all"
  exact andV_of (R := fun b => Q (.bl b) M) q
theorem sem_need_way : ∀ ds M Q, S_need_way ds M Q → b_need_way { nx := fun _ M => Q .non M, rt := Q } (startD N_need_way ds) M := by
  rintro ds M Q ⟨m, rfl, hm, q⟩
  show b_need_way _ [some (.str m)] M
  unfold b_need_way
  walk_at "all"
  refine ⟨rfl, rfl, ?_⟩
  rcases hm with rfl | rfl | rfl | rfl <;> exact q
theorem sem_unlike_of : ∀ ds M Q, S_unlike_of ds M Q → b_unlike_of S_need_way { nx := fun _ M => Q .non M, rt := Q } (startD N_unlike_of ds) M := by
  rintro ds M Q ⟨m, s, rfl, hm, q⟩
  show b_unlike_of _ _ [some (.str m), some (.int s)] M
  unfold b_unlike_of
  walk_at "all"
  refine ⟨m, rfl, hm, ?_⟩
  walk_at "all"
  unfold wide at q
  split <;> simp_all
theorem sem_shown_slack (C : Addr) : ∀ ds M Q, S_shown_slack C ds M Q → b_shown_slack C S_unlike_of { nx := fun _ M => Q .non M, rt := Q } (startD N_shown_slack ds) M := by
  rintro ds M Q ⟨n, m, s, rfl, hm, q⟩
  show b_shown_slack _ _ _ [some (n.obj C), some (.str m), some (.int s)] M
  unfold b_shown_slack Nums.obj
  walk_at "all"
  refine ⟨m, s, rfl, hm, ?_⟩
  walk_at "all"
  exact q
theorem sem_taken_slack (C : Addr) : ∀ ds M Q, S_taken_slack C ds M Q → b_taken_slack C { nx := fun _ M => Q .non M, rt := Q } (startD N_taken_slack ds) M := by
  rintro ds M Q ⟨n, rfl, q⟩
  show b_taken_slack _ _ [some (n.obj C)] M
  unfold b_taken_slack Nums.obj
  walk_at "all"
  exact ⟨.inl (by decide), q⟩
def kindsL (n : Nums) (m : Str) (s : Int) : List D := (if 0 < n.f ∧ taken n ≤ 0 then [.str "papers"] else []) ++ (if shown n m s ≤ 0 then [.str "unseen"] else [])
def S_kinds_of (C : Addr) : DSp := fun ds M Q => ∃ (n : Nums) (m : Str) (s : Int), ds = [n.obj C, .str m, .int s] ∧ Way m ∧ Q (.tup (kindsL n m s)) M
theorem sem_kinds_of (C : Addr) : ∀ ds M Q, S_kinds_of C ds M Q → b_kinds_of C (S_taken_slack C) (S_shown_slack C) { nx := fun _ M => Q .non M, rt := Q } (startD N_kinds_of ds) M := by
  rintro ds M Q ⟨n, m, s, rfl, hm, q⟩
  show b_kinds_of _ _ _ _ [some (n.obj C), some (.str m), some (.int s), none] M
  have rest : ∀ l : List D, l.length ≤ 1 → Q (.tup (l ++ if shown n m s ≤ 0 then [.str "unseen"] else [])) M → dRet (dIf (dTest (dOp leD (dCall (S_shown_slack C) [] (dCons (dVar 0) (dCons (dVar 1) (dCons (dVar 2) dNil)))) (dC (.int 0)))) (dCB tupleD (dCons (dOp addD (dVar 3) (dLst (dCons (dC g_UNSEEN) dNil))) dNil)) (dCB tupleD (dCons (dVar 3) dNil))) { nx := fun _ M => Q .non M, rt := Q } [some (n.obj C), some (.str m), some (.int s), some (.lst l)] M := by
    intro l hl h
    walk_at "all"
    refine ⟨n, m, s, rfl, hm, ?_⟩
    walk_at "all"
    refine ite_dec (fun h3 => ?_) (fun h3 => ?_)
    · rw [if_pos h3] at h
      exact ⟨by decide, by rw [sizeLine_eq]; simp; omega, h⟩
    · rw [if_neg h3, List.append_nil] at h
      exact h
  have key : ∀ T : TDS, (∀ l : List D, l.length ≤ 1 → Q (.tup (l ++ if shown n m s ≤ 0 then [.str "unseen"] else [])) M → T { nx := fun _ M => Q .non M, rt := Q } [some (n.obj C), some (.str m), some (.int s), some (.lst l)] M) →
      dSeq (dAsg (dIf (dAnd (dTest (dOp gtD (dFld C ns_Numbers 1 (dVar 0)) (dC (.int 0)))) (dTest (dOp leD (dCall (S_taken_slack C) [] (dCons (dVar 0) dNil)) (dC (.int 0))))) (dLst (dCons (dC g_PAPERS) dNil)) (dLst dNil)) (dgName 3)) T { nx := fun _ M => Q .non M, rt := Q } [some (n.obj C), some (.str m), some (.int s), none] M := by
    intro T hT
    unfold kindsL at q
    unfold Nums.obj at hT ⊢
    walk_at "all"
    refine ite_dec (fun h1 => ⟨n, rfl, ?_⟩) (fun h1 => ⟨by decide, hT [] (by simp) ?_⟩)
    · walk_at "all"
      refine ite_dec (fun h2 => ⟨by decide, hT _ (by simp) ?_⟩) (fun h2 => ⟨by decide, hT [] (by simp) ?_⟩)
      · rw [if_pos ⟨h1, h2⟩] at q; exact q
      · rw [if_neg (fun z => h2 z.2)] at q; exact q
    · rw [if_neg (fun z => h1 z.1)] at q; exact q
  exact key _ rest
def needed (n : Nums) : Int := max 0 (n.c + n.w2 - n.k - n.f)
def S_needed_apart (C : Addr) : DSp := fun ds M Q => ∃ n : Nums, ds = [n.obj C] ∧ Q (.int (needed n)) M
theorem sem_needed_apart (C : Addr) : ∀ ds M Q, S_needed_apart C ds M Q → b_needed_apart C { nx := fun _ M => Q .non M, rt := Q } (startD N_needed_apart ds) M := by
  rintro ds M Q ⟨n, rfl, q⟩
  show b_needed_apart _ _ [some (n.obj C)] M
  unfold b_needed_apart Nums.obj
  walk_at "all"
  exact q
def leastD (n : Nums) (m : Str) (s : Int) : D := if 0 < n.f ∧ taken n ≤ 0 then .int 0 else if shown n m s ≤ 0 then .int (needed n) else .non
def S_least_apart (C : Addr) : DSp := fun ds M Q => ∃ (n : Nums) (m : Str) (s : Int), ds = [n.obj C, .str m, .int s] ∧ Way m ∧ Q (leastD n m s) M
theorem sem_least_apart (C : Addr) : ∀ ds M Q, S_least_apart C ds M Q → b_least_apart (S_kinds_of C) (S_needed_apart C) { nx := fun _ M => Q .non M, rt := Q } (startD N_least_apart ds) M := by
  rintro ds M Q ⟨n, m, s, rfl, hm, q⟩
  show b_least_apart _ _ _ [some (n.obj C), some (.str m), some (.int s), none] M
  unfold b_least_apart
  walk_at "all"
  refine ⟨n, m, s, rfl, hm, ?_⟩
  walk_at "all"
  refine ⟨by decide, ?_⟩
  unfold leastD at q
  unfold kindsL
  by_cases h1 : 0 < n.f ∧ taken n ≤ 0
  · rw [if_pos h1] at q ⊢
    by_cases h3 : shown n m s ≤ 0
    · rw [if_pos h3]
      exact ⟨rfl, rfl, by decide +kernel, by decide +kernel, rfl, rfl, q⟩
    · rw [if_neg h3]
      exact ⟨rfl, rfl, by decide +kernel, by decide +kernel, rfl, rfl, q⟩
  · rw [if_neg h1] at q ⊢
    by_cases h3 : shown n m s ≤ 0
    · rw [if_pos h3] at q ⊢
      exact ⟨rfl, rfl, by decide +kernel, by decide +kernel, rfl, rfl, n, rfl, q⟩
    · rw [if_neg h3] at q ⊢
      exact ⟨rfl, rfl, by decide +kernel, by decide +kernel, q⟩
def Nums.vals (n : Nums) : List D := [.int n.k, .int n.f, .int n.d, .int n.a, .int n.w1, .int n.w2, .int n.c]
def S_init (C : Addr) : DSp := fun ds M Q => ∃ (p : Addr) (n : Nums), n.Good ∧ ds = .ref p :: n.vals ∧ M p = some (.ins C [] []) ∧ Q .non (mput M p (.ins C ns_Numbers n.vals))
theorem sem_init (C : Addr) : ∀ ds M Q, S_init C ds M Q → b_Numbers_init C S_is_number { nx := fun _ M => Q .non M, rt := Q } (startD N_Numbers_init ds) M := by
  rintro ds M Q ⟨p, n, g, rfl, hp, q⟩
  show b_Numbers_init _ _ _ [some (.ref p), some (.int n.k), some (.int n.f), some (.int n.d), some (.int n.a), some (.int n.w1), some (.int n.w2), some (.int n.c), none, none] M
  have gk0 := g.k0
  have c0 := g.f0
  have e0 : decide (0 ≤ n.k ∧ n.k ≤ 12) = true := decide_eq_true ⟨by omega, g.k1⟩
  have e0' : decide (n.k = 0) = false := decide_eq_false (by omega)
  have e1 : decide (0 ≤ n.f ∧ n.f ≤ n.k - 1) = true := decide_eq_true ⟨g.f0, g.f1⟩
  have e2 : decide (0 ≤ n.d ∧ n.d ≤ 200) = true := decide_eq_true ⟨g.d0, g.d1⟩
  have e3 : decide (0 ≤ n.a ∧ n.a ≤ 200) = true := decide_eq_true ⟨g.a0, g.a1⟩
  have x0 := g.x0; have y0 := g.y0; have z0 := g.c0
  have e4 : decide (0 ≤ n.w1 ∧ n.w1 ≤ n.k) = true := decide_eq_true ⟨by omega, g.x1⟩
  have e4' : decide (n.w1 = 0) = false := decide_eq_false (by omega)
  have e5 : decide (0 ≤ n.w2 ∧ n.w2 ≤ n.k) = true := decide_eq_true ⟨by omega, g.y1⟩
  have e5' : decide (n.w2 = 0) = false := decide_eq_false (by omega)
  have e6 : decide (0 ≤ n.c ∧ n.c ≤ n.k) = true := decide_eq_true ⟨by omega, g.c1⟩
  have e6' : decide (n.c = 0) = false := decide_eq_false (by omega)
  unfold b_Numbers_init
  refine dSeq_ ?_
  walk_at "one"
  refine ⟨n.k, 12, rfl, ?_⟩
  rw [e0]
  walk_at "one"
  rw [e0']
  walk_at "one"
  refine dSeq_ ?_
  walk_at "one"
  refine ⟨n.f, n.k - 1, rfl, ?_⟩
  rw [e1]
  walk_at "one"
  refine dSeq_ ?_
  walk_at "one"
  rw [enumD_2]
  refine ⟨by decide, trivial, ?_⟩
  walk_at "one"
  refine ⟨n.d, 200, rfl, ?_⟩
  rw [e2]
  walk_at "one"
  refine ⟨trivial, ?_⟩
  walk_at "one"
  refine ⟨n.a, 200, rfl, ?_⟩
  rw [e3]
  walk_at "one"
  refine ⟨trivial, ?_⟩
  dsimp only
  refine dSeq_ ?_
  walk_at "one"
  rw [enumD_3]
  refine ⟨show 3 ≤ sizeLine by decide, trivial, ?_⟩
  walk_at "one"
  refine ⟨n.w1, n.k, rfl, ?_⟩
  rw [e4]
  walk_at "one"
  rw [e4']
  refine ⟨trivial, ?_⟩
  walk_at "one"
  refine ⟨n.w2, n.k, rfl, ?_⟩
  rw [e5]
  walk_at "one"
  rw [e5']
  refine ⟨trivial, ?_⟩
  walk_at "one"
  refine ⟨n.c, n.k, rfl, ?_⟩
  rw [e6]
  walk_at "one"
  rw [e6']
  refine ⟨trivial, ?_⟩
  dsimp only
  refine seqNew_ (fun _ h => h) (fun _ h => h) hp (by decide) (by decide) ?_
  refine seqNew_ (fun _ h => h) (fun _ h => h) mput_same (by decide) (by decide +kernel) ?_
  refine seqNew_ (fun _ h => h) (fun _ h => h) mput_same (by decide) (by decide +kernel) ?_
  refine seqNew_ (fun _ h => h) (fun _ h => h) mput_same (by decide) (by decide +kernel) ?_
  refine seqNew_ (fun _ h => h) (fun _ h => h) mput_same (by decide) (by decide +kernel) ?_
  refine seqNew_ (fun _ h => h) (fun _ h => h) mput_same (by decide) (by decide +kernel) ?_
  refine setNew_ (fun _ h => h) (fun _ h => h) mput_same (by decide) (by decide +kernel) ?_
  simp only [mput_mput]
  exact q
end K32

set_option Elab.async false
set_option linter.all false
set_option maxRecDepth 100000
set_option maxHeartbeats 4000000
namespace K32
open PySem PySem.Spec PyProof.Rows L2 DL
local macro_rules | `(tactic| walk_at "go") => `(tactic| simp only [↓e_dTest, ↓e_dOp, ↓e_dUn, ↓e_dVar, ↓e_dC, ↓e_dAnd, ↓e_dOr, ↓e_dNot, ↓e_dAndV, ↓e_dOrV, ↓e_dNotV, ↓e_dIf, ↓e_dNil, ↓e_dCons, ↓e_dTup, ↓e_dLst, ↓e_dLstM, ↓e_dCB, ↓e_dNext, ↓e_dBreak, ↓e_dCont, ↓e_dDrop, ↓e_dRet, ↓e_dRetN, ↓e_dAsg, ↓e_dgName, ↓e_dgTup, ↓e_dgCons, ↓e_dgNil, ↓e_dgSub, ↓e_dPar, ↓e_dAug, ↓e_dBM, ↓e_dBM0, ↓e_dFld, ↓e_dCall, ↓e_dCallN, ↓e_dSl, ↓e_dRev, ↓e_dRevM, ↓e_dPart, ↓e_dNoPart, ↓e_diAny, ↓e_diRng1, ↓e_diRng2, ↓e_diEnum, ↓e_diZip, ↓e_dLc, ↓e_dLcM, ↓e_dYes, ↓e_dFor, ↓e_dIfS, ↓e_dMeth, ↓e_dTupRg1, ↓e_dTupRg2, ↓e_dLstRg1, ↓e_dLstRg2, ↓e_dIsi2, ↓e_dNever, ↓look_0, ↓look_1, ↓look_2, ↓look_3, ↓look_4, ↓look_5, ↓look_6, ↓look_7, ↓look_8, ↓look_9, ↓look_10, ↓look_11, ↓look_12, ↓look_13, ↓look_14, ↓look_15, ↓look_16, ↓look_17, ↓look_18, ↓look_19, ↓look_20, ↓look_21, ↓look_22, ↓look_23, ↓look_24, ↓look_25, ↓q_addD_int, ↓q_addD_lst, ↓q_addD_tup, ↓q_addD_str, ↓q_iaddD_int, ↓q_subD_int, ↓q_mulD_int, ↓q_mulD_lst, ↓q_fdivD_int, ↓q_modD_int, ↓q_powD_int, ↓q_negD_int, ↓q_ltD_int, ↓q_leD_int, ↓q_gtD_int, ↓q_geD_int, ↓q_eqD_int, ↓q_eqD_bl, ↓q_eqD_str, ↓q_eqD_tup, ↓q_eqD_lst, ↓q_neD_int, ↓q_neD_bl, ↓q_neD_str, ↓q_neD_tup, ↓q_neD_lst, ↓q_isD_non, ↓q_isD_bl, ↓q_notD_non, ↓q_notD_bl, ↓isNon_non, ↓isNon_int, ↓isNon_bl, ↓isNon_str, ↓isNon_tup, ↓isNon_lst, ↓q_intD_int, ↓q_intD_bl, ↓q_absD_int, ↓q_lenD_lst, ↓q_lenD_tup, ↓q_lenD_scr, ↓q_tupleD_lst, ↓q_tupleD_tup, ↓q_listD_lst, ↓q_listD_tup, ↓q_listMD_lst, ↓q_listMD_tup, ↓q_ixD_tup, ↓q_ixD_lst, ↓q_ixD_scr, ↓q_inD_lst, ↓q_inD_tup, ↓q_notInD_lst, ↓q_notInD_tup, ↓q_slD_lst, ↓q_slD_scr, ↓q_slD_tup, ↓q_revD_lst, ↓q_revMD_lst, ↓q_nthN_0, ↓q_nthN_1, ↓q_nthN_2, ↓q_nthN_3, ↓q_nthN_4, ↓q_nthN_5, ↓q_nthN_6, ↓q_srcD_lst, ↓q_srcD_scr, ↓q_srcD_tup, ↓fldsD_obj, ↓max2D_int, ↓min2D_int, ↓nth_0, ↓nth_1, ↓nth_2, ↓nth_3, ↓nth_4, ↓nth_5, ↓nth_6, ↓nth_7, ↓isi_non_bool, ↓isi_non_int, ↓isi_non_str, ↓isi_non_tuple, ↓isi_non_list, ↓isi_bl_bool, ↓isi_bl_int, ↓isi_bl_str, ↓isi_bl_tuple, ↓isi_bl_list, ↓isi_int_bool, ↓isi_int_int, ↓isi_int_str, ↓isi_int_tuple, ↓isi_int_list, ↓isi_str_bool, ↓isi_str_int, ↓isi_str_str, ↓isi_str_tuple, ↓isi_str_list, ↓isi_tup_bool, ↓isi_tup_int, ↓isi_tup_str, ↓isi_tup_tuple, ↓isi_tup_list, ↓isi_lst_bool, ↓isi_lst_int, ↓isi_lst_str, ↓isi_lst_tuple, ↓isi_lst_list, ↓ite_t_, ↓ite_f_, ↓ite_nt_, ↓ite_nf_, setMany, List.set, List.nil_append, List.cons_append, List.append_nil, List.length_cons, List.length_nil, true_and, Bool.not_true, Bool.not_false, List.isEmpty_nil])
theorem bp : b_law_pick S = bPick S := rfl
theorem bl : b_law_like S = bLike S := rfl
theorem bh : b_law_heap = bHeap 80273 69621 29 := rfl
theorem bd : b_law_draw = bDraw 48271 17 := rfl
def S_numbers : DSp := fun ds M Q => ∃ (x : D) (k : Int) (m : Str), ds = [x, .int k, .str m] ∧ IsSrc M x ∧ 0 < k ∧ k ≤ 12 ∧ ∀ (n : Nums) (most : Int), n.Good → Q (.tup [.tup n.vals, .int most]) M
theorem sem_numbers : ∀ ds M Q, S_numbers ds M Q → b_law_numbers S_draw S_pick { nx := fun _ M => Q .non M, rt := Q } (startD N_law_numbers ds) M := by
  rintro ds M Q ⟨x, k, m, rfl, hs, h0, h1, q⟩
  show b_law_numbers _ _ _ [some x, some (.int k), some (.str m), none, none, none, none, none, none, none, none] M
  unfold b_law_numbers
  refine sq_ fun nx go => ?_
  walk_at "go"
  refine ⟨_, _, rfl, hs, by omega, by omega, fun r r0 r1 => ?_⟩
  refine ⟨by decide, _, _, _, rfl, hs, rfl, by simp, by simp, fun f hf => ?_⟩
  obtain ⟨f, rfl, f0, f1⟩ : ∃ v : Int, f = .int v ∧ 0 ≤ v ∧ v ≤ k - 1 := by
    simp only [List.mem_cons, List.not_mem_nil, or_false] at hf
    rcases hf with rfl | rfl | rfl | rfl
    · exact ⟨_, rfl, by omega, by omega⟩
    · exact ⟨_, rfl, by omega, by omega⟩
    · exact ⟨_, rfl, by omega, by omega⟩
    · exact ⟨_, rfl, by omega, by omega⟩
  refine ⟨_, _, rfl, hs, by omega, by omega, fun a a0 a1 => ?_⟩
  refine go _ _ (sq_ fun nx go => ?_)
  walk_at "go"
  refine ⟨_, _, rfl, hs, by omega, by omega, fun d d0 d1 => ?_⟩
  have key : ∀ most : Int, 0 ≤ most → most ≤ k → nx [some x, some (.int k), some (.str m), some (.int f), some (.int a), some (.int d), some (.int most), none, none, none, none] M := by
    intro most m0 m1
    refine go _ _ (sq_ fun nx go => ?_)
    have key2 : ∀ both : Int, nx [some x, some (.int k), some (.str m), some (.int f), some (.int a), some (.int d), some (.int most), some (.int both), none, none, none] M := by
      intro both
      refine go _ _ (sq_ fun nx go => ?_)
      walk_at "go"
      refine ⟨_, _, rfl, hs, by omega, by omega, fun w2 y0 y1 => ?_⟩
      walk_at "go"
      refine go _ _ (sq_ fun nx go => ?_)
      walk_at "go"
      refine ⟨⟨by omega, by omega⟩, ⟨by omega, by omega⟩, _, _, rfl, hs, by omega, by omega, fun r2 r20 r21 => ?_⟩
      walk_at "go"
      refine ⟨by decide, _, _, _, rfl, hs, rfl, by simp, by simp, fun v hv => ?_⟩
      obtain ⟨w1, rfl⟩ : ∃ i : Int, v = .int i := by
        simp only [List.mem_cons, List.not_mem_nil, or_false] at hv
        rcases hv with rfl | rfl | rfl <;> exact ⟨_, rfl⟩
      walk_at "go"
      refine go _ _ (sq_ fun nx go => ?_)
      walk_at "go"
      refine ⟨_, _, rfl, hs, by omega, by omega, fun r3 r30 r31 => ?_⟩
      walk_at "go"
      refine ⟨by decide, _, _, _, rfl, hs, rfl, by simp, by simp, fun v hv => ?_⟩
      obtain ⟨c, rfl⟩ : ∃ i : Int, v = .int i := by
        simp only [List.mem_cons, List.not_mem_nil, or_false] at hv
        rcases hv with rfl | rfl | rfl <;> exact ⟨_, rfl⟩
      walk_at "go"
      refine go _ _ ?_
      walk_at "go"
      refine ⟨by decide, by decide, ?_⟩
      exact q ⟨k, f, d, a, max 1 (min k w1), 1 + w2, max 1 (min k c)⟩ _ ⟨h0, h1, f0, f1, d0, by dsimp only; omega, a0, by dsimp only; omega, by dsimp only; omega, by dsimp only; omega, by dsimp only; omega, by dsimp only; omega, by dsimp only; omega, by dsimp only; omega⟩
    walk_at "go"
    exact ite_dec (fun _ => key2 _) (fun _ => key2 _)
  walk_at "go"
  exact ite_dec (fun _ => ⟨_, _, rfl, hs, by omega, by omega, fun most m0 m1 => key most m0 (by omega)⟩) (fun _ => key 0 (by omega) (by omega))
def S_made (C : Addr) : DSp := fun ds M Q => ∃ n : Nums, n.Good ∧ ds = [.tup n.vals] ∧ Q (n.obj C) M
theorem mdel_mput {M : Mem} {p : Addr} {o : MO} (h : M p = none) : mdel (mput M p o) p = M := by
  funext b
  unfold mdel mput
  by_cases e : b = p
  · subst e; simp [h]
  · simp [e]
/-- a new one is made -/
theorem make_ {C : Addr} {S : DSp} {dds : List D} {a : TDA} {Γ : DE} {M : Mem} {Q : QD} {ds : List D} {ns : List Str} {vs : List D} (ha : ∀ R : List D → Mem → Prop, R ds M → a Γ M R)
    (hS : ∀ (p : Addr) (R : QD), M p = none → R .non (mput M p (.ins C ns vs)) → S (.ref p :: (ds ++ dds)) (mput M p (.ins C [] [])) R) (q : Q (.obj C ns vs) M) : dMake C S dds a Γ M Q := by
  refine ha _ fun p hp => hS p _ hp ⟨rfl, ?_⟩
  simp only [mput_same]
  show Q (.obj C ns vs) (mdel (mput M p (.ins C ns vs)) p)
  rw [mdel_mput hp]
  exact q
theorem sem_made (C : Addr) : ∀ ds M Q, S_made C ds M Q → b_law_made C (S_init C) { nx := fun _ M => Q .non M, rt := Q } (startD N_law_made ds) M := by
  rintro ds M Q ⟨n, g, rfl, q⟩
  show b_law_made _ _ _ [some (.tup n.vals)] M
  unfold b_law_made Nums.vals
  walk_at "go"
  refine make_ (ds := n.vals) (ns := ns_Numbers) (vs := n.vals) (fun R h => ?_) (fun p R hp h => ⟨p, n, g, by rw [List.append_nil], mput_same, by rw [mput_mput]; exact h⟩) q
  walk_at "go"
  exact h
def lotsL {α : Type} (many : Nat) : List α → List (List α) → List (List α)
  | [], found => found
  | h :: hs, found => lotsL many hs (found ++ (found.filter fun o => decide (o.length < many)).map (· ++ [h]))
def lots {α : Type} (lot : List α) (many : Nat) : List (List α) := (lotsL many lot [[]]).filter fun o => decide (o.length = many)
def tI (l : List Int) : D := .tup (l.map D.int)
theorem len_lotsL {α : Type} (many : Nat) : ∀ (hs : List α) (found : List (List α)), (lotsL many hs found).length ≤ 2 ^ hs.length * found.length
  | [], found => by simp [lotsL]
  | h :: hs, found => by
    unfold lotsL
    refine Nat.le_trans (len_lotsL many hs _) ?_
    have z : (found.filter fun o => decide (o.length < many)).length ≤ found.length := List.length_filter_le _ _
    rw [List.length_cons, Nat.pow_succ, Nat.mul_assoc]
    exact Nat.mul_le_mul_left _ (by simp; omega)
def S_lots : DSp := fun ds M Q => ∃ (lot : List Int) (many : Nat), ds = [tI lot, .int (many : Int)] ∧ lot.length ≤ 8 ∧ many ≤ 8 ∧ Q (.lst ((lots lot many).map tI)) M
theorem sem_lots : ∀ ds M Q, S_lots ds M Q → b_law_lots { nx := fun _ M => Q .non M, rt := Q } (startD N_law_lots ds) M := by
  rintro ds M Q ⟨lot, many, rfl, hl, hm, q⟩
  show b_law_lots _ [some (tI lot), some (.int many), none, none, none] M
  unfold b_law_lots
  refine sq_ fun nx go => ?_
  walk_at "go"
  refine ⟨by decide, by decide, ?_⟩
  refine go _ _ (sq_ fun nx go => ?_)
  unfold tI
  walk_at "go"
  refine forL_inv (fun ds Γ M' => M' = M ∧ ∃ (hs : List Int) (found : List (List Int)) (o o' : Option D), ds = hs.map D.int ∧ Γ = [some (tI lot), some (.int many), some (.lst (found.map tI)), o, o'] ∧ 2 ^ hs.length * found.length ≤ 256 ∧ lotsL many lot [[]] = lotsL many hs found)
    (fun _ _ _ _ => trivial) ?_ ?_ _ _ _ ⟨rfl, lot, [[]], none, none, rfl, rfl, ?_, rfl⟩
  · rintro Γ M' ⟨rfl, hs, found, o, o', e, rfl, hb, hq⟩
    cases hs with
    | cons _ _ => cases e
    | nil =>
      refine go _ _ ?_
      walk_at "go"
      simp only [wipeD]
      refine lc_map tI (fun o => decide (o.length = many)) tI trivial found [] (fun x _ Y N hY hN => ?_) (by rw [sizeLine_eq]; simp at hb ⊢; omega) ?_
      · unfold tI at hY ⊢
        walk_at "go"
        rw [List.length_map]
        exact ite_dec (fun h => hY (decide_eq_true (by omega))) (fun h => hN (decide_eq_false (by omega)))
      · rw [List.nil_append]
        have e2 : lots lot many = found.filter fun o => decide (o.length = many) := by unfold lots; rw [hq]; rfl
        rw [← e2]
        exact q
  · rintro x xs Γ M' ⟨rfl, hs, found, o, o', e, rfl, hb, hq⟩ nx' go'
    cases hs with
    | nil => cases e
    | cons h hs =>
      cases e
      walk_at "go"
      simp only [wipeD]
      have hf : found.length ≤ 256 := Nat.le_trans (Nat.le_mul_of_pos_left _ (Nat.two_pow_pos _)) hb
      refine lc_map tI (fun o => decide (o.length < many)) (fun o => tI (o ++ [h])) trivial found [] (fun x hx Y N hY hN => ?_) (by rw [sizeLine_eq]; simp; omega) ?_
      · unfold tI at hY ⊢
        walk_at "go"
        rw [List.length_map]
        refine ite_dec (fun h' => ⟨by decide, by rw [sizeLine_eq]; omega, ?_⟩) (fun h => hN (decide_eq_false (by omega)))
        have e3 : x.map D.int ++ [D.int h] = (x ++ [h]).map D.int := by simp
        rw [e3]
        exact hY (decide_eq_true (by omega))
      · rw [List.nil_append]
        have hk : (found.filter fun o => decide (o.length < many)).length ≤ found.length := List.length_filter_le _ _
        refine ⟨by rw [sizeLine_eq]; simp; omega, ?_⟩
        refine go' _ _ ⟨rfl, hs, found ++ (found.filter fun o => decide (o.length < many)).map (· ++ [h]), some (.int h), o', rfl, ?_, ?_, by rw [hq]; rfl⟩
        · rw [List.map_append, List.map_map]
          rfl
        · rw [List.length_append, List.length_map]
          rw [List.length_cons, Nat.pow_succ, Nat.mul_assoc] at hb
          exact Nat.le_trans (Nat.mul_le_mul_left _ (by omega)) hb
  · have z : 2 ^ lot.length ≤ 2 ^ 8 := Nat.pow_le_pow_right (by decide) hl
    simpa using z
theorem flat_ints (l : List Int) : (l.map D.int).all flatD = true := by
  rw [List.all_eq_true]
  intro d hd
  obtain ⟨x, _, rfl⟩ := List.mem_map.mp hd
  rfl
theorem any_int (l : List Int) (h : Int) : ((l.map D.int).any fun z => eqF z (.int h)) = decide (h ∈ l) := by
  rw [Bool.eq_iff_iff, List.any_eq_true, decide_eq_true_iff]
  constructor
  · rintro ⟨d, hd, e⟩
    obtain ⟨x, hx, rfl⟩ := List.mem_map.mp hd
    have : x = h := by simpa [eqF] using e
    exact this ▸ hx
  · intro hx
    exact ⟨.int h, List.mem_map.mpr ⟨h, hx, rfl⟩, by simp [eqF]⟩
def minI (ns : List Int) : Int := (ns.min?).getD 0
theorem minI_eq {ns : List Int} {m : Int} (h : m ∈ ns) (hm : ∀ y, y ∈ ns → m ≤ y) : m = minI ns := by
  have z : ns.min? = some m := List.min?_eq_some_iff.mpr ⟨h, hm⟩
  unfold minI
  rw [z]; rfl
theorem minLD_of {M : Mem} {Q : QD} {ns : List Int} (h : 0 < ns.length) (q : Q (.int (minI ns)) M) : minLD [.lst (ns.map D.int)] M Q :=
  ⟨ns, rfl, h, fun m h1 h2 => by rw [minI_eq h1 h2]; exact q⟩
def lI (l : List Int) : D := .lst (l.map D.int)
def fewest (rows others : List (List Int)) (liars : List Int) : Int :=
  minI (rows.map fun one => minI (others.map fun lot => ((one.filter fun h => decide (h ∈ lot.filter fun g => !decide (g ∈ liars))).length : Int)))
def Small (rows : List (List Int)) : Prop := 0 < rows.length ∧ rows.length ≤ 256 ∧ ∀ l ∈ rows, l.length ≤ 8
def S_fewest : DSp := fun ds M Q => ∃ (rows others : List (List Int)) (liars : List Int), ds = [.lst (rows.map tI), .lst (others.map tI), tI liars] ∧ Small rows ∧ Small others ∧ Q (.int (fewest rows others liars)) M
theorem sem_fewest : ∀ ds M Q, S_fewest ds M Q → b_law_fewest { nx := fun _ M => Q .non M, rt := Q } (startD N_law_fewest ds) M := by
  rintro ds M Q ⟨rows, others, liars, rfl, ⟨r1, r2, r3⟩, ⟨o1, o2, o3⟩, q⟩
  show b_law_fewest _ [some (.lst (rows.map tI)), some (.lst (others.map tI)), some (tI liars), none, none, none, none] M
  unfold b_law_fewest
  refine sq_ fun nx go => ?_
  walk_at "go"
  simp only [wipeD]
  refine lc_all tI (fun l => lI (l.filter fun g => !decide (g ∈ liars))) trivial others (fun l hl Y N hY => ?_) (by rw [sizeLine_eq]; omega) ?_
  · unfold tI
    walk_at "go"
    simp only [wipeD]
    refine lc_map D.int (fun g => !decide (g ∈ liars)) D.int trivial l [] (fun g hg Y N hY hN => ?_) (by have := o3 l hl; rw [sizeLine_eq]; simp; omega) ?_
    · walk_at "go"
      refine ⟨rfl, flat_ints _, ?_⟩
      rw [any_int]
      refine ite_bool (fun h => hY h) (fun h => hN h)
    · rw [List.nil_append]
      exact hY
  · refine go _ _ ?_
    walk_at "go"
    simp only [wipeD]
    refine lc_all tI (fun one => .int (minI (others.map fun lot => ((one.filter fun h => decide (h ∈ lot.filter fun g => !decide (g ∈ liars))).length : Int)))) trivial rows (fun l hl Y N hY => ?_) (by rw [sizeLine_eq]; omega) ?_
    · walk_at "go"
      simp only [wipeD]
      refine lc_all (grd := noGrd) (fun l => lI (l.filter fun g => !decide (g ∈ liars))) (fun lot => .int ((l.filter fun h => decide (h ∈ lot.filter fun g => !decide (g ∈ liars))).length : Int)) trivial others (fun lot hlot Y N hY => ?_) (by rw [sizeLine_eq]; omega) ?_
      · unfold tI lI
        walk_at "go"
        simp only [wipeD]
        refine lc_map D.int (fun h => decide (h ∈ lot.filter fun g => !decide (g ∈ liars))) D.int trivial l [] (fun g hg Y N hY hN => ?_) (by have := r3 l hl; rw [sizeLine_eq]; simp; omega) ?_
        · walk_at "go"
          refine ⟨rfl, flat_ints _, ?_⟩
          rw [any_int]
          refine ite_bool (fun h => hY h) (fun h => hN h)
        · rw [List.nil_append]
          rw [List.length_map]
          exact hY
      · have e : (others.map fun lot => D.int ((l.filter fun h => decide (h ∈ lot.filter fun g => !decide (g ∈ liars))).length : Int)) = (others.map fun lot => ((l.filter fun h => decide (h ∈ lot.filter fun g => !decide (g ∈ liars))).length : Int)).map D.int := by rw [List.map_map]; rfl
        rw [e]
        exact minLD_of (by simpa using o1) hY
    · have e : (rows.map fun one => D.int (minI (others.map fun lot => ((one.filter fun h => decide (h ∈ lot.filter fun g => !decide (g ∈ liars))).length : Int)))) = (rows.map fun one => (minI (others.map fun lot => ((one.filter fun h => decide (h ∈ lot.filter fun g => !decide (g ∈ liars))).length : Int)))).map D.int := by rw [List.map_map]; rfl
      rw [e]
      exact minLD_of (by simpa using r1) q
/-! the sums -/
def S_sums (C : Addr) : DSp := fun ds M Q => ∃ (n : Nums) (m : Str) (most : Int), n.Good ∧ Way m ∧ ds = [.tup n.vals, .str m, .int most] ∧ Q (.bl true) M
theorem sem_sums (C : Addr) : ∀ ds M Q, S_sums C ds M Q → b_law_sums_right (S_made C) (S_needed_apart C) (S_taken_slack C) (S_shown_slack C) (S_like 5) (S_least_apart C) (S_kinds_of C) { nx := fun _ M => Q .non M, rt := Q } (startD N_law_sums_right ds) M := by
  rintro ds M Q ⟨n, m, most, g, hm, rfl, q⟩
  show b_law_sums_right _ _ _ _ _ _ _ _ [some (.tup n.vals), some (.str m), some (.int most), none, none, none, none, none, none, none, none, none, none, none, none] M
  unfold b_law_sums_right
  refine sq_ fun nx go => ?_
  unfold Nums.vals at go ⊢
  walk_at "go"
  refine go _ _ (sq_ fun nx go => ?_)
  walk_at "go"
  refine ⟨n, g, rfl, ?_⟩
  have key : nx [some (.tup n.vals), some (.str m), some (.int most), some (.int n.k), some (.int n.f), some (.int n.d), some (.int n.a), some (.int n.w1), some (.int n.w2), some (.int n.c), some (n.obj C), some (.int (wide m most)), none, none, none] M := by
    refine go _ _ (sq_ fun nx go => ?_)
    walk_at "go"
    refine ⟨n, m, most, rfl, hm, ?_⟩
    walk_at "go"
    refine ⟨n, rfl, n, rfl, ?_⟩
    walk_at "go"
    refine ⟨by decide, go _ _ (sq_ fun nx go => ?_)⟩
    walk_at "go"
    refine ⟨.inl (by decide), by decide, _, rfl, rfl, ?_⟩
    walk_at "go"
    refine go _ _ (sq_ fun nx go => ?_)
    have kk : kindsL n m most = (if 0 < n.f ∧ 2 * n.w1 ≤ n.k + n.f then [.str "papers"] else []) ++ (if n.c + n.w2 ≤ n.k + n.f + wide m most then [.str "unseen"] else []) := by
      have e1 : (0 < n.f ∧ taken n ≤ 0) = (0 < n.f ∧ 2 * n.w1 ≤ n.k + n.f) := propext (by unfold taken; omega)
      have e2 : (shown n m most ≤ 0) = (n.c + n.w2 ≤ n.k + n.f + wide m most) := propext (by unfold shown; omega)
      unfold kindsL
      simp only [e1, e2]
    have key2 : nx [some (.tup n.vals), some (.str m), some (.int most), some (.int n.k), some (.int n.f), some (.int n.d), some (.int n.a), some (.int n.w1), some (.int n.w2), some (.int n.c), some (n.obj C), some (.int (wide m most)), some (.tup [.int (shown n m most), .int (taken n), .int (needed n)]), some (.lst (kindsL n m most)), none] M := by
      refine go _ _ (sq_ fun nx go => ?_)
      have key3 : nx [some (.tup n.vals), some (.str m), some (.int most), some (.int n.k), some (.int n.f), some (.int n.d), some (.int n.a), some (.int n.w1), some (.int n.w2), some (.int n.c), some (n.obj C), some (.int (wide m most)), some (.tup [.int (shown n m most), .int (taken n), .int (needed n)]), some (.lst (kindsL n m most)), some (leastD n m most)] M := by
        refine go _ _ ?_
        walk_at "go"
        refine ⟨n, m, most, rfl, hm, ?_⟩
        walk_at "go"
        refine ⟨n, m, most, rfl, hm, by decide, by decide, _, rfl, ?_, q⟩
        unfold leastD kindsL
        by_cases h1 : 0 < n.f ∧ taken n ≤ 0
        · by_cases h3 : shown n m most ≤ 0
          · simp only [if_pos h1, if_pos h3]; rfl
          · simp only [if_pos h1, if_neg h3]; rfl
        · by_cases h3 : shown n m most ≤ 0
          · simp only [if_neg h1, if_pos h3]; rfl
          · simp only [if_neg h1, if_neg h3]; rfl
      clear go
      unfold leastD at key3
      unfold kindsL at key3 ⊢
      by_cases h1 : 0 < n.f ∧ taken n ≤ 0
      · by_cases h3 : shown n m most ≤ 0
        · simp only [if_pos h1, if_pos h3] at key3 ⊢
          walk_at "go"
          exact ⟨by decide, rfl, rfl, by decide +kernel, by decide +kernel, key3⟩
        · simp only [if_pos h1, if_neg h3] at key3 ⊢
          walk_at "go"
          exact ⟨by decide, rfl, rfl, by decide +kernel, by decide +kernel, key3⟩
      · by_cases h3 : shown n m most ≤ 0
        · simp only [if_neg h1, if_pos h3] at key3 ⊢
          walk_at "go"
          exact ⟨by decide, rfl, rfl, by decide +kernel, by decide +kernel, key3⟩
        · simp only [if_neg h1, if_neg h3] at key3 ⊢
          walk_at "go"
          exact ⟨by decide, rfl, rfl, by decide +kernel, by decide +kernel, key3⟩
    clear go
    walk_at "go"
    rw [kk] at key2
    refine ⟨by decide, ite_dec (fun h1 => ⟨.inl (by decide), ?_⟩) (fun h1 => ?_)⟩
    · by_cases h2 : 2 * n.w1 ≤ n.k + n.f
      · rw [if_pos ⟨h1, h2⟩] at key2
        by_cases h3 : n.c + n.w2 ≤ n.k + n.f + wide m most
        · rw [if_pos h3] at key2
          simp only [decide_eq_true h2, decide_eq_true h3, ↓reduceIte]
          exact ⟨by decide, by decide, by decide, by decide, by decide, by decide, by decide, by decide, key2⟩
        · rw [if_neg h3] at key2
          simp only [decide_eq_true h2, decide_eq_false h3, Bool.false_eq_true, ↓reduceIte]
          exact ⟨by decide, by decide, by decide, by decide, by decide, by decide, by decide, by decide, key2⟩
      · rw [if_neg (fun z => h2 z.2)] at key2
        by_cases h3 : n.c + n.w2 ≤ n.k + n.f + wide m most
        · rw [if_pos h3] at key2
          simp only [decide_eq_false h2, decide_eq_true h3, Bool.false_eq_true, ↓reduceIte]
          exact ⟨by decide, by decide, by decide, by decide, by decide, by decide, by decide, by decide, key2⟩
        · rw [if_neg h3] at key2
          simp only [decide_eq_false h2, decide_eq_false h3, Bool.false_eq_true, ↓reduceIte]
          exact ⟨by decide, by decide, by decide, by decide, by decide, by decide, by decide, by decide, key2⟩
    · rw [if_neg (fun z => h1 z.1)] at key2
      by_cases h3 : n.c + n.w2 ≤ n.k + n.f + wide m most
      · rw [if_pos h3] at key2
        simp only [decide_eq_true h3, Bool.false_eq_true, ↓reduceIte]
        exact ⟨by decide, by decide, by decide, by decide, by decide, by decide, by decide, by decide, key2⟩
      · rw [if_neg h3] at key2
        simp only [decide_eq_false h3, Bool.false_eq_true, ↓reduceIte]
        exact ⟨by decide, by decide, by decide, by decide, by decide, by decide, by decide, by decide, key2⟩
  walk_at "go"
  unfold wide at key
  refine ite_dec (fun h => ?_) (fun h => ?_)
  · rw [if_pos h] at key; exact key
  · rw [if_neg h] at key; exact key
/-! the small world -/
def ups (lo : Int) (k : Nat) : List Int := (List.range k).map fun i => lo + (i : Nat)
theorem rng_ups (lo : Int) (k : Nat) : rngD lo k = (ups lo k).map D.int := by unfold rngD ups; rw [List.map_map]; rfl
def paperL (k f w1 : Nat) : List Int := (lots (ups 0 k) f).map fun l => fewest (lots (ups 0 k) w1) (lots (ups 0 k) w1) l
def unseenL (k f : Nat) (ap : Nat) (w2 c : Nat) : List Int := (lots (ups 0 k) f).map fun l => fewest (lots (ups 0 k) w2) (lots (ups (ap : Int) k) c) l
def okP (k f w1 : Nat) : Bool := decide (0 < (lots (ups 0 k) f).length) && decide ((0 < minI (paperL k f w1)) ↔ 0 < 2 * (w1 : Int) - k - f) && decide (0 ≤ minI (paperL k f w1))
def okU (k f ap w2 c : Nat) : Bool := decide (((0 < minI (unseenL k f ap w2 c)) ↔ ((ap : Int) < max 0 ((c : Int) + w2 - k - f))) ∨ (k : Int) - ap < f)
theorem allP : ∀ k ∈ List.range 5, ∀ f ∈ List.range k, ∀ w1 ∈ List.range k, okP k f (w1 + 1) = true := by decide +kernel
def okS (k lo m : Nat) : Bool := decide (0 < (lots (ups lo k) m).length) && decide ((lots (ups lo k) m).length ≤ 256) && (lots (ups lo k) m).all fun l => decide (l.length ≤ 8)
theorem allS : ∀ k ∈ List.range 5, ∀ lo ∈ List.range (k + 1), ∀ m ∈ List.range (k + 1), okS k lo m = true := by decide +kernel
theorem small_lots {k lo m : Nat} (h1 : k ≤ 4) (h2 : lo ≤ k) (h3 : m ≤ k) : Small (lots (ups lo k) m) := by
  have z := allS k (by simp; omega) lo (by simp; omega) m (by simp; omega)
  unfold okS at z
  rw [Bool.and_eq_true, Bool.and_eq_true, List.all_eq_true] at z
  exact ⟨of_decide_eq_true z.1.1, of_decide_eq_true z.1.2, fun l hl => of_decide_eq_true (z.2 l hl)⟩
theorem allU : ∀ k ∈ List.range 5, ∀ f ∈ List.range k, ∀ ap ∈ List.range (k + 1), ∀ w2 ∈ List.range k, ∀ c ∈ List.range k, okU k f ap (w2 + 1) (c + 1) = true := by decide +kernel
theorem kinds_flat (n : Nums) (m : Str) (s : Int) : (kindsL n m s).all flatD = true := by
  unfold kindsL
  split <;> split <;> rfl
theorem kinds_any_u (n : Nums) (m : Str) (s : Int) : ((kindsL n m s).any fun z => eqF z (.str "unseen")) = decide (shown n m s ≤ 0) := by
  unfold kindsL
  by_cases h1 : 0 < n.f ∧ taken n ≤ 0 <;> by_cases h3 : shown n m s ≤ 0
  · rw [if_pos h1, if_pos h3, decide_eq_true h3]; decide +kernel
  · rw [if_pos h1, if_neg h3, decide_eq_false h3]; decide +kernel
  · rw [if_neg h1, if_pos h3, decide_eq_true h3]; decide +kernel
  · rw [if_neg h1, if_neg h3, decide_eq_false h3]; decide +kernel
theorem kinds_any_p (n : Nums) (m : Str) (s : Int) : ((kindsL n m s).any fun z => eqF z (.str "papers")) = decide (0 < n.f ∧ taken n ≤ 0) := by
  unfold kindsL
  by_cases h1 : 0 < n.f ∧ taken n ≤ 0 <;> by_cases h3 : shown n m s ≤ 0
  · rw [if_pos h1, if_pos h3, decide_eq_true h1]; decide +kernel
  · rw [if_pos h1, if_neg h3, decide_eq_true h1]; decide +kernel
  · rw [if_neg h1, if_pos h3, decide_eq_false h1]; decide +kernel
  · rw [if_neg h1, if_neg h3, decide_eq_false h1]; decide +kernel
theorem mput_comm {M : Mem} {p p' : Addr} {X Y X2 : MO} (h : p ≠ p') : mput (mput (mput M p X) p' Y) p X2 = mput (mput M p X2) p' Y := by
  funext b
  by_cases h1 : b = p
  · subst h1; rw [mput_same, mput_ne h, mput_same]
  · by_cases h2 : b = p'
    · subst h2; rw [mput_ne h1, mput_same, mput_same]
    · rw [mput_ne h1, mput_ne h2, mput_ne h1, mput_ne h2, mput_ne h1]
theorem isLst_of {M : Mem} {a : Addr} {ds : List D} (h : M a = some (.lst ds)) : isLstD M (.ref a) := by
  unfold isLstD
  rw [view_of h]
  trivial
theorem minLD_ref {M : Mem} {Q : QD} {a : Addr} {ns : List Int} (e : M a = some (.lst (ns.map D.int))) (h : 0 < ns.length) (q : Q (.int (minI ns)) M) : minLD [.ref a] M Q :=
  ⟨ns, view_of e, h, fun m h1 h2 => by rw [minI_eq h1 h2]; exact q⟩
end K32

set_option Elab.async false
set_option linter.all false
set_option maxRecDepth 100000
set_option maxHeartbeats 4000000
namespace K32
open PySem PySem.Spec PyProof.Rows L2 DL
local macro_rules | `(tactic| walk_at "go") => `(tactic| simp only [↓e_dTest, ↓e_dOp, ↓e_dUn, ↓e_dVar, ↓e_dC, ↓e_dAnd, ↓e_dOr, ↓e_dNot, ↓e_dAndV, ↓e_dOrV, ↓e_dNotV, ↓e_dIf, ↓e_dNil, ↓e_dCons, ↓e_dTup, ↓e_dLst, ↓e_dLstM, ↓e_dCB, ↓e_dNext, ↓e_dBreak, ↓e_dCont, ↓e_dDrop, ↓e_dRet, ↓e_dRetN, ↓e_dAsg, ↓e_dgName, ↓e_dgTup, ↓e_dgCons, ↓e_dgNil, ↓e_dgSub, ↓e_dPar, ↓e_dAug, ↓e_dBM, ↓e_dBM0, ↓e_dFld, ↓e_dCall, ↓e_dCallN, ↓e_dSl, ↓e_dRev, ↓e_dRevM, ↓e_dPart, ↓e_dNoPart, ↓e_diAny, ↓e_diRng1, ↓e_diRng2, ↓e_diEnum, ↓e_diZip, ↓e_dLc, ↓e_dLcM, ↓e_dYes, ↓e_dFor, ↓e_dIfS, ↓e_dMeth, ↓e_dTupRg1, ↓e_dTupRg2, ↓e_dLstRg1, ↓e_dLstRg2, ↓e_dIsi2, ↓e_dNever, ↓look_0, ↓look_1, ↓look_2, ↓look_3, ↓look_4, ↓look_5, ↓look_6, ↓look_7, ↓look_8, ↓look_9, ↓look_10, ↓look_11, ↓look_12, ↓look_13, ↓look_14, ↓look_15, ↓look_16, ↓look_17, ↓look_18, ↓look_19, ↓look_20, ↓look_21, ↓look_22, ↓look_23, ↓look_24, ↓look_25, ↓q_addD_int, ↓q_addD_lst, ↓q_addD_tup, ↓q_addD_str, ↓q_iaddD_int, ↓q_subD_int, ↓q_mulD_int, ↓q_mulD_lst, ↓q_fdivD_int, ↓q_modD_int, ↓q_powD_int, ↓q_negD_int, ↓q_ltD_int, ↓q_leD_int, ↓q_gtD_int, ↓q_geD_int, ↓q_eqD_int, ↓q_eqD_bl, ↓q_eqD_str, ↓q_eqD_tup, ↓q_eqD_lst, ↓q_neD_int, ↓q_neD_bl, ↓q_neD_str, ↓q_neD_tup, ↓q_neD_lst, ↓q_isD_non, ↓q_isD_bl, ↓q_notD_non, ↓q_notD_bl, ↓isNon_non, ↓isNon_int, ↓isNon_bl, ↓isNon_str, ↓isNon_tup, ↓isNon_lst, ↓q_intD_int, ↓q_intD_bl, ↓q_absD_int, ↓q_lenD_lst, ↓q_lenD_tup, ↓q_lenD_scr, ↓q_tupleD_lst, ↓q_tupleD_tup, ↓q_listD_lst, ↓q_listD_tup, ↓q_listMD_lst, ↓q_listMD_tup, ↓q_ixD_tup, ↓q_ixD_lst, ↓q_ixD_scr, ↓q_inD_lst, ↓q_inD_tup, ↓q_notInD_lst, ↓q_notInD_tup, ↓q_slD_lst, ↓q_slD_scr, ↓q_slD_tup, ↓q_revD_lst, ↓q_revMD_lst, ↓q_nthN_0, ↓q_nthN_1, ↓q_nthN_2, ↓q_nthN_3, ↓q_nthN_4, ↓q_nthN_5, ↓q_nthN_6, ↓q_srcD_lst, ↓q_srcD_scr, ↓q_srcD_tup, ↓fldsD_obj, ↓max2D_int, ↓min2D_int, ↓nth_0, ↓nth_1, ↓nth_2, ↓nth_3, ↓nth_4, ↓nth_5, ↓nth_6, ↓nth_7, ↓isi_non_bool, ↓isi_non_int, ↓isi_non_str, ↓isi_non_tuple, ↓isi_non_list, ↓isi_bl_bool, ↓isi_bl_int, ↓isi_bl_str, ↓isi_bl_tuple, ↓isi_bl_list, ↓isi_int_bool, ↓isi_int_int, ↓isi_int_str, ↓isi_int_tuple, ↓isi_int_list, ↓isi_str_bool, ↓isi_str_int, ↓isi_str_str, ↓isi_str_tuple, ↓isi_str_list, ↓isi_tup_bool, ↓isi_tup_int, ↓isi_tup_str, ↓isi_tup_tuple, ↓isi_tup_list, ↓isi_lst_bool, ↓isi_lst_int, ↓isi_lst_str, ↓isi_lst_tuple, ↓isi_lst_list, ↓ite_t_, ↓ite_f_, ↓ite_nt_, ↓ite_nf_, setMany, List.set, List.nil_append, List.cons_append, List.append_nil, List.length_cons, List.length_nil, true_and, Bool.not_true, Bool.not_false, List.isEmpty_nil])
/-- M' still knows all that M knows -/
def Kp (M M' : Mem) : Prop := ∀ a o, M a = some o → M' a = some o
theorem Kp.src {M M' : Mem} {x : D} (k : Kp M M') (h : IsSrc M x) : IsSrc M' x := by
  obtain ⟨h, c, e, e1, e2⟩ := h
  exact ⟨h, c, e, k _ _ e1, k _ _ e2⟩
theorem Kp.refl {M : Mem} : Kp M M := fun _ _ h => h
theorem Kp.put {M M' : Mem} (k : Kp M M') {p : Addr} {o : MO} (h : M p = none) : Kp M (mput M' p o) := fun a u e => by
  rw [mput_ne (fun z => by rw [z, h] at e; cases e)]
  exact k a u e
def S_small : DSp := fun ds M Q => ∃ x, ds = [x] ∧ IsSrc M x ∧ ∀ M', Kp M M' → Q (.bl true) M'
theorem sem_small (C : Addr) : ∀ ds M Q, S_small ds M Q → b_law_small C S_draw (S_init C) S_lots S_fewest (S_taken_slack C) (S_needed_apart C) (S_kinds_of C) { nx := fun _ M => Q .non M, rt := Q } (startD N_law_small ds) M := by
  rintro ds M Q ⟨x, rfl, hs, q⟩
  show b_law_small _ _ _ _ _ _ _ _ _ [some x, none, none, none, none, none, none, none, none, none, none, none, none, none, none] M
  unfold b_law_small
  refine sq_ fun nx go => ?_
  walk_at "go"
  refine ⟨_, _, rfl, hs, by decide, by decide, fun k k0 k1 => ?_⟩
  obtain ⟨k, rfl⟩ : ∃ n : Nat, k = n := ⟨k.toNat, by omega⟩
  walk_at "go"
  refine go _ _ (sq_ fun nx go => ?_)
  walk_at "go"
  refine ⟨_, _, rfl, hs, by omega, by omega, fun f f0 f1 => ?_⟩
  refine ⟨_, _, rfl, hs, by omega, by omega, fun ap a0 a1 => ?_⟩
  obtain ⟨f, rfl⟩ : ∃ n : Nat, f = n := ⟨f.toNat, by omega⟩
  obtain ⟨ap, rfl⟩ : ∃ n : Nat, ap = n := ⟨ap.toNat, by omega⟩
  refine go _ _ (sq_ fun nx go => ?_)
  walk_at "go"
  refine ⟨_, _, rfl, hs, by omega, by omega, fun w1 w10 w11 => ?_⟩
  walk_at "go"
  refine ⟨_, _, rfl, hs, by omega, by omega, fun w2 w20 w21 => ?_⟩
  walk_at "go"
  refine ⟨_, _, rfl, hs, by omega, by omega, fun c c0 c1 => ?_⟩
  obtain ⟨w1, rfl⟩ : ∃ n : Nat, w1 = n := ⟨w1.toNat, by omega⟩
  obtain ⟨w2, rfl⟩ : ∃ n : Nat, w2 = n := ⟨w2.toNat, by omega⟩
  obtain ⟨c, rfl⟩ : ∃ n : Nat, c = n := ⟨c.toNat, by omega⟩
  walk_at "go"
  have fP := allP (k + 1) (by simp; omega) f (by simp; omega) w1 (by simp; omega)
  have fU := allU (k + 1) (by simp; omega) f (by simp; omega) ap (by simp; omega) w2 (by simp; omega) c (by simp; omega)
  have ek : (1 : Int) + k = ((k + 1 : Nat) : Int) := by omega
  have e1 : (1 : Int) + w1 = ((w1 + 1 : Nat) : Int) := by omega
  have e2 : (1 : Int) + w2 = ((w2 + 1 : Nat) : Int) := by omega
  have e3 : (1 : Int) + c = ((c + 1 : Nat) : Int) := by omega
  rw [ek, e1, e2, e3]
  have hk1 : 1 ≤ k + 1 := by omega
  have hk4 : k + 1 ≤ 4 := by omega
  have hf : f < k + 1 := by omega
  have ha : ap ≤ k + 1 := by omega
  have hw1 : w1 < k + 1 := by omega
  have hw2 : w2 < k + 1 := by omega
  have hc : c < k + 1 := by omega
  clear ek e1 e2 e3 k0 k1 f0 f1 a0 a1 w10 w11 w20 w21 c0 c1
  generalize k + 1 = k at *
  refine go _ _ (sq_ fun nx go => ?_)
  walk_at "go"
  rw [show ((k : Int) + ap - ap).toNat = k by omega, show ((k : Int)).toNat = k by omega, rng_ups, rng_ups]
  refine ⟨⟨by omega, by omega, by omega, by omega⟩, ⟨by omega, by omega, by omega, by omega⟩, go _ _ (sq_ fun nx go => ?_)⟩
  walk_at "go"
  refine make_ (ds := Nums.vals ⟨k, f, 1, 1, (w1 + 1 : Nat), (w2 + 1 : Nat), (c + 1 : Nat)⟩) (ns := ns_Numbers) (vs := Nums.vals ⟨k, f, 1, 1, (w1 + 1 : Nat), (w2 + 1 : Nat), (c + 1 : Nat)⟩) (fun R h => ?_)
    (fun p R hp h => ⟨p, ⟨k, f, 1, 1, (w1 + 1 : Nat), (w2 + 1 : Nat), (c + 1 : Nat)⟩, ⟨?_, ?_, ?_, ?_, ?_, ?_, ?_, ?_, ?_, ?_, ?_, ?_, ?_, ?_⟩, by rw [List.append_nil], mput_same, by rw [mput_mput]; exact h⟩) ?_
  · walk_at "go"
    exact h
  iterate 14 (· dsimp only; omega)
  refine ⟨by decide, fun p hp => ⟨by decide, fun p' hp' => ?_⟩⟩
  have hne : p ≠ p' := fun z => by rw [← z, mput_same] at hp'; cases hp'
  refine go _ _ (sq_ fun nx go => ?_)
  walk_at "go"
  have hlen : ∀ lo : Int, (ups lo k).length ≤ 8 := fun lo => by unfold ups; simp; omega
  refine ⟨ups 0 k, f, rfl, hlen 0, by omega, ?_⟩
  walk_at "go"
  refine forL_inv (fun ds Γ M' => ∃ (done rem : List (List Int)) (o o' o'' : Option D), ds = rem.map tI ∧ lots (ups 0 k) f = done ++ rem ∧ Γ = [some x, some (D.int ↑k), some (D.int ↑f), some (D.int ↑ap), some (D.int ↑(w1 + 1)), some (D.int ↑(w2 + 1)), some (D.int ↑(c + 1)), some (tI (ups 0 k)), some (tI (ups ap k)), some (Nums.obj C ⟨k, f, 1, 1, (w1 + 1 : Nat), (w2 + 1 : Nat), (c + 1 : Nat)⟩), some (D.ref p), some (D.ref p'), o, o', o''] ∧
      M' = mput (mput M p (.lst ((done.map fun l => fewest (lots (ups 0 k) (w1 + 1)) (lots (ups 0 k) (w1 + 1)) l).map D.int))) p' (.lst ((done.map fun l => fewest (lots (ups 0 k) (w2 + 1)) (lots (ups ap k) (c + 1)) l).map D.int)))
    (fun _ _ _ _ => trivial) ?_ ?_ _ _ _ ⟨[], lots (ups 0 k) f, _, _, _, rfl, rfl, rfl, rfl⟩
  · rintro Γ M' ⟨done, rem, o, o', o'', e, hd, rfl, rfl⟩
    cases rem with
    | cons _ _ => cases e
    | nil =>
      rw [List.append_nil] at hd
      rw [← hd]
      have mp : ∀ X Y : MO, mput (mput M p X) p' Y p = some X := fun X Y => by rw [mput_ne hne, mput_same]
      have f1 : 0 < (lots (ups 0 k) f).length := (small_lots (k := k) (lo := 0) (m := f) hk4 (by omega) (by omega)).1
      have fP1 : decide (0 < minI (paperL k f (w1 + 1))) = decide (0 < taken ⟨k, f, 1, 1, (w1 + 1 : Nat), (w2 + 1 : Nat), (c + 1 : Nat)⟩) := by
        unfold okP at fP
        rw [Bool.and_eq_true, Bool.and_eq_true] at fP
        exact decide_eq_decide.mpr (of_decide_eq_true fP.1.2)
      have fP2 : 0 ≤ minI (paperL k f (w1 + 1)) := by
        unfold okP at fP
        rw [Bool.and_eq_true, Bool.and_eq_true] at fP
        exact of_decide_eq_true fP.2
      have fU1 := of_decide_eq_true fU
      generalize hX : MO.lst ((List.map (fun l => fewest (lots (ups 0 k) (w1 + 1)) (lots (ups 0 k) (w1 + 1)) l) (lots (ups 0 k) f)).map D.int) = X
      generalize hY : MO.lst ((List.map (fun l => fewest (lots (ups 0 k) (w2 + 1)) (lots (ups ap k) (c + 1)) l) (lots (ups 0 k) f)).map D.int) = Y
      have eX : mput (mput M p X) p' Y p = some (.lst ((paperL k f (w1 + 1)).map D.int)) := by rw [mp, ← hX]; rfl
      have eY : mput (mput M p X) p' Y p' = some (.lst ((unseenL k f ap (w2 + 1) (c + 1)).map D.int)) := by rw [mput_same, ← hY]; rfl
      have lP : 0 < (paperL k f (w1 + 1)).length := by unfold paperL; rw [List.length_map]; exact f1
      have lU : 0 < (unseenL k f ap (w2 + 1) (c + 1)).length := by unfold unseenL; rw [List.length_map]; exact f1
      have hM : Kp M (mput (mput M p X) p' Y) := (Kp.refl.put hp).put (by rw [mput_ne hne.symm] at hp'; exact hp')
      generalize mput (mput M p X) p' Y = M2 at eX eY hM ⊢
      refine go _ _ (sq_ fun nx go => ?_)
      walk_at "go"
      refine minLD_ref eX lP ?_
      walk_at "go"
      refine ⟨_, rfl, ?_⟩
      walk_at "go"
      refine ite_nodec (fun _ => ?_) (fun z => absurd fP1 z)
      refine go _ _ (sq_ fun nx go => ?_)
      walk_at "go"
      refine minLD_ref eY lU ?_
      walk_at "go"
      refine ⟨_, rfl, ?_⟩
      walk_at "go"
      have key : nx [some x, some (D.int ↑k), some (D.int ↑f), some (D.int ↑ap), some (D.int ↑(w1 + 1)), some (D.int ↑(w2 + 1)), some (D.int ↑(c + 1)), some (tI (ups 0 k)), some (tI (ups ap k)), some (Nums.obj C ⟨k, f, 1, 1, (w1 + 1 : Nat), (w2 + 1 : Nat), (c + 1 : Nat)⟩), some (D.ref p), some (D.ref p'), o, o', o''] M2 := by
        refine go _ _ (sq_ fun nx go => ?_)
        walk_at "go"
        refine ⟨_, _, _, rfl, .inr (.inl rfl), ?_⟩
        walk_at "go"
        refine go _ _ (sq_ fun nx go => ?_)
        walk_at "go"
        refine ⟨rfl, kinds_flat _ _ _, _, rfl, ?_⟩
        walk_at "go"
        rw [kinds_any_u]
        refine ite_nodec (fun _ => ?_) (fun z => absurd ?_ z)
        · refine go _ _ ?_
          walk_at "go"
          refine ⟨rfl, kinds_flat _ _ _, ?_⟩
          rw [kinds_any_p]
          refine ite_dec (fun h1 => ?_) (fun h1 => ?_)
          · refine minLD_ref eX lP ?_
            walk_at "go"
            have e : decide (0 < (f : Int) ∧ taken ⟨k, f, 1, 1, (w1 + 1 : Nat), (w2 + 1 : Nat), (c + 1 : Nat)⟩ ≤ 0) = decide (minI (paperL k f (w1 + 1)) = 0) := by
              have z := decide_eq_decide.mp fP1
              refine decide_eq_decide.mpr ⟨fun h => by omega, fun h => ⟨h1, by omega⟩⟩
            rw [e, decide_eq_true rfl]
            exact q M2 hM
          · walk_at "go"
            rw [show decide (0 < (f : Int) ∧ taken ⟨k, f, 1, 1, (w1 + 1 : Nat), (w2 + 1 : Nat), (c + 1 : Nat)⟩ ≤ 0) = false from decide_eq_false fun h => h1 h.1, decide_eq_true rfl]
            exact q M2 hM
        · refine decide_eq_decide.mpr ?_
          unfold shown needed wide
          rw [if_pos rfl]
          dsimp only
          omega
      refine ite_nodec (fun _ => key) (fun h => ite_dec (fun h2 => absurd ?_ h) (fun _ => key))
      refine decide_eq_decide.mpr ?_
      unfold needed
      dsimp only
      omega
  · rintro y ys Γ M' ⟨done, rem, o, o', o'', e, hd, rfl, rfl⟩ nx' go'
    cases rem with
    | nil => cases e
    | cons l rem =>
      cases e
      walk_at "go"
      refine sq_ fun nx go => ?_
      walk_at "go"
      refine ⟨ups 0 k, w1 + 1, rfl, hlen 0, by omega, ?_⟩
      refine go _ _ (sq_ fun nx go => ?_)
      walk_at "go"
      have s0 : Small (lots (ups 0 k) (w1 + 1)) := small_lots (lo := 0) hk4 (by omega) (by omega)
      refine ⟨isLst_of (by rw [mput_ne hne, mput_same]), _, _, l, rfl, s0, s0, ?_⟩
      have hdl : done.length ≤ 256 := by
        have z := (small_lots (k := k) (lo := 0) (m := f) hk4 (by omega) (by omega)).2.1
        have z2 : (lots (ups ((0 : Nat) : Int) k) f).length = done.length + (rem.length + 1) := by
          show (lots (ups 0 k) f).length = _
          rw [hd, List.length_append, List.length_cons]
        omega
      refine app_r (by rw [mput_ne hne, mput_same]) (by rw [sizeLine_eq]; simp; omega) ?_
      rw [mput_comm hne]
      refine go _ _ ?_
      walk_at "go"
      refine ⟨isLst_of mput_same, ups 0 k, w2 + 1, rfl, hlen 0, by omega, ups ap k, c + 1, rfl, hlen ap, by omega, _, _, l, rfl, small_lots (lo := 0) hk4 (by omega) (by omega), small_lots hk4 ha (by omega), ?_⟩
      refine app_r mput_same (by rw [sizeLine_eq]; simp; omega) ?_
      rw [mput_mput]
      refine go' _ _ ⟨done ++ [l], rem, _, _, _, rfl, by rw [hd]; simp, rfl, ?_⟩
      simp only [List.map_append, List.map_cons, List.map_nil]
def S_law : DSp := fun ds M Q => ∃ ns : List Int, ds = [.scr (ns.map D.int)] ∧ ns.length ≤ 63 ∧ ∀ M', Q (.bl true) M'
theorem sem_law (C : Addr) : ∀ ds M Q, S_law ds M Q → b_law S_heap S_draw S_numbers (S_sums C) S_small (S_like 5) (S_kinds_of C) (S_made C) (S_least_apart C) { nx := fun _ M => Q .non M, rt := Q } (startD N_law ds) M := by
  rintro ds M Q ⟨ns, rfl, hl, q⟩
  show b_law _ _ _ _ _ _ _ _ _ _ [some (.scr (ns.map D.int)), none, none, none, none, none, none] M
  unfold b_law
  refine sq_ fun nx go => ?_
  walk_at "go"
  refine ⟨ns, rfl, hl, fun h c hh hc hne => ?_⟩
  have hs : IsSrc (mput (mput M c .srcC) h (.srcH c)) (.ref h) := ⟨h, c, rfl, mput_same, by rw [mput_ne hne.symm, mput_same]⟩
  generalize mput (mput M c .srcC) h (.srcH c) = M1 at hs
  refine go _ _ (sq_ fun nx go => ?_)
  walk_at "go"
  refine ⟨⟨by decide, by decide⟩, ?_⟩
  refine forL_inv (fun _ Γ M' => IsSrc M' (.ref h) ∧ ∃ (o1 o2 o3 o4 o5 : Option D), Γ = [some (.scr (ns.map D.int)), some (D.ref h), o1, o2, o3, o4, o5]) (fun _ _ _ _ => trivial) ?_ ?_ _ _ _ ⟨hs, _, _, _, _, _, rfl⟩
  · rintro Γ M' ⟨hs, o1, o2, o3, o4, o5, rfl⟩
    refine go _ _ ?_
    walk_at "go"
    refine ⟨by decide, ⟨3, 1, 1, 1, 3, 3, 3⟩, ⟨by decide, by decide, by decide, by decide, by decide, by decide, by decide, by decide, by decide, by decide, by decide, by decide, by decide, by decide⟩, rfl, ?_⟩
    refine ⟨_, _, _, rfl, .inr (.inl rfl), ?_⟩
    refine ⟨by decide, ⟨2, 1, 0, 0, 1, 2, 2⟩, ⟨by decide, by decide, by decide, by decide, by decide, by decide, by decide, by decide, by decide, by decide, by decide, by decide, by decide, by decide⟩, rfl, ?_⟩
    refine ⟨_, _, _, rfl, .inl rfl, ?_⟩
    refine ⟨by decide, by decide, by decide, ?_⟩
    have e1 : leastD ⟨3, 1, 1, 1, 3, 3, 3⟩ "any" 2 = .int 2 := rfl
    have e2 : kindsL ⟨2, 1, 0, 0, 1, 2, 2⟩ "call" 0 = [.str "papers"] := rfl
    rw [e1, e2]
    exact ⟨_, rfl, rfl, q M'⟩
  · rintro y ys Γ M' ⟨hs, o1, o2, o3, o4, o5, rfl⟩ nx' go'
    walk_at "go"
    refine sq_ fun nx go => ?_
    walk_at "go"
    refine ⟨_, _, rfl, hs, by decide, by decide, fun k k0 k1 => ?_⟩
    walk_at "go"
    refine go _ _ (sq_ fun nx go => ?_)
    walk_at "go"
    refine ⟨by decide, ?_⟩
    refine forL_inv (fun ds Γ M' => IsSrc M' (.ref h) ∧ ∃ (ms : List Str) (o1 o3 o4 o5 : Option D), (∀ m ∈ ms, Way m) ∧ ds = ms.map D.str ∧ Γ = [some (.scr (ns.map D.int)), some (D.ref h), o1, some (.int (1 + k)), o3, o4, o5]) (fun _ _ _ _ => trivial) ?_ ?_ _ _ _ ⟨hs, ["any", "call", "gone"], _, _, _, _, ?_, rfl, rfl⟩
    · rintro Γ M' ⟨hs, ms, o1, o3, o4, o5, _, _, rfl⟩
      refine go _ _ ?_
      walk_at "go"
      refine ⟨_, rfl, hs, fun M2 kp => ?_⟩
      walk_at "go"
      exact go' _ _ ⟨kp.src hs, _, _, _, _, _, rfl⟩
    · rintro y ys Γ M' ⟨hs, ms, o1, o3, o4, o5, hm, e, rfl⟩ nx2 go2
      cases ms with
      | nil => cases e
      | cons m ms =>
        cases e
        walk_at "go"
        refine sq_ fun nx go => ?_
        walk_at "go"
        refine ⟨_, _, _, rfl, hs, by omega, by omega, fun n most g => ?_⟩
        walk_at "go"
        refine go _ _ ?_
        walk_at "go"
        refine ⟨n, m, most, g, hm m (by simp), rfl, ?_⟩
        walk_at "go"
        exact go2 _ _ ⟨hs, ms, _, _, _, _, fun m hm' => hm m (by simp [hm']), rfl, rfl⟩
    · intro m hm
      simp only [List.mem_cons, List.not_mem_nil, or_false] at hm
      rcases hm with rfl | rfl | rfl
      · exact .inr (.inl rfl)
      · exact .inl rfl
      · exact .inr (.inr (.inr rfl))
end K32

set_option Elab.async false
set_option linter.all false
set_option maxRecDepth 100000
set_option maxHeartbeats 4000000
namespace K32
open PySem PySem.Spec PyProof.Rows L2 DL
theorem all_mk {l : PySem.W.OpenLaw} {w : World} {K : PySem.W.Frag} {h : Heap} {mg : Str → Option Value} {fa : Addr} (X0 : K.In h) (G0 : h.Ns mainGlobals mg) (hfa : mg "law" = some (.ref fa))
    {C_Numbers : Addr}
    {Ac_WAYS : Addr} {dc_WAYS : Option Addr} {nc_WAYS : Nat} {sc_WAYS : Array (Option Value)} {tc_WAYS_0 : Tok} {tc_WAYS_1 : Tok} {tc_WAYS_2 : Tok} {tc_WAYS_3 : Tok}
    {tc_ANY : Tok}
    {tc_PAPERS : Tok}
    {tc_UNSEEN : Tok}
    {tc_MOST_COPIES : Tok}
    {tc_MOST_LAG : Tok}
    {f_is_integer : Addr} {od_is_integer an_is_integer : Option Addr} {sl_is_integer : Array (Option Value)} {oc_is_integer kV_is_integer dc_is_integer pm_is_integer cd_is_integer ct_is_integer : Value}
    {f_is_number : Addr} {od_is_number an_is_number : Option Addr} {sl_is_number : Array (Option Value)} {oc_is_number kV_is_number dc_is_number pm_is_number cd_is_number ct_is_number : Value}
    {T_is_number : Addr} {ocT_is_number : Value} {odT_is_number : Option Addr} {nT_is_number : Nat} {slT_is_number : Array (Option Value)}
    {f_need_way : Addr} {od_need_way an_need_way : Option Addr} {sl_need_way : Array (Option Value)} {oc_need_way kV_need_way dc_need_way pm_need_way cd_need_way ct_need_way : Value}
    {f_unlike_of : Addr} {od_unlike_of an_unlike_of : Option Addr} {sl_unlike_of : Array (Option Value)} {oc_unlike_of kV_unlike_of dc_unlike_of pm_unlike_of cd_unlike_of ct_unlike_of : Value}
    {f_shown_slack : Addr} {od_shown_slack an_shown_slack : Option Addr} {sl_shown_slack : Array (Option Value)} {oc_shown_slack kV_shown_slack dc_shown_slack pm_shown_slack cd_shown_slack ct_shown_slack : Value}
    {f_taken_slack : Addr} {od_taken_slack an_taken_slack : Option Addr} {sl_taken_slack : Array (Option Value)} {oc_taken_slack kV_taken_slack dc_taken_slack pm_taken_slack cd_taken_slack ct_taken_slack : Value}
    {f_kinds_of : Addr} {od_kinds_of an_kinds_of : Option Addr} {sl_kinds_of : Array (Option Value)} {oc_kinds_of kV_kinds_of dc_kinds_of pm_kinds_of cd_kinds_of ct_kinds_of : Value}
    {f_needed_apart : Addr} {od_needed_apart an_needed_apart : Option Addr} {sl_needed_apart : Array (Option Value)} {oc_needed_apart kV_needed_apart dc_needed_apart pm_needed_apart cd_needed_apart ct_needed_apart : Value}
    {f_least_apart : Addr} {od_least_apart an_least_apart : Option Addr} {sl_least_apart : Array (Option Value)} {oc_least_apart kV_least_apart dc_least_apart pm_least_apart cd_least_apart ct_least_apart : Value}
    {f_Numbers_init : Addr} {od_Numbers_init an_Numbers_init : Option Addr} {sl_Numbers_init : Array (Option Value)} {oc_Numbers_init kV_Numbers_init dc_Numbers_init pm_Numbers_init cd_Numbers_init ct_Numbers_init : Value}
    {f_law_heap : Addr} {od_law_heap an_law_heap : Option Addr} {sl_law_heap : Array (Option Value)} {oc_law_heap kV_law_heap dc_law_heap pm_law_heap cd_law_heap ct_law_heap : Value}
    {f_law_draw : Addr} {od_law_draw an_law_draw : Option Addr} {sl_law_draw : Array (Option Value)} {oc_law_draw kV_law_draw dc_law_draw pm_law_draw cd_law_draw ct_law_draw : Value}
    {f_law_pick : Addr} {od_law_pick an_law_pick : Option Addr} {sl_law_pick : Array (Option Value)} {oc_law_pick kV_law_pick dc_law_pick pm_law_pick cd_law_pick ct_law_pick : Value}
    {f_law_like : Addr} {od_law_like an_law_like : Option Addr} {sl_law_like : Array (Option Value)} {oc_law_like kV_law_like dc_law_like pm_law_like cd_law_like ct_law_like : Value}
    {f_law_numbers : Addr} {od_law_numbers an_law_numbers : Option Addr} {sl_law_numbers : Array (Option Value)} {oc_law_numbers kV_law_numbers dc_law_numbers pm_law_numbers cd_law_numbers ct_law_numbers : Value}
    {f_law_made : Addr} {od_law_made an_law_made : Option Addr} {sl_law_made : Array (Option Value)} {oc_law_made kV_law_made dc_law_made pm_law_made cd_law_made ct_law_made : Value}
    {f_law_lots : Addr} {od_law_lots an_law_lots : Option Addr} {sl_law_lots : Array (Option Value)} {oc_law_lots kV_law_lots dc_law_lots pm_law_lots cd_law_lots ct_law_lots : Value}
    {f_law_fewest : Addr} {od_law_fewest an_law_fewest : Option Addr} {sl_law_fewest : Array (Option Value)} {oc_law_fewest kV_law_fewest dc_law_fewest pm_law_fewest cd_law_fewest ct_law_fewest : Value}
    {f_law_sums_right : Addr} {od_law_sums_right an_law_sums_right : Option Addr} {sl_law_sums_right : Array (Option Value)} {oc_law_sums_right kV_law_sums_right dc_law_sums_right pm_law_sums_right cd_law_sums_right ct_law_sums_right : Value}
    {f_law_small : Addr} {od_law_small an_law_small : Option Addr} {sl_law_small : Array (Option Value)} {oc_law_small kV_law_small dc_law_small pm_law_small cd_law_small ct_law_small : Value}
    {f_law : Addr} {od_law an_law : Option Addr} {sl_law : Array (Option Value)} {oc_law kV_law dc_law pm_law cd_law ct_law : Value}
    (aC_Numbers : PySem.W.nsIn K mainGlobals "Numbers" = some (some (.ref C_Numbers)))
    (pg_Numbers : PySem.W.plainGet K C_Numbers Str.empty = true)
    (hd_Numbers : PySem.W.hasDictIn K C_Numbers = true)
    (po_Numbers : PySem.W.plainOver K C_Numbers = true)
    (sa_Numbers : PySem.W.findIn K (.ref C_Numbers) "__setattr__" = some (some (.builtin "object.__setattr__")))
    (mk_Numbers : PySem.W.makesIn K C_Numbers = true)
    (kc_Numbers : PySem.W.keepIn K (.ref C_Numbers) = true)
    (na_Numbers_c : PySem.W.findIn K (.ref C_Numbers) "c" = some none)
    (na_Numbers_w2 : PySem.W.findIn K (.ref C_Numbers) "w2" = some none)
    (na_Numbers_k : PySem.W.findIn K (.ref C_Numbers) "k" = some none)
    (na_Numbers_f : PySem.W.findIn K (.ref C_Numbers) "f" = some none)
    (na_Numbers_w1 : PySem.W.findIn K (.ref C_Numbers) "w1" = some none)
    (na_Numbers_d : PySem.W.findIn K (.ref C_Numbers) "d" = some none)
    (na_Numbers_a : PySem.W.findIn K (.ref C_Numbers) "a" = some none)
    (zb_isinstance : PySem.W.nsIn K mainGlobals "isinstance" = some none)
    (zb_bool : PySem.W.nsIn K mainGlobals "bool" = some none)
    (zb_int : PySem.W.nsIn K mainGlobals "int" = some none)
    (zb_str : PySem.W.nsIn K mainGlobals "str" = some none)
    (zb_tuple : PySem.W.nsIn K mainGlobals "tuple" = some none)
    (zb_max : PySem.W.nsIn K mainGlobals "max" = some none)
    (zb_enumerate : PySem.W.nsIn K mainGlobals "enumerate" = some none)
    (zb_abs : PySem.W.nsIn K mainGlobals "abs" = some none)
    (zb_len : PySem.W.nsIn K mainGlobals "len" = some none)
    (zb_all : PySem.W.nsIn K mainGlobals "all" = some none)
    (zb_range : PySem.W.nsIn K mainGlobals "range" = some none)
    (zb_min : PySem.W.nsIn K mainGlobals "min" = some none)
    (gc_WAYS : PySem.W.nsIn K mainGlobals "WAYS" = some (some (.ref Ac_WAYS)))
    (lc_WAYS : K.lookup Ac_WAYS = some ⟨.type "tuple", dc_WAYS, .seq ([.str "call" tc_WAYS_0, .str "any" tc_WAYS_1, .str "seen" tc_WAYS_2, .str "gone" tc_WAYS_3] : List Value).toArray nc_WAYS, sc_WAYS⟩)
    (gc_ANY : PySem.W.nsIn K mainGlobals "ANY" = some (some (.str "any" tc_ANY)))
    (gc_PAPERS : PySem.W.nsIn K mainGlobals "PAPERS" = some (some (.str "papers" tc_PAPERS)))
    (gc_UNSEEN : PySem.W.nsIn K mainGlobals "UNSEEN" = some (some (.str "unseen" tc_UNSEEN)))
    (gc_MOST_COPIES : PySem.W.nsIn K mainGlobals "MOST_COPIES" = some (some (.int 12 tc_MOST_COPIES)))
    (gc_MOST_LAG : PySem.W.nsIn K mainGlobals "MOST_LAG" = some (some (.int 200 tc_MOST_LAG)))
    (a_is_integer : PySem.W.nsIn K mainGlobals "is_integer" = some (some (.ref f_is_integer)))
    (l_is_integer : K.lookup f_is_integer = some ⟨oc_is_integer, od_is_integer, .func (PySem.W.fnOf "is_integer" "is_integer" (defArgs s_is_integer) (defBody s_is_integer) (defScope s_is_integer) .none kV_is_integer dc_is_integer pm_is_integer an_is_integer cd_is_integer ct_is_integer), sl_is_integer⟩)
    (c_is_integer : PySem.W.codeIn K cd_is_integer "is_integer" = true)
    (k_is_integer : PySem.W.keepIn K (.ref f_is_integer) = true)
    (a_is_number : PySem.W.nsIn K mainGlobals "is_number" = some (some (.ref f_is_number)))
    (l_is_number : K.lookup f_is_number = some ⟨oc_is_number, od_is_number, .func (PySem.W.fnOf "is_number" "is_number" (defArgs s_is_number) (defBody s_is_number) (defScope s_is_number) (.ref T_is_number) kV_is_number dc_is_number pm_is_number an_is_number cd_is_number ct_is_number), sl_is_number⟩)
    (c_is_number : PySem.W.codeIn K cd_is_number "is_number" = true)
    (k_is_number : PySem.W.keepIn K (.ref f_is_number) = true)
    (lT_is_number : K.lookup T_is_number = some ⟨ocT_is_number, odT_is_number, .seq ([Value.none] : List Value).toArray nT_is_number, slT_is_number⟩)
    (a_need_way : PySem.W.nsIn K mainGlobals "need_way" = some (some (.ref f_need_way)))
    (l_need_way : K.lookup f_need_way = some ⟨oc_need_way, od_need_way, .func (PySem.W.fnOf "need_way" "need_way" (defArgs s_need_way) (defBody s_need_way) (defScope s_need_way) .none kV_need_way dc_need_way pm_need_way an_need_way cd_need_way ct_need_way), sl_need_way⟩)
    (c_need_way : PySem.W.codeIn K cd_need_way "need_way" = true)
    (k_need_way : PySem.W.keepIn K (.ref f_need_way) = true)
    (a_unlike_of : PySem.W.nsIn K mainGlobals "unlike_of" = some (some (.ref f_unlike_of)))
    (l_unlike_of : K.lookup f_unlike_of = some ⟨oc_unlike_of, od_unlike_of, .func (PySem.W.fnOf "unlike_of" "unlike_of" (defArgs s_unlike_of) (defBody s_unlike_of) (defScope s_unlike_of) .none kV_unlike_of dc_unlike_of pm_unlike_of an_unlike_of cd_unlike_of ct_unlike_of), sl_unlike_of⟩)
    (c_unlike_of : PySem.W.codeIn K cd_unlike_of "unlike_of" = true)
    (k_unlike_of : PySem.W.keepIn K (.ref f_unlike_of) = true)
    (a_shown_slack : PySem.W.nsIn K mainGlobals "shown_slack" = some (some (.ref f_shown_slack)))
    (l_shown_slack : K.lookup f_shown_slack = some ⟨oc_shown_slack, od_shown_slack, .func (PySem.W.fnOf "shown_slack" "shown_slack" (defArgs s_shown_slack) (defBody s_shown_slack) (defScope s_shown_slack) .none kV_shown_slack dc_shown_slack pm_shown_slack an_shown_slack cd_shown_slack ct_shown_slack), sl_shown_slack⟩)
    (c_shown_slack : PySem.W.codeIn K cd_shown_slack "shown_slack" = true)
    (k_shown_slack : PySem.W.keepIn K (.ref f_shown_slack) = true)
    (a_taken_slack : PySem.W.nsIn K mainGlobals "taken_slack" = some (some (.ref f_taken_slack)))
    (l_taken_slack : K.lookup f_taken_slack = some ⟨oc_taken_slack, od_taken_slack, .func (PySem.W.fnOf "taken_slack" "taken_slack" (defArgs s_taken_slack) (defBody s_taken_slack) (defScope s_taken_slack) .none kV_taken_slack dc_taken_slack pm_taken_slack an_taken_slack cd_taken_slack ct_taken_slack), sl_taken_slack⟩)
    (c_taken_slack : PySem.W.codeIn K cd_taken_slack "taken_slack" = true)
    (k_taken_slack : PySem.W.keepIn K (.ref f_taken_slack) = true)
    (a_kinds_of : PySem.W.nsIn K mainGlobals "kinds_of" = some (some (.ref f_kinds_of)))
    (l_kinds_of : K.lookup f_kinds_of = some ⟨oc_kinds_of, od_kinds_of, .func (PySem.W.fnOf "kinds_of" "kinds_of" (defArgs s_kinds_of) (defBody s_kinds_of) (defScope s_kinds_of) .none kV_kinds_of dc_kinds_of pm_kinds_of an_kinds_of cd_kinds_of ct_kinds_of), sl_kinds_of⟩)
    (c_kinds_of : PySem.W.codeIn K cd_kinds_of "kinds_of" = true)
    (k_kinds_of : PySem.W.keepIn K (.ref f_kinds_of) = true)
    (a_needed_apart : PySem.W.nsIn K mainGlobals "needed_apart" = some (some (.ref f_needed_apart)))
    (l_needed_apart : K.lookup f_needed_apart = some ⟨oc_needed_apart, od_needed_apart, .func (PySem.W.fnOf "needed_apart" "needed_apart" (defArgs s_needed_apart) (defBody s_needed_apart) (defScope s_needed_apart) .none kV_needed_apart dc_needed_apart pm_needed_apart an_needed_apart cd_needed_apart ct_needed_apart), sl_needed_apart⟩)
    (c_needed_apart : PySem.W.codeIn K cd_needed_apart "needed_apart" = true)
    (k_needed_apart : PySem.W.keepIn K (.ref f_needed_apart) = true)
    (a_least_apart : PySem.W.nsIn K mainGlobals "least_apart" = some (some (.ref f_least_apart)))
    (l_least_apart : K.lookup f_least_apart = some ⟨oc_least_apart, od_least_apart, .func (PySem.W.fnOf "least_apart" "least_apart" (defArgs s_least_apart) (defBody s_least_apart) (defScope s_least_apart) .none kV_least_apart dc_least_apart pm_least_apart an_least_apart cd_least_apart ct_least_apart), sl_least_apart⟩)
    (c_least_apart : PySem.W.codeIn K cd_least_apart "least_apart" = true)
    (k_least_apart : PySem.W.keepIn K (.ref f_least_apart) = true)
    (a_Numbers_init : PySem.W.findIn K (.ref C_Numbers) "__init__" = some (some (.ref f_Numbers_init)))
    (i_Numbers_init : PySem.W.isFn K (.ref f_Numbers_init) = true)
    (l_Numbers_init : K.lookup f_Numbers_init = some ⟨oc_Numbers_init, od_Numbers_init, .func (PySem.W.fnOf "__init__" "Numbers.__init__" (defArgs s_Numbers_init) (defBody s_Numbers_init) (defScope s_Numbers_init) .none kV_Numbers_init dc_Numbers_init pm_Numbers_init an_Numbers_init cd_Numbers_init ct_Numbers_init), sl_Numbers_init⟩)
    (c_Numbers_init : PySem.W.codeIn K cd_Numbers_init "Numbers.__init__" = true)
    (k_Numbers_init : PySem.W.keepIn K (.ref f_Numbers_init) = true)
    (a_law_heap : PySem.W.nsIn K mainGlobals "_law_heap" = some (some (.ref f_law_heap)))
    (l_law_heap : K.lookup f_law_heap = some ⟨oc_law_heap, od_law_heap, .func (PySem.W.fnOf "_law_heap" "_law_heap" (defArgs s_law_heap) (defBody s_law_heap) (defScope s_law_heap) .none kV_law_heap dc_law_heap pm_law_heap an_law_heap cd_law_heap ct_law_heap), sl_law_heap⟩)
    (c_law_heap : PySem.W.codeIn K cd_law_heap "_law_heap" = true)
    (k_law_heap : PySem.W.keepIn K (.ref f_law_heap) = true)
    (a_law_draw : PySem.W.nsIn K mainGlobals "_law_draw" = some (some (.ref f_law_draw)))
    (l_law_draw : K.lookup f_law_draw = some ⟨oc_law_draw, od_law_draw, .func (PySem.W.fnOf "_law_draw" "_law_draw" (defArgs s_law_draw) (defBody s_law_draw) (defScope s_law_draw) .none kV_law_draw dc_law_draw pm_law_draw an_law_draw cd_law_draw ct_law_draw), sl_law_draw⟩)
    (c_law_draw : PySem.W.codeIn K cd_law_draw "_law_draw" = true)
    (k_law_draw : PySem.W.keepIn K (.ref f_law_draw) = true)
    (a_law_pick : PySem.W.nsIn K mainGlobals "_law_pick" = some (some (.ref f_law_pick)))
    (l_law_pick : K.lookup f_law_pick = some ⟨oc_law_pick, od_law_pick, .func (PySem.W.fnOf "_law_pick" "_law_pick" (defArgs s_law_pick) (defBody s_law_pick) (defScope s_law_pick) .none kV_law_pick dc_law_pick pm_law_pick an_law_pick cd_law_pick ct_law_pick), sl_law_pick⟩)
    (c_law_pick : PySem.W.codeIn K cd_law_pick "_law_pick" = true)
    (k_law_pick : PySem.W.keepIn K (.ref f_law_pick) = true)
    (a_law_like : PySem.W.nsIn K mainGlobals "_law_like" = some (some (.ref f_law_like)))
    (l_law_like : K.lookup f_law_like = some ⟨oc_law_like, od_law_like, .func (PySem.W.fnOf "_law_like" "_law_like" (defArgs s_law_like) (defBody s_law_like) (defScope s_law_like) .none kV_law_like dc_law_like pm_law_like an_law_like cd_law_like ct_law_like), sl_law_like⟩)
    (c_law_like : PySem.W.codeIn K cd_law_like "_law_like" = true)
    (k_law_like : PySem.W.keepIn K (.ref f_law_like) = true)
    (a_law_numbers : PySem.W.nsIn K mainGlobals "_law_numbers" = some (some (.ref f_law_numbers)))
    (l_law_numbers : K.lookup f_law_numbers = some ⟨oc_law_numbers, od_law_numbers, .func (PySem.W.fnOf "_law_numbers" "_law_numbers" (defArgs s_law_numbers) (defBody s_law_numbers) (defScope s_law_numbers) .none kV_law_numbers dc_law_numbers pm_law_numbers an_law_numbers cd_law_numbers ct_law_numbers), sl_law_numbers⟩)
    (c_law_numbers : PySem.W.codeIn K cd_law_numbers "_law_numbers" = true)
    (k_law_numbers : PySem.W.keepIn K (.ref f_law_numbers) = true)
    (a_law_made : PySem.W.nsIn K mainGlobals "_law_made" = some (some (.ref f_law_made)))
    (l_law_made : K.lookup f_law_made = some ⟨oc_law_made, od_law_made, .func (PySem.W.fnOf "_law_made" "_law_made" (defArgs s_law_made) (defBody s_law_made) (defScope s_law_made) .none kV_law_made dc_law_made pm_law_made an_law_made cd_law_made ct_law_made), sl_law_made⟩)
    (c_law_made : PySem.W.codeIn K cd_law_made "_law_made" = true)
    (k_law_made : PySem.W.keepIn K (.ref f_law_made) = true)
    (a_law_lots : PySem.W.nsIn K mainGlobals "_law_lots" = some (some (.ref f_law_lots)))
    (l_law_lots : K.lookup f_law_lots = some ⟨oc_law_lots, od_law_lots, .func (PySem.W.fnOf "_law_lots" "_law_lots" (defArgs s_law_lots) (defBody s_law_lots) (defScope s_law_lots) .none kV_law_lots dc_law_lots pm_law_lots an_law_lots cd_law_lots ct_law_lots), sl_law_lots⟩)
    (c_law_lots : PySem.W.codeIn K cd_law_lots "_law_lots" = true)
    (k_law_lots : PySem.W.keepIn K (.ref f_law_lots) = true)
    (a_law_fewest : PySem.W.nsIn K mainGlobals "_law_fewest" = some (some (.ref f_law_fewest)))
    (l_law_fewest : K.lookup f_law_fewest = some ⟨oc_law_fewest, od_law_fewest, .func (PySem.W.fnOf "_law_fewest" "_law_fewest" (defArgs s_law_fewest) (defBody s_law_fewest) (defScope s_law_fewest) .none kV_law_fewest dc_law_fewest pm_law_fewest an_law_fewest cd_law_fewest ct_law_fewest), sl_law_fewest⟩)
    (c_law_fewest : PySem.W.codeIn K cd_law_fewest "_law_fewest" = true)
    (k_law_fewest : PySem.W.keepIn K (.ref f_law_fewest) = true)
    (a_law_sums_right : PySem.W.nsIn K mainGlobals "_law_sums_right" = some (some (.ref f_law_sums_right)))
    (l_law_sums_right : K.lookup f_law_sums_right = some ⟨oc_law_sums_right, od_law_sums_right, .func (PySem.W.fnOf "_law_sums_right" "_law_sums_right" (defArgs s_law_sums_right) (defBody s_law_sums_right) (defScope s_law_sums_right) .none kV_law_sums_right dc_law_sums_right pm_law_sums_right an_law_sums_right cd_law_sums_right ct_law_sums_right), sl_law_sums_right⟩)
    (c_law_sums_right : PySem.W.codeIn K cd_law_sums_right "_law_sums_right" = true)
    (k_law_sums_right : PySem.W.keepIn K (.ref f_law_sums_right) = true)
    (a_law_small : PySem.W.nsIn K mainGlobals "_law_small" = some (some (.ref f_law_small)))
    (l_law_small : K.lookup f_law_small = some ⟨oc_law_small, od_law_small, .func (PySem.W.fnOf "_law_small" "_law_small" (defArgs s_law_small) (defBody s_law_small) (defScope s_law_small) .none kV_law_small dc_law_small pm_law_small an_law_small cd_law_small ct_law_small), sl_law_small⟩)
    (c_law_small : PySem.W.codeIn K cd_law_small "_law_small" = true)
    (k_law_small : PySem.W.keepIn K (.ref f_law_small) = true)
    (a_law : PySem.W.nsIn K mainGlobals "law" = some (some (.ref f_law)))
    (l_law : K.lookup f_law = some ⟨oc_law, od_law, .func (PySem.W.fnOf "law" "law" (defArgs s_law) (defBody s_law) (defScope s_law) .none kV_law dc_law pm_law an_law cd_law ct_law), sl_law⟩)
    (c_law : PySem.W.codeIn K cd_law "law" = true)
    (k_law : PySem.W.keepIn K (.ref f_law) = true) :
    ∃ fd : FuncData, (∀ (s : Shared) (v : Value), BindsTo s fd ⟨[v], []⟩ [("script", v)]) ∧ ∀ base : Heap, K.In base → base.Ns mainGlobals mg → FnOk l.prog w K mg base CX0 8 fa fd ["script"] (spD K S_law) := by
  have e := hfa.symm.trans (PySem.W.mg_of X0 G0 a_law)
  cases e
  have F_is_integer : FunD K "is_integer" "is_integer" (defArgs s_is_integer) (defBody s_is_integer) (defScope s_is_integer) [] [] f_is_integer _ := ⟨⟨_, _, _, _, _, _, _, _, _, _, rfl, l_is_integer, c_is_integer, .inl ⟨rfl, rfl⟩, .inl rfl⟩, k_is_integer⟩
  have B_is_integer : Binds K _ ["value"] [] := bind_all F_is_integer fun _ _ _ _ _ _ us hl => match us, hl with | [_], _ => rfl
  have F_is_number : FunD K "is_number" "is_number" (defArgs s_is_number) (defBody s_is_number) (defScope s_is_number) [.non] [] f_is_number _ := ⟨⟨_, _, _, _, _, _, _, _, _, _, rfl, l_is_number, c_is_number, .inr ⟨by simp, _, _, _, _, rfl, lT_is_number, rfl, (.cons rfl .nil)⟩, .inl rfl⟩, k_is_number⟩
  have B_is_number : Binds K _ ["value", "most"] [] := bind_full F_is_number (by simp) (fun _ _ _ _ _ _ _ us its hl hi => match us, its, hl, hi with | [_, _], [_], _, _ => ⟨_, rfl, rfl⟩)
  have F_need_way : FunD K "need_way" "need_way" (defArgs s_need_way) (defBody s_need_way) (defScope s_need_way) [] [] f_need_way _ := ⟨⟨_, _, _, _, _, _, _, _, _, _, rfl, l_need_way, c_need_way, .inl ⟨rfl, rfl⟩, .inl rfl⟩, k_need_way⟩
  have B_need_way : Binds K _ ["manner"] [] := bind_all F_need_way fun _ _ _ _ _ _ us hl => match us, hl with | [_], _ => rfl
  have F_unlike_of : FunD K "unlike_of" "unlike_of" (defArgs s_unlike_of) (defBody s_unlike_of) (defScope s_unlike_of) [] [] f_unlike_of _ := ⟨⟨_, _, _, _, _, _, _, _, _, _, rfl, l_unlike_of, c_unlike_of, .inl ⟨rfl, rfl⟩, .inl rfl⟩, k_unlike_of⟩
  have B_unlike_of : Binds K _ ["manner", "spread"] [] := bind_all F_unlike_of fun _ _ _ _ _ _ us hl => match us, hl with | [_, _], _ => rfl
  have F_shown_slack : FunD K "shown_slack" "shown_slack" (defArgs s_shown_slack) (defBody s_shown_slack) (defScope s_shown_slack) [] [] f_shown_slack _ := ⟨⟨_, _, _, _, _, _, _, _, _, _, rfl, l_shown_slack, c_shown_slack, .inl ⟨rfl, rfl⟩, .inl rfl⟩, k_shown_slack⟩
  have B_shown_slack : Binds K _ ["numbers", "manner", "spread"] [] := bind_all F_shown_slack fun _ _ _ _ _ _ us hl => match us, hl with | [_, _, _], _ => rfl
  have F_taken_slack : FunD K "taken_slack" "taken_slack" (defArgs s_taken_slack) (defBody s_taken_slack) (defScope s_taken_slack) [] [] f_taken_slack _ := ⟨⟨_, _, _, _, _, _, _, _, _, _, rfl, l_taken_slack, c_taken_slack, .inl ⟨rfl, rfl⟩, .inl rfl⟩, k_taken_slack⟩
  have B_taken_slack : Binds K _ ["numbers"] [] := bind_all F_taken_slack fun _ _ _ _ _ _ us hl => match us, hl with | [_], _ => rfl
  have F_kinds_of : FunD K "kinds_of" "kinds_of" (defArgs s_kinds_of) (defBody s_kinds_of) (defScope s_kinds_of) [] [] f_kinds_of _ := ⟨⟨_, _, _, _, _, _, _, _, _, _, rfl, l_kinds_of, c_kinds_of, .inl ⟨rfl, rfl⟩, .inl rfl⟩, k_kinds_of⟩
  have B_kinds_of : Binds K _ ["numbers", "manner", "spread"] [] := bind_all F_kinds_of fun _ _ _ _ _ _ us hl => match us, hl with | [_, _, _], _ => rfl
  have F_needed_apart : FunD K "needed_apart" "needed_apart" (defArgs s_needed_apart) (defBody s_needed_apart) (defScope s_needed_apart) [] [] f_needed_apart _ := ⟨⟨_, _, _, _, _, _, _, _, _, _, rfl, l_needed_apart, c_needed_apart, .inl ⟨rfl, rfl⟩, .inl rfl⟩, k_needed_apart⟩
  have B_needed_apart : Binds K _ ["numbers"] [] := bind_all F_needed_apart fun _ _ _ _ _ _ us hl => match us, hl with | [_], _ => rfl
  have F_least_apart : FunD K "least_apart" "least_apart" (defArgs s_least_apart) (defBody s_least_apart) (defScope s_least_apart) [] [] f_least_apart _ := ⟨⟨_, _, _, _, _, _, _, _, _, _, rfl, l_least_apart, c_least_apart, .inl ⟨rfl, rfl⟩, .inl rfl⟩, k_least_apart⟩
  have B_least_apart : Binds K _ ["numbers", "manner", "spread"] [] := bind_all F_least_apart fun _ _ _ _ _ _ us hl => match us, hl with | [_, _, _], _ => rfl
  have F_Numbers_init : FunD K "__init__" "Numbers.__init__" (defArgs s_Numbers_init) (defBody s_Numbers_init) (defScope s_Numbers_init) [] [] f_Numbers_init _ := ⟨⟨_, _, _, _, _, _, _, _, _, _, rfl, l_Numbers_init, c_Numbers_init, .inl ⟨rfl, rfl⟩, .inl rfl⟩, k_Numbers_init⟩
  have B_Numbers_init : Binds K _ ["self", "k", "f", "d", "a", "w1", "w2", "c"] [] := bind_all F_Numbers_init fun _ _ _ _ _ _ us hl => match us, hl with | [_, _, _, _, _, _, _, _], _ => rfl
  have F_law_heap : FunD K "_law_heap" "_law_heap" (defArgs s_law_heap) (defBody s_law_heap) (defScope s_law_heap) [] [] f_law_heap _ := ⟨⟨_, _, _, _, _, _, _, _, _, _, rfl, l_law_heap, c_law_heap, .inl ⟨rfl, rfl⟩, .inl rfl⟩, k_law_heap⟩
  have B_law_heap : Binds K _ ["script"] [] := bind_all F_law_heap fun _ _ _ _ _ _ us hl => match us, hl with | [_], _ => rfl
  have F_law_draw : FunD K "_law_draw" "_law_draw" (defArgs s_law_draw) (defBody s_law_draw) (defScope s_law_draw) [] [] f_law_draw _ := ⟨⟨_, _, _, _, _, _, _, _, _, _, rfl, l_law_draw, c_law_draw, .inl ⟨rfl, rfl⟩, .inl rfl⟩, k_law_draw⟩
  have B_law_draw : Binds K _ ["heap", "many"] [] := bind_all F_law_draw fun _ _ _ _ _ _ us hl => match us, hl with | [_, _], _ => rfl
  have F_law_pick : FunD K "_law_pick" "_law_pick" (defArgs s_law_pick) (defBody s_law_pick) (defScope s_law_pick) [] [] f_law_pick _ := ⟨⟨_, _, _, _, _, _, _, _, _, _, rfl, l_law_pick, c_law_pick, .inl ⟨rfl, rfl⟩, .inl rfl⟩, k_law_pick⟩
  have B_law_pick : Binds K _ ["heap", "some"] [] := bind_all F_law_pick fun _ _ _ _ _ _ us hl => match us, hl with | [_, _], _ => rfl
  have F_law_like : FunD K "_law_like" "_law_like" (defArgs s_law_like) (defBody s_law_like) (defScope s_law_like) [] [] f_law_like _ := ⟨⟨_, _, _, _, _, _, _, _, _, _, rfl, l_law_like, c_law_like, .inl ⟨rfl, rfl⟩, .inl rfl⟩, k_law_like⟩
  have B_law_like : Binds K _ ["told", "due"] [] := bind_all F_law_like fun _ _ _ _ _ _ us hl => match us, hl with | [_, _], _ => rfl
  have F_law_numbers : FunD K "_law_numbers" "_law_numbers" (defArgs s_law_numbers) (defBody s_law_numbers) (defScope s_law_numbers) [] [] f_law_numbers _ := ⟨⟨_, _, _, _, _, _, _, _, _, _, rfl, l_law_numbers, c_law_numbers, .inl ⟨rfl, rfl⟩, .inl rfl⟩, k_law_numbers⟩
  have B_law_numbers : Binds K _ ["heap", "k", "manner"] [] := bind_all F_law_numbers fun _ _ _ _ _ _ us hl => match us, hl with | [_, _, _], _ => rfl
  have F_law_made : FunD K "_law_made" "_law_made" (defArgs s_law_made) (defBody s_law_made) (defScope s_law_made) [] [] f_law_made _ := ⟨⟨_, _, _, _, _, _, _, _, _, _, rfl, l_law_made, c_law_made, .inl ⟨rfl, rfl⟩, .inl rfl⟩, k_law_made⟩
  have B_law_made : Binds K _ ["parts"] [] := bind_all F_law_made fun _ _ _ _ _ _ us hl => match us, hl with | [_], _ => rfl
  have F_law_lots : FunD K "_law_lots" "_law_lots" (defArgs s_law_lots) (defBody s_law_lots) (defScope s_law_lots) [] [] f_law_lots _ := ⟨⟨_, _, _, _, _, _, _, _, _, _, rfl, l_law_lots, c_law_lots, .inl ⟨rfl, rfl⟩, .inl rfl⟩, k_law_lots⟩
  have B_law_lots : Binds K _ ["lot", "many"] [] := bind_all F_law_lots fun _ _ _ _ _ _ us hl => match us, hl with | [_, _], _ => rfl
  have F_law_fewest : FunD K "_law_fewest" "_law_fewest" (defArgs s_law_fewest) (defBody s_law_fewest) (defScope s_law_fewest) [] [] f_law_fewest _ := ⟨⟨_, _, _, _, _, _, _, _, _, _, rfl, l_law_fewest, c_law_fewest, .inl ⟨rfl, rfl⟩, .inl rfl⟩, k_law_fewest⟩
  have B_law_fewest : Binds K _ ["rows", "others", "liars"] [] := bind_all F_law_fewest fun _ _ _ _ _ _ us hl => match us, hl with | [_, _, _], _ => rfl
  have F_law_sums_right : FunD K "_law_sums_right" "_law_sums_right" (defArgs s_law_sums_right) (defBody s_law_sums_right) (defScope s_law_sums_right) [] [] f_law_sums_right _ := ⟨⟨_, _, _, _, _, _, _, _, _, _, rfl, l_law_sums_right, c_law_sums_right, .inl ⟨rfl, rfl⟩, .inl rfl⟩, k_law_sums_right⟩
  have B_law_sums_right : Binds K _ ["parts", "manner", "most"] [] := bind_all F_law_sums_right fun _ _ _ _ _ _ us hl => match us, hl with | [_, _, _], _ => rfl
  have F_law_small : FunD K "_law_small" "_law_small" (defArgs s_law_small) (defBody s_law_small) (defScope s_law_small) [] [] f_law_small _ := ⟨⟨_, _, _, _, _, _, _, _, _, _, rfl, l_law_small, c_law_small, .inl ⟨rfl, rfl⟩, .inl rfl⟩, k_law_small⟩
  have B_law_small : Binds K _ ["heap"] [] := bind_all F_law_small fun _ _ _ _ _ _ us hl => match us, hl with | [_], _ => rfl
  have F_law : FunD K "law" "law" (defArgs s_law) (defBody s_law) (defScope s_law) [] [] fa _ := ⟨⟨_, _, _, _, _, _, _, _, _, _, rfl, l_law, c_law, .inl ⟨rfl, rfl⟩, .inl rfl⟩, k_law⟩
  have B_law : Binds K _ ["script"] [] := bind_all F_law fun _ _ _ _ _ _ us hl => match us, hl with | [_], _ => rfl
  refine ⟨_, fun s v => FunD.bindsA (ps := ["script"]) F_law (fun _ _ _ _ _ _ us hl => match us, hl with | [_], _ => rfl) s [v] rfl, fun base X G => ?_⟩
  have T : Txt K mg C_Numbers := ⟨PySem.W.mg_none_of X G zb_isinstance, PySem.W.mg_none_of X G zb_bool, PySem.W.mg_none_of X G zb_int, PySem.W.mg_none_of X G zb_str, PySem.W.mg_none_of X G zb_tuple, PySem.W.mg_none_of X G zb_max, PySem.W.mg_none_of X G zb_enumerate, PySem.W.mg_none_of X G zb_abs, PySem.W.mg_none_of X G zb_len, PySem.W.mg_none_of X G zb_all, PySem.W.mg_none_of X G zb_range, PySem.W.mg_none_of X G zb_min, gc_tup (PySem.W.mg_of X G gc_WAYS) (fun F => sqT_static (vs := [.str "call", .str "any", .str "seen", .str "gone"]) lc_WAYS (.cons ⟨_, rfl⟩ (.cons ⟨_, rfl⟩ (.cons ⟨_, rfl⟩ (.cons ⟨_, rfl⟩ .nil)))) (show 4 ≤ sizeLine by decide)) (fun F => (.cons (.str _) (.cons (.str _) (.cons (.str _) (.cons (.str _) .nil))))), gc_str (PySem.W.mg_of X G gc_ANY), gc_str (PySem.W.mg_of X G gc_PAPERS), gc_str (PySem.W.mg_of X G gc_UNSEEN), gc_int (PySem.W.mg_of X G gc_MOST_COPIES), gc_int (PySem.W.mg_of X G gc_MOST_LAG), ⟨pg_Numbers, hd_Numbers, po_Numbers, sa_Numbers⟩, na_Numbers_c, na_Numbers_w2, na_Numbers_k, na_Numbers_f, na_Numbers_w1, na_Numbers_d, na_Numbers_a⟩
  have G_is_integer : FnOk l.prog w K mg base CX0 1 f_is_integer _ ["value"] (spD K (S_is_integer)) := ok_is_integer T  F_is_integer (by rintro _ _ _ ⟨_, rfl, _⟩; rfl) (by exact sem_is_integer)
  have G_is_number : FnOk l.prog w K mg base CX0 2 f_is_number _ ["value", "most"] (spD K (S_is_number)) := ok_is_number T ⟨⟨_, _, [], [], G_is_integer, PySem.W.mg_of X G a_is_integer, k_is_integer, B_is_integer, .nil, fun _ => .nil⟩⟩ F_is_number (by rintro _ _ _ ⟨_, _, rfl, _⟩; rfl) (by exact sem_is_number)
  have G_need_way : FnOk l.prog w K mg base CX0 1 f_need_way _ ["manner"] (spD K (S_need_way)) := ok_need_way T  F_need_way (by rintro _ _ _ ⟨_, rfl, _⟩; rfl) (by exact sem_need_way)
  have G_unlike_of : FnOk l.prog w K mg base CX0 2 f_unlike_of _ ["manner", "spread"] (spD K (S_unlike_of)) := ok_unlike_of T ⟨⟨_, _, [], [], G_need_way, PySem.W.mg_of X G a_need_way, k_need_way, B_need_way, .nil, fun _ => .nil⟩⟩ F_unlike_of (by rintro _ _ _ ⟨_, _, rfl, _⟩; rfl) (by exact sem_unlike_of)
  have G_shown_slack : FnOk l.prog w K mg base CX0 3 f_shown_slack _ ["numbers", "manner", "spread"] (spD K (S_shown_slack C_Numbers)) := ok_shown_slack T ⟨⟨_, _, [], [], G_unlike_of, PySem.W.mg_of X G a_unlike_of, k_unlike_of, B_unlike_of, .nil, fun _ => .nil⟩⟩ F_shown_slack (by rintro _ _ _ ⟨_, _, _, rfl, _⟩; rfl) (by exact sem_shown_slack C_Numbers)
  have G_taken_slack : FnOk l.prog w K mg base CX0 1 f_taken_slack _ ["numbers"] (spD K (S_taken_slack C_Numbers)) := ok_taken_slack T  F_taken_slack (by rintro _ _ _ ⟨_, rfl, _⟩; rfl) (by exact sem_taken_slack C_Numbers)
  have G_kinds_of : FnOk l.prog w K mg base CX0 4 f_kinds_of _ ["numbers", "manner", "spread"] (spD K (S_kinds_of C_Numbers)) := ok_kinds_of T ⟨⟨_, _, [], [], G_taken_slack, PySem.W.mg_of X G a_taken_slack, k_taken_slack, B_taken_slack, .nil, fun _ => .nil⟩⟩ ⟨⟨_, _, [], [], G_shown_slack, PySem.W.mg_of X G a_shown_slack, k_shown_slack, B_shown_slack, .nil, fun _ => .nil⟩⟩ F_kinds_of (by rintro _ _ _ ⟨_, _, _, rfl, _⟩; rfl) (by exact sem_kinds_of C_Numbers)
  have G_needed_apart : FnOk l.prog w K mg base CX0 1 f_needed_apart _ ["numbers"] (spD K (S_needed_apart C_Numbers)) := ok_needed_apart T  F_needed_apart (by rintro _ _ _ ⟨_, rfl, _⟩; rfl) (by exact sem_needed_apart C_Numbers)
  have G_least_apart : FnOk l.prog w K mg base CX0 5 f_least_apart _ ["numbers", "manner", "spread"] (spD K (S_least_apart C_Numbers)) := ok_least_apart T ⟨⟨_, _, [], [], G_kinds_of, PySem.W.mg_of X G a_kinds_of, k_kinds_of, B_kinds_of, .nil, fun _ => .nil⟩⟩ ⟨⟨_, _, [], [], G_needed_apart, PySem.W.mg_of X G a_needed_apart, k_needed_apart, B_needed_apart, .nil, fun _ => .nil⟩⟩ F_least_apart (by rintro _ _ _ ⟨_, _, _, rfl, _⟩; rfl) (by exact sem_least_apart C_Numbers)
  have G_Numbers_init : FnOk l.prog w K mg base CX0 3 f_Numbers_init _ ["self", "k", "f", "d", "a", "w1", "w2", "c"] (spD K (S_init C_Numbers)) := ok_Numbers_init T ⟨⟨_, _, [], [], G_is_number, PySem.W.mg_of X G a_is_number, k_is_number, B_is_number, .nil, fun _ => .nil⟩⟩ F_Numbers_init (by rintro _ _ _ ⟨_, _, _, rfl, _⟩; rfl) (by exact sem_init C_Numbers)
  have G_law_heap : FnOk l.prog w K mg base CX0 1 f_law_heap _ ["script"] (spD K (S_heap)) := heap_open (ok_law_heap T  F_law_heap (by rintro _ _ _ ⟨_, rfl, _⟩; rfl) (by exact sem_heapRaw (by decide) ⟨by decide, by decide⟩ (by decide)))
  have G_law_draw : FnOk l.prog w K mg base CX0 1 f_law_draw _ ["heap", "many"] (spD K (S_draw)) := draw_open (ok_law_draw T  F_law_draw (by rintro _ _ _ ⟨_, _, _, _, _, rfl, _⟩; rfl) (by exact sem_drawRaw ⟨by decide, by decide⟩ (by decide)))
  have G_law_pick : FnOk l.prog w K mg base CX0 2 f_law_pick _ ["heap", "some"] (spD K (S_pick)) := ok_law_pick T ⟨⟨_, _, [], [], G_law_draw, PySem.W.mg_of X G a_law_draw, k_law_draw, B_law_draw, .nil, fun _ => .nil⟩⟩ F_law_pick (by rintro _ _ _ ⟨_, _, _, rfl, _⟩; rfl) (by exact sem_pick)
  have G0 : FnOk l.prog w K mg base CX0 0 f_law_like _ ["told", "due"] (spD K fun _ _ _ => False) := fn_never_of F_law_like
  have G1 : FnOk l.prog w K mg base CX0 1 f_law_like _ ["told", "due"] (spD K (S_like 0)) := ok_law_like T (Nat.zero_le _) ⟨⟨_, _, [], [], G0, PySem.W.mg_of X G a_law_like, k_law_like, B_law_like, .nil, fun _ => .nil⟩⟩ F_law_like (by rintro _ _ _ ⟨_, rfl, _⟩; rfl) (by exact sem_like0)
  have G2 : FnOk l.prog w K mg base CX0 2 f_law_like _ ["told", "due"] (spD K (S_like 1)) := ok_law_like T (Nat.zero_le _) ⟨⟨_, _, [], [], G1, PySem.W.mg_of X G a_law_like, k_law_like, B_law_like, .nil, fun _ => .nil⟩⟩ F_law_like (by rintro _ _ _ ⟨_, rfl, _⟩; rfl) (by exact sem_like 0)
  have G3 : FnOk l.prog w K mg base CX0 3 f_law_like _ ["told", "due"] (spD K (S_like 2)) := ok_law_like T (Nat.zero_le _) ⟨⟨_, _, [], [], G2, PySem.W.mg_of X G a_law_like, k_law_like, B_law_like, .nil, fun _ => .nil⟩⟩ F_law_like (by rintro _ _ _ ⟨_, rfl, _⟩; rfl) (by exact sem_like 1)
  have G4 : FnOk l.prog w K mg base CX0 4 f_law_like _ ["told", "due"] (spD K (S_like 3)) := ok_law_like T (Nat.zero_le _) ⟨⟨_, _, [], [], G3, PySem.W.mg_of X G a_law_like, k_law_like, B_law_like, .nil, fun _ => .nil⟩⟩ F_law_like (by rintro _ _ _ ⟨_, rfl, _⟩; rfl) (by exact sem_like 2)
  have G5 : FnOk l.prog w K mg base CX0 5 f_law_like _ ["told", "due"] (spD K (S_like 4)) := ok_law_like T (Nat.zero_le _) ⟨⟨_, _, [], [], G4, PySem.W.mg_of X G a_law_like, k_law_like, B_law_like, .nil, fun _ => .nil⟩⟩ F_law_like (by rintro _ _ _ ⟨_, rfl, _⟩; rfl) (by exact sem_like 3)
  have G6 : FnOk l.prog w K mg base CX0 6 f_law_like _ ["told", "due"] (spD K (S_like 5)) := ok_law_like T (Nat.zero_le _) ⟨⟨_, _, [], [], G5, PySem.W.mg_of X G a_law_like, k_law_like, B_law_like, .nil, fun _ => .nil⟩⟩ F_law_like (by rintro _ _ _ ⟨_, rfl, _⟩; rfl) (by exact sem_like 4)
  have G_law_like := G6
  have G_law_numbers : FnOk l.prog w K mg base CX0 3 f_law_numbers _ ["heap", "k", "manner"] (spD K (S_numbers)) := ok_law_numbers T ⟨⟨_, _, [], [], G_law_draw, PySem.W.mg_of X G a_law_draw, k_law_draw, B_law_draw, .nil, fun _ => .nil⟩⟩ ⟨⟨_, _, [], [], G_law_pick, PySem.W.mg_of X G a_law_pick, k_law_pick, B_law_pick, .nil, fun _ => .nil⟩⟩ F_law_numbers (by rintro _ _ _ ⟨_, _, _, rfl, _⟩; rfl) (by exact sem_numbers)
  have G_law_made : FnOk l.prog w K mg base CX0 5 f_law_made _ ["parts"] (spD K (S_made C_Numbers)) := ok_law_made T ⟨⟨_, _, [], [], ⟨mk_Numbers, a_Numbers_init, i_Numbers_init, kc_Numbers⟩, G_Numbers_init, PySem.W.mg_of X G aC_Numbers, B_Numbers_init, .nil, fun _ => .nil⟩⟩ F_law_made (by rintro _ _ _ ⟨_, _, rfl, _⟩; rfl) (by exact sem_made C_Numbers)
  have G_law_lots : FnOk l.prog w K mg base CX0 1 f_law_lots _ ["lot", "many"] (spD K (S_lots)) := ok_law_lots T  F_law_lots (by rintro _ _ _ ⟨_, _, rfl, _⟩; rfl) (by exact sem_lots)
  have G_law_fewest : FnOk l.prog w K mg base CX0 1 f_law_fewest _ ["rows", "others", "liars"] (spD K (S_fewest)) := ok_law_fewest T  F_law_fewest (by rintro _ _ _ ⟨_, _, _, rfl, _⟩; rfl) (by exact sem_fewest)
  have G_law_sums_right : FnOk l.prog w K mg base CX0 7 f_law_sums_right _ ["parts", "manner", "most"] (spD K (S_sums C_Numbers)) := ok_law_sums_right T ⟨⟨_, _, [], [], G_law_made, PySem.W.mg_of X G a_law_made, k_law_made, B_law_made, .nil, fun _ => .nil⟩⟩ ⟨⟨_, _, [], [], G_needed_apart, PySem.W.mg_of X G a_needed_apart, k_needed_apart, B_needed_apart, .nil, fun _ => .nil⟩⟩ ⟨⟨_, _, [], [], G_taken_slack, PySem.W.mg_of X G a_taken_slack, k_taken_slack, B_taken_slack, .nil, fun _ => .nil⟩⟩ ⟨⟨_, _, [], [], G_shown_slack, PySem.W.mg_of X G a_shown_slack, k_shown_slack, B_shown_slack, .nil, fun _ => .nil⟩⟩ ⟨⟨_, _, [], [], G_law_like, PySem.W.mg_of X G a_law_like, k_law_like, B_law_like, .nil, fun _ => .nil⟩⟩ ⟨⟨_, _, [], [], G_least_apart, PySem.W.mg_of X G a_least_apart, k_least_apart, kbind_all F_least_apart (fun _ _ _ _ _ _ us ws h1 h2 => match us, ws, h1, h2 with | [], [_, _, _], _, _ => rfl), fun _ => .nil⟩⟩ ⟨⟨_, _, [], [], G_kinds_of, PySem.W.mg_of X G a_kinds_of, k_kinds_of, B_kinds_of, .nil, fun _ => .nil⟩⟩ F_law_sums_right (by rintro _ _ _ ⟨_, _, _, _, _, rfl, _⟩; rfl) (by exact sem_sums C_Numbers)
  have G_law_small : FnOk l.prog w K mg base CX0 5 f_law_small _ ["heap"] (spD K (S_small)) := ok_law_small T ⟨⟨_, _, [], [], G_law_draw, PySem.W.mg_of X G a_law_draw, k_law_draw, B_law_draw, .nil, fun _ => .nil⟩⟩ ⟨⟨_, _, [], [], ⟨mk_Numbers, a_Numbers_init, i_Numbers_init, kc_Numbers⟩, G_Numbers_init, PySem.W.mg_of X G aC_Numbers, B_Numbers_init, .nil, fun _ => .nil⟩⟩ ⟨⟨_, _, [], [], G_law_lots, PySem.W.mg_of X G a_law_lots, k_law_lots, B_law_lots, .nil, fun _ => .nil⟩⟩ ⟨⟨_, _, [], [], G_law_fewest, PySem.W.mg_of X G a_law_fewest, k_law_fewest, B_law_fewest, .nil, fun _ => .nil⟩⟩ ⟨⟨_, _, [], [], G_taken_slack, PySem.W.mg_of X G a_taken_slack, k_taken_slack, B_taken_slack, .nil, fun _ => .nil⟩⟩ ⟨⟨_, _, [], [], G_needed_apart, PySem.W.mg_of X G a_needed_apart, k_needed_apart, B_needed_apart, .nil, fun _ => .nil⟩⟩ ⟨⟨_, _, [], [], G_kinds_of, PySem.W.mg_of X G a_kinds_of, k_kinds_of, B_kinds_of, .nil, fun _ => .nil⟩⟩ F_law_small (by rintro _ _ _ ⟨_, rfl, _⟩; rfl) (by exact sem_small C_Numbers)
  have G_law : FnOk l.prog w K mg base CX0 8 fa _ ["script"] (spD K (S_law)) := ok_law T ⟨⟨_, _, [], [], G_law_heap, PySem.W.mg_of X G a_law_heap, k_law_heap, B_law_heap, .nil, fun _ => .nil⟩⟩ ⟨⟨_, _, [], [], G_law_draw, PySem.W.mg_of X G a_law_draw, k_law_draw, B_law_draw, .nil, fun _ => .nil⟩⟩ ⟨⟨_, _, [], [], G_law_numbers, PySem.W.mg_of X G a_law_numbers, k_law_numbers, B_law_numbers, .nil, fun _ => .nil⟩⟩ ⟨⟨_, _, [], [], G_law_sums_right, PySem.W.mg_of X G a_law_sums_right, k_law_sums_right, B_law_sums_right, .nil, fun _ => .nil⟩⟩ ⟨⟨_, _, [], [], G_law_small, PySem.W.mg_of X G a_law_small, k_law_small, B_law_small, .nil, fun _ => .nil⟩⟩ ⟨⟨_, _, [], [], G_law_like, PySem.W.mg_of X G a_law_like, k_law_like, B_law_like, .nil, fun _ => .nil⟩⟩ ⟨⟨_, _, [], [], G_kinds_of, PySem.W.mg_of X G a_kinds_of, k_kinds_of, B_kinds_of, .nil, fun _ => .nil⟩⟩ ⟨⟨_, _, [], [], G_law_made, PySem.W.mg_of X G a_law_made, k_law_made, B_law_made, .nil, fun _ => .nil⟩⟩ ⟨⟨_, _, [], [], G_least_apart, PySem.W.mg_of X G a_least_apart, k_least_apart, B_least_apart, .nil, fun _ => .nil⟩⟩ F_law (by rintro _ _ _ ⟨_, rfl, _⟩; rfl) (by exact sem_law C_Numbers)
  exact G_law
theorem walk {l : PySem.W.OpenLaw} {q : Program} {loose : List Str} {XP : (Str → Option Value) → Heap → Prop} {YP : World → Heap → Prop} {d : DefRec} {K : Params → PySem.W.Frag} (hn : l.most = some 63) (hdf : d.params.defaults = [])
    (hY : ∀ (w : World) (h : Heap), YP w h → (K w.params).In h)
    (F : ∀ (w : World) (mg : Str → Option Value) (fa : Addr) (h : Heap), (K w.params).In h → h.Ns mainGlobals mg → mg d.name = some (.ref fa) →
      ∃ fd : FuncData, (∀ (s : Shared) (u : Value), BindsTo s fd ⟨[u], []⟩ [("script", u)]) ∧ ∀ base : Heap, (K w.params).In base → base.Ns mainGlobals mg → FnOk l.prog w (K w.params) mg base CX0 8 fa fd ["script"] (spD (K w.params) S_law)) :
    PySem.W.WalkO q loose XP YP l.row.toRowW d [] (fun f vs => PySem.call f vs) :=
  L2.walk_of (n := 63) (k := 8) (x := "script") (CX := fun _ => CX0) (sp := fun w => spD (K w.params) S_law) hn (by decide) hdf ⟨rfl, by decide, by decide⟩ hY F
    (fun w H a ns hl _ hS => law_start hS fun M => ⟨ns, rfl, hl, fun _ => rfl⟩) fun _ _ _ _ _ z => z
end K32

open PySem PySem.W PyProof.Rows in
set_option maxRecDepth 100000 in
set_option maxHeartbeats 0 in
theorem PySem.Challenge.cw_agreedapart_k32_whole_sums_and_least_apa_holds : PySem.Challenge.rw_agreedapart_k32_whole_sums_and_least_apa.Holds := by
  w_on; o_law; k_head; (case hw => w_witness2)
  k_fill
  refine K32.walk (l := PySem.Challenge.rw_agreedapart_k32_whole_sums_and_least_apa) rfl rfl (fun w h Y => PySem.W.kIn_of Y) ?F
  case F =>
    intro w mg fa h KX G hmg
    refine' K32.all_mk KX G hmg ?aC_Numbers ?pg_Numbers ?hd_Numbers ?po_Numbers ?sa_Numbers ?mk_Numbers ?kc_Numbers ?na_Numbers_c ?na_Numbers_w2 ?na_Numbers_k ?na_Numbers_f ?na_Numbers_w1 ?na_Numbers_d ?na_Numbers_a ?zb_isinstance ?zb_bool ?zb_int ?zb_str ?zb_tuple ?zb_max ?zb_enumerate ?zb_abs ?zb_len ?zb_all ?zb_range ?zb_min ?gc_WAYS ?lc_WAYS ?gc_ANY ?gc_PAPERS ?gc_UNSEEN ?gc_MOST_COPIES ?gc_MOST_LAG ?a_is_integer ?l_is_integer ?c_is_integer ?k_is_integer ?a_is_number ?l_is_number ?c_is_number ?k_is_number ?lT_is_number ?a_need_way ?l_need_way ?c_need_way ?k_need_way ?a_unlike_of ?l_unlike_of ?c_unlike_of ?k_unlike_of ?a_shown_slack ?l_shown_slack ?c_shown_slack ?k_shown_slack ?a_taken_slack ?l_taken_slack ?c_taken_slack ?k_taken_slack ?a_kinds_of ?l_kinds_of ?c_kinds_of ?k_kinds_of ?a_needed_apart ?l_needed_apart ?c_needed_apart ?k_needed_apart ?a_least_apart ?l_least_apart ?c_least_apart ?k_least_apart ?a_Numbers_init ?i_Numbers_init ?l_Numbers_init ?c_Numbers_init ?k_Numbers_init ?a_law_heap ?l_law_heap ?c_law_heap ?k_law_heap ?a_law_draw ?l_law_draw ?c_law_draw ?k_law_draw ?a_law_pick ?l_law_pick ?c_law_pick ?k_law_pick ?a_law_like ?l_law_like ?c_law_like ?k_law_like ?a_law_numbers ?l_law_numbers ?c_law_numbers ?k_law_numbers ?a_law_made ?l_law_made ?c_law_made ?k_law_made ?a_law_lots ?l_law_lots ?c_law_lots ?k_law_lots ?a_law_fewest ?l_law_fewest ?c_law_fewest ?k_law_fewest ?a_law_sums_right ?l_law_sums_right ?c_law_sums_right ?k_law_sums_right ?a_law_small ?l_law_small ?c_law_small ?k_law_small ?a_law ?l_law ?c_law ?k_law
    (case aC_Numbers => k_is)
    (case pg_Numbers => k_is)
    (case hd_Numbers => k_is)
    (case po_Numbers => k_is)
    (case sa_Numbers => k_is)
    (case mk_Numbers => k_is)
    (case kc_Numbers => k_is)
    (case na_Numbers_c => k_is)
    (case na_Numbers_w2 => k_is)
    (case na_Numbers_k => k_is)
    (case na_Numbers_f => k_is)
    (case na_Numbers_w1 => k_is)
    (case na_Numbers_d => k_is)
    (case na_Numbers_a => k_is)
    (case zb_isinstance => k_is)
    (case zb_bool => k_is)
    (case zb_int => k_is)
    (case zb_str => k_is)
    (case zb_tuple => k_is)
    (case zb_max => k_is)
    (case zb_enumerate => k_is)
    (case zb_abs => k_is)
    (case zb_len => k_is)
    (case zb_all => k_is)
    (case zb_range => k_is)
    (case zb_min => k_is)
    (case gc_WAYS => k_is)
    (case lc_WAYS => k_is)
    (case gc_ANY => k_is)
    (case gc_PAPERS => k_is)
    (case gc_UNSEEN => k_is)
    (case gc_MOST_COPIES => k_is)
    (case gc_MOST_LAG => k_is)
    (case a_is_integer => k_is)
    (case l_is_integer => k_is)
    (case c_is_integer => k_is)
    (case k_is_integer => k_is)
    (case a_is_number => k_is)
    (case l_is_number => k_is)
    (case c_is_number => k_is)
    (case k_is_number => k_is)
    (case lT_is_number => k_is)
    (case a_need_way => k_is)
    (case l_need_way => k_is)
    (case c_need_way => k_is)
    (case k_need_way => k_is)
    (case a_unlike_of => k_is)
    (case l_unlike_of => k_is)
    (case c_unlike_of => k_is)
    (case k_unlike_of => k_is)
    (case a_shown_slack => k_is)
    (case l_shown_slack => k_is)
    (case c_shown_slack => k_is)
    (case k_shown_slack => k_is)
    (case a_taken_slack => k_is)
    (case l_taken_slack => k_is)
    (case c_taken_slack => k_is)
    (case k_taken_slack => k_is)
    (case a_kinds_of => k_is)
    (case l_kinds_of => k_is)
    (case c_kinds_of => k_is)
    (case k_kinds_of => k_is)
    (case a_needed_apart => k_is)
    (case l_needed_apart => k_is)
    (case c_needed_apart => k_is)
    (case k_needed_apart => k_is)
    (case a_least_apart => k_is)
    (case l_least_apart => k_is)
    (case c_least_apart => k_is)
    (case k_least_apart => k_is)
    (case a_Numbers_init => k_is)
    (case i_Numbers_init => k_is)
    (case l_Numbers_init => k_is)
    (case c_Numbers_init => k_is)
    (case k_Numbers_init => k_is)
    (case a_law_heap => k_is)
    (case l_law_heap => k_is)
    (case c_law_heap => k_is)
    (case k_law_heap => k_is)
    (case a_law_draw => k_is)
    (case l_law_draw => k_is)
    (case c_law_draw => k_is)
    (case k_law_draw => k_is)
    (case a_law_pick => k_is)
    (case l_law_pick => k_is)
    (case c_law_pick => k_is)
    (case k_law_pick => k_is)
    (case a_law_like => k_is)
    (case l_law_like => k_is)
    (case c_law_like => k_is)
    (case k_law_like => k_is)
    (case a_law_numbers => k_is)
    (case l_law_numbers => k_is)
    (case c_law_numbers => k_is)
    (case k_law_numbers => k_is)
    (case a_law_made => k_is)
    (case l_law_made => k_is)
    (case c_law_made => k_is)
    (case k_law_made => k_is)
    (case a_law_lots => k_is)
    (case l_law_lots => k_is)
    (case c_law_lots => k_is)
    (case k_law_lots => k_is)
    (case a_law_fewest => k_is)
    (case l_law_fewest => k_is)
    (case c_law_fewest => k_is)
    (case k_law_fewest => k_is)
    (case a_law_sums_right => k_is)
    (case l_law_sums_right => k_is)
    (case c_law_sums_right => k_is)
    (case k_law_sums_right => k_is)
    (case a_law_small => k_is)
    (case l_law_small => k_is)
    (case c_law_small => k_is)
    (case k_law_small => k_is)
    (case a_law => k_is)
    (case l_law => k_is)
    (case c_law => k_is)
    (case k_law => k_is)
