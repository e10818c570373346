import PyProof.Rows.All
import Wide.All
import OpenK.AllK
import Wide.FinOn
import HandS.ForMost
import HandS.Walk
import HandS.IsInst
import HandS.TupAny
import HandS.Style
import HandS.Defaults
import KE.GoesMore
import KE.GoesEnum
import HandS.Conv
import HandS.Zip
import HandS.Flt
import HandS.WordsDict
import HandS.Small
import HandS.TupMul
import HandS.SortInts
import PySem.Challenge.RW_agreedapart_k54_whole_how_often_all_is_s
set_option Elab.async false
set_option linter.all false
set_option maxRecDepth 100000
set_option maxHeartbeats 4000000
/-! DL: readings over plain data. A value is data (D), the objects that change lie in a small store (Mem); each rule of the hand layer is taken over once. -/
namespace DL
open PySem PySem.Spec PyProof.Rows L2

/-- plain data; ref: an object that may change, or one of the text's own -/
inductive D where
  | non | bl (b : Bool) | int (i : Int) | str (x : Str) | ty (n : String)
  | tup (xs : List D) | lst (xs : List D) | scr (xs : List D)
  | obj (C : Addr) (ns : List Str) (ds : List D) | ref (a : Addr)

mutual
inductive Rep (K : PySem.W.Frag) (F : Hp) : V → D → Prop
  | non : Rep K F .non .non
  | bl (b : Bool) : Rep K F (.bl b) (.bl b)
  | int (i : Int) : Rep K F (.int i) (.int i)
  | str (x : Str) : Rep K F (.str x) (.str x)
  | ty (n : String) : Rep K F (.ty n) (.ty n)
  | ref (a : Addr) : Rep K F (.ref a) (.ref a)
  | tup {a : Addr} {vs : List V} {ds : List D} : SqT K F a vs → RepL K F vs ds → Rep K F (.ref a) (.tup ds)
  | lst {a : Addr} {vs : List V} {ds : List D} : F a = some (.lst vs) → RepL K F vs ds → Rep K F (.ref a) (.lst ds)
  | scr {a : Addr} {vs : List V} {ds : List D} : SqL K F a vs → RepL K F vs ds → Rep K F (.ref a) (.scr ds)
  | obj {a C dx : Addr} {fs : List (Str × V)} {ns : List Str} {ds : List D} : F a = some (.ins C dx fs) → fs.map (·.1) = ns → RepL K F (fs.map (·.2)) ds → Rep K F (.ref a) (.obj C ns ds)
inductive RepL (K : PySem.W.Frag) (F : Hp) : List V → List D → Prop
  | nil : RepL K F [] []
  | cons {v : V} {vs : List V} {d : D} {ds : List D} : Rep K F v d → RepL K F vs ds → RepL K F (v :: vs) (d :: ds)
end

/-- F' knows all that F knows -/
def Ex (F F' : Hp) : Prop := ∀ a o, F a = some o → F' a = some o
theorem Ex.refl (F : Hp) : Ex F F := fun _ _ h => h
theorem Ex.trans {F F1 F2 : Hp} (a : Ex F F1) (b : Ex F1 F2) : Ex F F2 := fun x o h => b x o (a x o h)
theorem Ex.new {F : Hp} {p : Addr} {o : HO} (h : F p = none) : Ex F (upd F p o) := fun a u e => by
  rw [upd_ne (ne_of_none e h)]
  exact e
theorem Ex.rd {F F' : Hp} {a : Addr} {u : HO} (e : Ex F F') (h : Rd F a u) : Rd F' a u := by
  rcases h with h | ⟨o, h⟩
  · exact .inl (e a _ h)
  · exact .inr ⟨o, e a _ h⟩
theorem Ex.sqT {K : PySem.W.Frag} {F F' : Hp} {a : Addr} {vs : List V} (e : Ex F F') (h : SqT K F a vs) : SqT K F' a vs := by
  rcases h with h | h
  · exact .inl (e.rd h)
  · exact .inr h
theorem Ex.sqL {K : PySem.W.Frag} {F F' : Hp} {a : Addr} {vs : List V} (e : Ex F F') (h : SqL K F a vs) : SqL K F' a vs := by
  rcases h with h | h
  · exact .inl (e.rd h)
  · exact .inr h

mutual
theorem Rep.mono {K : PySem.W.Frag} {F F' : Hp} (e : Ex F F') : ∀ {v : V} {d : D}, Rep K F v d → Rep K F' v d
  | _, _, .non => .non
  | _, _, .bl b => .bl b
  | _, _, .int i => .int i
  | _, _, .str x => .str x
  | _, _, .ty n => .ty n
  | _, _, .ref a => .ref a
  | _, _, .tup h r => .tup (e.sqT h) (RepL.mono e r)
  | _, _, .lst h r => .lst (e _ _ h) (RepL.mono e r)
  | _, _, .scr h r => .scr (e.sqL h) (RepL.mono e r)
  | _, _, .obj h n r => .obj (e _ _ h) n (RepL.mono e r)
theorem RepL.mono {K : PySem.W.Frag} {F F' : Hp} (e : Ex F F') : ∀ {vs : List V} {ds : List D}, RepL K F vs ds → RepL K F' vs ds
  | _, _, .nil => .nil
  | _, _, .cons r t => .cons (Rep.mono e r) (RepL.mono e t)
end
section
variable {K : PySem.W.Frag} {F F' : Hp}
theorem RepL.length : ∀ {vs : List V} {ds : List D}, RepL K F vs ds → vs.length = ds.length
  | _, _, .nil => rfl
  | _, _, .cons _ t => by rw [List.length_cons, List.length_cons, RepL.length t]
theorem RepL.get : ∀ {vs : List V} {ds : List D} {i : Nat} {d : D}, RepL K F vs ds → ds[i]? = some d → ∃ v, vs[i]? = some v ∧ Rep K F v d
  | _, _, _, _, .nil, e => by simp at e
  | _, _, 0, _, .cons r _, e => by simp at e; subst e; exact ⟨_, rfl, r⟩
  | _, _, i + 1, _, .cons _ t, e => by
    obtain ⟨v, h1, h2⟩ := RepL.get (i := i) t (by simpa using e)
    exact ⟨v, by simpa using h1, h2⟩
theorem RepL.get' : ∀ {vs : List V} {ds : List D} {i : Nat} {v : V}, RepL K F vs ds → vs[i]? = some v → ∃ d, ds[i]? = some d ∧ Rep K F v d
  | _, _, _, _, .nil, e => by simp at e
  | _, _, 0, _, .cons r _, e => by simp at e; subst e; exact ⟨_, rfl, r⟩
  | _, _, i + 1, _, .cons _ t, e => by
    obtain ⟨v, h1, h2⟩ := RepL.get' (i := i) t (by simpa using e)
    exact ⟨v, by simpa using h1, h2⟩
theorem RepL.append : ∀ {vs ws : List V} {ds es : List D}, RepL K F vs ds → RepL K F ws es → RepL K F (vs ++ ws) (ds ++ es)
  | _, _, _, _, .nil, s => s
  | _, _, _, _, .cons r t, s => .cons r (RepL.append t s)
theorem RepL.take : ∀ {vs : List V} {ds : List D} (n : Nat), RepL K F vs ds → RepL K F (vs.take n) (ds.take n)
  | _, _, 0, _ => by rw [List.take_zero, List.take_zero]; exact .nil
  | _, _, n + 1, .nil => .nil
  | _, _, n + 1, .cons r t => .cons r (RepL.take n t)
theorem RepL.drop : ∀ {vs : List V} {ds : List D} (n : Nat), RepL K F vs ds → RepL K F (vs.drop n) (ds.drop n)
  | _, _, 0, r => r
  | _, _, n + 1, .nil => .nil
  | _, _, n + 1, .cons _ t => RepL.drop n t
theorem RepL.set : ∀ {vs : List V} {ds : List D} (n : Nat) {v : V} {d : D}, Rep K F v d → RepL K F vs ds → RepL K F (vs.set n v) (ds.set n d)
  | _, _, _, _, _, _, .nil => .nil
  | _, _, 0, _, _, q, .cons r t => .cons q t
  | _, _, n + 1, _, _, q, .cons r t => .cons r (RepL.set n q t)
theorem RepL.erase : ∀ {vs : List V} {ds : List D} (n : Nat), RepL K F vs ds → RepL K F (vs.eraseIdx n) (ds.eraseIdx n)
  | _, _, _, .nil => .nil
  | _, _, 0, .cons r t => t
  | _, _, n + 1, .cons r t => .cons r (RepL.erase n t)
theorem RepL.rev {vs : List V} {ds : List D} (h : RepL K F vs ds) : RepL K F vs.reverse ds.reverse := by
  have aux : ∀ {vs : List V} {ds : List D}, RepL K F vs ds → RepL K F vs.reverse ds.reverse := by
    intro vs
    induction vs with
    | nil => intro ds h; cases h; exact .nil
    | cons v vs ih =>
      intro ds h
      cases h with
      | cons r t =>
        rw [List.reverse_cons, List.reverse_cons]
        exact (ih t).append (.cons r .nil)
  exact aux h
/-- the same for numbers alone -/
theorem RepL.ints : ∀ {ns : List Int} {vs : List V}, RepL K F vs (ns.map D.int) → vs = ns.map V.int
  | [], _, .nil => rfl
  | n :: ns, _, .cons r t => by cases r; rw [RepL.ints t]; rfl
theorem RepL.ofInts : ∀ (ns : List Int), RepL K F (ns.map V.int) (ns.map D.int)
  | [] => .nil
  | n :: ns => .cons (.int n) (RepL.ofInts ns)
theorem RepL.bools : ∀ {ns : List Bool} {vs : List V}, RepL K F vs (ns.map D.bl) → vs = ns.map V.bl
  | [], _, .nil => rfl
  | n :: ns, _, .cons r t => by cases r; rw [RepL.bools t]; rfl
end

/-! ### what may change -/
inductive MO where
  | lst (ds : List D)
  | ins (C : Addr) (ns : List Str) (ds : List D)
  /-- a source of draws: its own list, the list of its great cells -/
  | srcH (c : Addr) | srcC
  /-- a dict: its keys are numbers and texts | tuples of such -/
  | dic (kvs : List (Key × D)) | dicT (kvs : List (List Key × D))
abbrev Mem := Addr → Option MO
def mput (M : Mem) (a : Addr) (o : MO) : Mem := fun b => if b = a then some o else M b
def mdel (M : Mem) (a : Addr) : Mem := fun b => if b = a then none else M b
theorem mput_same {M : Mem} {a : Addr} {o : MO} : mput M a o a = some o := by unfold mput; rw [if_pos rfl]
theorem mput_ne {M : Mem} {a b : Addr} {o : MO} (h : b ≠ a) : mput M a o b = M b := by unfold mput; rw [if_neg h]
theorem mdel_same {M : Mem} {a : Addr} : mdel M a a = none := by unfold mdel; rw [if_pos rfl]
theorem mdel_ne {M : Mem} {a b : Addr} (h : b ≠ a) : mdel M a b = M b := by unfold mdel; rw [if_neg h]
theorem mdel_mput {M : Mem} {a : Addr} {o : MO} (h : M a = none) : mdel (mput M a o) a = M := by
  funext b
  by_cases e : b = a
  · subst e; rw [mdel_same, h]
  · rw [mdel_ne e, mput_ne e]
theorem mput_mput {M : Mem} {a : Addr} {o u : MO} : mput (mput M a o) a u = mput M a u := by
  funext b; unfold mput; split <;> rfl
theorem mput_eq {M : Mem} {a : Addr} {o : MO} (h : M a = some o) : mput M a o = M := by
  funext b; unfold mput; split
  · rename_i e; rw [e, h]
  · rfl

def MOk (K : PySem.W.Frag) (F H : Hp) (a : Addr) : MO → Prop
  | .lst ds => ∃ vs, H a = some (.lst vs) ∧ RepL K F vs ds
  | .ins C ns ds => ∃ dx fs, H a = some (.ins C dx fs) ∧ fs.map (·.1) = ns ∧ RepL K F (fs.map (·.2)) ds
  | .srcH c => ∃ i : Int, H a = some (.lst [.ref c, .int i]) ∧ 0 ≤ i
  | .srcC => ∃ ns : List Int, H a = some (.lst (ns.map V.int)) ∧ (∀ n ∈ ns, 0 ≤ n) ∧ ns.length ≤ 1000
  | .dic kvs => ∃ ws, H a = some (.dK ws) ∧ ws.map (·.1) = kvs.map (·.1) ∧ RepL K F (ws.map (·.2)) (kvs.map (·.2))
  | .dicT kvs => ∃ ws, H a = some (.dT ws) ∧ ws.map (·.1) = kvs.map (·.1) ∧ RepL K F (ws.map (·.2)) (kvs.map (·.2))
/-- F: what never changes; M: what may -/
structure Ok (K : PySem.W.Frag) (F H : Hp) (M : Mem) : Prop where
  sub : Ex F H
  mem : ∀ a o, M a = some o → F a = none ∧ MOk K F H a o
/-- from one state to a later one: what is told of neither F nor M stays -/
structure Go (F H : Hp) (M : Mem) (F' H' : Hp) (M' : Mem) : Prop where
  ext : Ex F F'
  fr : ∀ a o, H a = some o → F a = none → M a = none → H' a = some o ∧ F' a = none ∧ M' a = none
theorem Go.refl {F H : Hp} {M : Mem} : Go F H M F H M := ⟨Ex.refl F, fun _ _ h1 h2 h3 => ⟨h1, h2, h3⟩⟩
theorem Go.trans {F H F1 H1 F2 H2 : Hp} {M M1 M2 : Mem} (a : Go F H M F1 H1 M1) (b : Go F1 H1 M1 F2 H2 M2) : Go F H M F2 H2 M2 :=
  ⟨a.ext.trans b.ext, fun x o h1 h2 h3 => have q := a.fr x o h1 h2 h3; b.fr x o q.1 q.2.1 q.2.2⟩
section
variable {K : PySem.W.Frag} {F H : Hp} {M : Mem}
theorem Ok.free (k : Ok K F H M) {p : Addr} (h : H p = none) : F p = none ∧ M p = none := by
  constructor
  · cases e : F p with
    | none => rfl
    | some o => rw [k.sub p o e] at h; cases h
  · cases e : M p with
    | none => rfl
    | some o =>
      have q := (k.mem p o e).2
      cases o with
      | lst ds => obtain ⟨vs, q, _⟩ := q; rw [q] at h; cases h
      | ins C ns ds => obtain ⟨dx, fs, q, _⟩ := q; rw [q] at h; cases h
      | srcH c => obtain ⟨i, q, _⟩ := q; rw [q] at h; cases h
      | srcC => obtain ⟨ns, q, _⟩ := q; rw [q] at h; cases h
      | dic kvs => obtain ⟨ws, q, _⟩ := q; rw [q] at h; cases h
      | dicT kvs => obtain ⟨ws, q, _⟩ := q; rw [q] at h; cases h
theorem MOk.mono {H' F' : Hp} {a : Addr} {o : MO} (e : Ex F F') (h : H' a = H a) (q : MOk K F H a o) : MOk K F' H' a o := by
  cases o with
  | lst ds => obtain ⟨vs, q, r⟩ := q; exact ⟨vs, by rw [h]; exact q, r.mono e⟩
  | ins C ns ds => obtain ⟨dx, fs, q, z, r⟩ := q; exact ⟨dx, fs, by rw [h]; exact q, z, r.mono e⟩
  | srcH c => obtain ⟨i, q, r⟩ := q; exact ⟨i, by rw [h]; exact q, r⟩
  | srcC => obtain ⟨ns, q, r⟩ := q; exact ⟨ns, by rw [h]; exact q, r⟩
  | dic kvs => obtain ⟨ws, q, z, r⟩ := q; exact ⟨ws, by rw [h]; exact q, z, r.mono e⟩
  | dicT kvs => obtain ⟨ws, q, z, r⟩ := q; exact ⟨ws, by rw [h]; exact q, z, r.mono e⟩
/-- a new object that never changes -/
theorem Ok.newF (k : Ok K F H M) {p : Addr} (h : H p = none) (o : HO) : Ok K (upd F p o) (upd H p o) M := by
  obtain ⟨hf, hm⟩ := k.free h
  refine ⟨fun a u e => ?_, fun a u e => ?_⟩
  · by_cases q : a = p
    · subst q; rw [upd_same] at e ⊢; exact e
    · rw [upd_ne q] at e ⊢; exact k.sub a u e
  · have ne : a ≠ p := fun q => by rw [q, hm] at e; cases e
    obtain ⟨h1, h2⟩ := k.mem a u e
    exact ⟨by rw [upd_ne ne]; exact h1, h2.mono (Ex.new hf) (upd_ne ne)⟩
theorem Ok.goF (k : Ok K F H M) {p : Addr} (h : H p = none) (o : HO) : Go F H M (upd F p o) (upd H p o) M := by
  obtain ⟨hf, hm⟩ := k.free h
  refine ⟨Ex.new hf, fun a u h1 h2 h3 => ?_⟩
  have ne : a ≠ p := fun q => by rw [q, h] at h1; cases h1
  exact ⟨by rw [upd_ne ne]; exact h1, by rw [upd_ne ne]; exact h2, h3⟩
/-- a new object that may change -/
theorem Ok.newM (k : Ok K F H M) {p : Addr} (h : H p = none) {o : HO} {m : MO} (q : MOk K F (upd H p o) p m) : Ok K F (upd H p o) (mput M p m) := by
  obtain ⟨hf, hm⟩ := k.free h
  refine ⟨fun a u e => ?_, fun a u e => ?_⟩
  · rw [upd_ne (ne_of_none e hf)]; exact k.sub a u e
  · by_cases qe : a = p
    · subst qe; rw [mput_same] at e; cases e; exact ⟨hf, q⟩
    · rw [mput_ne qe] at e
      obtain ⟨h1, h2⟩ := k.mem a u e
      exact ⟨h1, h2.mono (Ex.refl F) (upd_ne qe)⟩
theorem Ok.goM (k : Ok K F H M) {p : Addr} (h : H p = none) (o : HO) (m : MO) : Go F H M F (upd H p o) (mput M p m) := by
  refine ⟨Ex.refl F, fun a u h1 h2 h3 => ?_⟩
  have ne : a ≠ p := fun q => by rw [q, h] at h1; cases h1
  exact ⟨by rw [upd_ne ne]; exact h1, h2, by rw [mput_ne ne]; exact h3⟩
/-- what may change is changed -/
theorem Ok.write (k : Ok K F H M) {p : Addr} {m0 : MO} (h : M p = some m0) {o : HO} {m : MO} (q : MOk K F (upd H p o) p m) : Ok K F (upd H p o) (mput M p m) := by
  have hf := (k.mem p m0 h).1
  refine ⟨fun a u e => ?_, fun a u e => ?_⟩
  · rw [upd_ne (ne_of_none e hf)]; exact k.sub a u e
  · by_cases qe : a = p
    · subst qe; rw [mput_same] at e; cases e; exact ⟨hf, q⟩
    · rw [mput_ne qe] at e
      obtain ⟨h1, h2⟩ := k.mem a u e
      exact ⟨h1, h2.mono (Ex.refl F) (upd_ne qe)⟩
theorem Ok.goW (k : Ok K F H M) {p : Addr} {m0 : MO} (h : M p = some m0) (o : HO) (m : MO) : Go F H M F (upd H p o) (mput M p m) := by
  refine ⟨Ex.refl F, fun a u h1 h2 h3 => ?_⟩
  have ne : a ≠ p := fun q => by rw [q, h] at h3; cases h3
  exact ⟨by rw [upd_ne ne]; exact h1, h2, by rw [mput_ne ne]; exact h3⟩
/-- from now on it never changes -/
theorem Ok.freezeL (k : Ok K F H M) {p : Addr} {ds : List D} (h : M p = some (.lst ds)) : ∃ vs, H p = some (.lst vs) ∧ Ok K (upd F p (.lst vs)) H (mdel M p) ∧ Go F H M (upd F p (.lst vs)) H (mdel M p) ∧ Rep K (upd F p (.lst vs)) (.ref p) (.lst ds) := by
  obtain ⟨hf, vs, hv, r⟩ := k.mem p _ h
  refine ⟨vs, hv, ⟨fun a u e => ?_, fun a u e => ?_⟩, ⟨Ex.new hf, fun a u h1 h2 h3 => ?_⟩, .lst upd_same (r.mono (Ex.new hf))⟩
  · by_cases q : a = p
    · subst q; rw [upd_same] at e; cases e; exact hv
    · rw [upd_ne q] at e; exact k.sub a u e
  · have ne : a ≠ p := fun q => by rw [q, mdel_same] at e; cases e
    rw [mdel_ne ne] at e
    obtain ⟨h1, h2⟩ := k.mem a u e
    exact ⟨by rw [upd_ne ne]; exact h1, h2.mono (Ex.new hf) rfl⟩
  · have ne : a ≠ p := fun q => by rw [q, h] at h3; cases h3
    exact ⟨h1, by rw [upd_ne ne]; exact h2, by rw [mdel_ne ne]; exact h3⟩
theorem Ok.freezeI (k : Ok K F H M) {p C : Addr} {ns : List Str} {ds : List D} (h : M p = some (.ins C ns ds)) : ∃ dx vs, H p = some (.ins C dx vs) ∧ Ok K (upd F p (.ins C dx vs)) H (mdel M p) ∧ Go F H M (upd F p (.ins C dx vs)) H (mdel M p) ∧ Rep K (upd F p (.ins C dx vs)) (.ref p) (.obj C ns ds) := by
  obtain ⟨hf, dx, vs, hv, hn, r⟩ := k.mem p _ h
  refine ⟨dx, vs, hv, ⟨fun a u e => ?_, fun a u e => ?_⟩, ⟨Ex.new hf, fun a u h1 h2 h3 => ?_⟩, .obj upd_same hn (r.mono (Ex.new hf))⟩
  · by_cases q : a = p
    · subst q; rw [upd_same] at e; cases e; exact hv
    · rw [upd_ne q] at e; exact k.sub a u e
  · have ne : a ≠ p := fun q => by rw [q, mdel_same] at e; cases e
    rw [mdel_ne ne] at e
    obtain ⟨h1, h2⟩ := k.mem a u e
    exact ⟨by rw [upd_ne ne]; exact h1, h2.mono (Ex.new hf) rfl⟩
  · have ne : a ≠ p := fun q => by rw [q, h] at h3; cases h3
    exact ⟨h1, by rw [upd_ne ne]; exact h2, by rw [mdel_ne ne]; exact h3⟩
end

/-! ### names -/
abbrev DE := List (Option D)
structure SRel (K : PySem.W.Frag) (F : Hp) (σ : L2.St) (Γ : DE) : Prop where
  len : σ.length = Γ.length
  get : ∀ (i : Nat) (d : D), Γ[i]? = some (some d) → ∃ v, σ[i]? = some (some v) ∧ Rep K F v d
section
variable {K : PySem.W.Frag} {F F' : Hp} {σ : L2.St} {Γ : DE}
theorem SRel.mono (e : Ex F F') (r : SRel K F σ Γ) : SRel K F' σ Γ := ⟨r.len, fun i d h => by
  obtain ⟨v, h1, h2⟩ := r.get i d h
  exact ⟨v, h1, h2.mono e⟩⟩
theorem SRel.set (r : SRel K F σ Γ) (i : Nat) {v : V} {d : D} (q : Rep K F v d) : SRel K F (σ.set i (some v)) (Γ.set i (some d)) := by
  refine ⟨by rw [List.length_set, List.length_set, r.len], fun j e h => ?_⟩
  by_cases ij : i = j
  · subst ij
    by_cases hl : i < Γ.length
    · rw [List.getElem?_set_self hl] at h
      cases h
      exact ⟨v, List.getElem?_set_self (by rw [r.len]; exact hl), q⟩
    · rw [List.getElem?_eq_none (by rw [List.length_set]; omega)] at h
      cases h
  · rw [List.getElem?_set_ne ij] at h
    obtain ⟨w, h1, h2⟩ := r.get j e h
    exact ⟨w, by rw [List.getElem?_set_ne ij]; exact h1, h2⟩
theorem SRel.forget (r : SRel K F σ Γ) (i : Nat) : SRel K F (σ.set i none) (Γ.set i none) := by
  refine ⟨by rw [List.length_set, List.length_set, r.len], fun j e h => ?_⟩
  by_cases ij : i = j
  · subst ij
    by_cases hl : i < Γ.length
    · rw [List.getElem?_set_self hl] at h; cases h
    · rw [List.getElem?_eq_none (by rw [List.length_set]; omega)] at h; cases h
  · rw [List.getElem?_set_ne ij] at h
    obtain ⟨w, h1, h2⟩ := r.get j e h
    exact ⟨w, by rw [List.getElem?_set_ne ij]; exact h1, h2⟩
def wipeD (Γ : DE) : List Nat → DE
  | [] => Γ
  | v :: vs => (wipeD Γ vs).set v none
theorem SRel.wipe (r : SRel K F σ Γ) : ∀ vs : List Nat, SRel K F (L2.wipe σ vs) (wipeD Γ vs)
  | [] => r
  | v :: vs => (SRel.wipe r vs).forget v
def startD (N : List Str) (ds : List D) : DE := ds.map some ++ List.replicate (N.length - ds.length) none
theorem SRel.start {N : List Str} {vs : List V} {ds : List D} (r : RepL K F vs ds) : SRel K F (L2.start N vs) (startD N ds) := by
  have hl := r.length
  refine ⟨by unfold L2.start startD; simp [hl], fun i d h => ?_⟩
  unfold startD at h
  unfold L2.start
  by_cases hi : i < ds.length
  · rw [List.getElem?_append_left (by simpa using hi), List.getElem?_map] at h
    cases e : ds[i]? with
    | none => rw [e] at h; cases h
    | some d' =>
      rw [e] at h
      cases h
      obtain ⟨v, h1, h2⟩ := r.get e
      exact ⟨v, by rw [List.getElem?_append_left (by simp; omega), List.getElem?_map, h1]; rfl, h2⟩
  · rw [List.getElem?_append_right (by simpa using hi), List.getElem?_replicate] at h
    split at h <;> cases h
end
end DL

set_option Elab.async false
set_option linter.all false
set_option maxRecDepth 100000
set_option maxHeartbeats 4000000
namespace DL
open PySem PySem.Spec PyProof.Rows L2

/-! ### the data behind a value that may change -/
def viewA (a : Addr) : Option MO → D
  | some (.lst ds) => .lst ds
  | _ => .ref a
def view (M : Mem) : D → D
  | .ref a => viewA a (M a)
  | .non => .non
  | .bl b => .bl b
  | .int i => .int i
  | .str x => .str x
  | .ty n => .ty n
  | .tup xs => .tup xs
  | .lst xs => .lst xs
  | .scr xs => .scr xs
  | .obj C ns ds => .obj C ns ds
theorem view_cases (M : Mem) (a : Addr) : (∃ ds, M a = some (.lst ds) ∧ view M (.ref a) = .lst ds) ∨ view M (.ref a) = .ref a := by
  show (∃ ds, M a = some (.lst ds) ∧ viewA a (M a) = .lst ds) ∨ viewA a (M a) = .ref a
  cases M a with
  | none => exact .inr rfl
  | some o => cases o <;> first | exact .inl ⟨_, rfl, rfl⟩ | exact .inr rfl
theorem view_of {M : Mem} {a : Addr} {ds : List D} (h : M a = some (.lst ds)) : view M (.ref a) = .lst ds := by
  show viewA a (M a) = .lst ds
  rw [h]; rfl
mutual
def py : D → PyData
  | .non => .none
  | .bl b => .bool b
  | .int i => .int i
  | .str x => .str x
  | .tup xs => .tuple (pyL xs)
  | .lst xs => .list (pyL xs)
  | .scr xs => .list (pyL xs)
  | .ty _ => .none
  | .obj _ _ _ => .none
  | .ref _ => .none
def pyL : List D → List PyData
  | [] => []
  | x :: xs => py x :: pyL xs
end
mutual
def isPy : D → Bool
  | .non => true
  | .bl _ => true
  | .int _ => true
  | .str _ => true
  | .tup xs => isPyL xs
  | .lst xs => isPyL xs
  | .scr xs => isPyL xs
  | .ty _ => false
  | .obj _ _ _ => false
  | .ref _ => false
def isPyL : List D → Bool
  | [] => true
  | x :: xs => isPy x && isPyL xs
end
section
variable {K : PySem.W.Frag} {F H : Hp} {M : Mem}
mutual
theorem Rep.dp : ∀ {v : V} {d : D}, Rep K H v d → isPy d = true → Dp K H v (py d)
  | _, _, .non, _ => by rw [py]; exact .non
  | _, _, .bl b, _ => by rw [py]; exact .bl b
  | _, _, .int i, _ => by rw [py]; exact .int i
  | _, _, .str x, _ => by rw [py]; exact .str x
  | _, _, .ty n, h => by simp [isPy] at h
  | _, _, .ref a, h => by simp [isPy] at h
  | _, _, .tup s r, h => by rw [py]; exact .tup s (RepL.dp r (by simpa [isPy] using h))
  | _, _, .lst s r, h => by rw [py]; exact .lst (SqL.of s) (RepL.dp r (by simpa [isPy] using h))
  | _, _, .scr s r, h => by rw [py]; exact .lst s (RepL.dp r (by simpa [isPy] using h))
  | _, _, .obj _ _ _, h => by simp [isPy] at h
theorem RepL.dp : ∀ {vs : List V} {ds : List D}, RepL K H vs ds → isPyL ds = true → DpAll K H vs (pyL ds)
  | _, _, .nil, _ => by rw [pyL]; exact .nil
  | _, _, .cons r t, h => by
    rw [isPyL, Bool.and_eq_true] at h
    rw [pyL]
    exact .cons (Rep.dp r h.1) (RepL.dp t h.2)
end
theorem Ok.view (k : Ok K F H M) {v : V} {x : D} (r : Rep K F v x) : Rep K H v (view M x) := by
  cases x with
  | ref a =>
    cases r
    rcases view_cases M a with ⟨ds, e, q⟩ | q
    · rw [q]
      obtain ⟨_, vs, hv, q⟩ := k.mem a _ e
      exact .lst hv (q.mono k.sub)
    · rw [q]
      exact .ref a
  | _ => exact r.mono k.sub
theorem Ok.vlst (k : Ok K F H M) {v : V} {x : D} (r : Rep K F v x) {ds : List D} (e : DL.view M x = .lst ds) : ∃ a vs, v = .ref a ∧ H a = some (.lst vs) ∧ RepL K F vs ds := by
  cases x with
  | ref a =>
    cases r
    rcases view_cases M a with ⟨ds', e', q⟩ | q
    · rw [q] at e
      cases e
      obtain ⟨_, vs, hv, q⟩ := k.mem a _ e'
      exact ⟨a, vs, rfl, hv, q⟩
    · rw [q] at e
      cases e
  | lst xs =>
    cases e
    cases r with
    | lst h q => exact ⟨_, _, rfl, k.sub _ _ h, q⟩
  | _ => cases e
theorem Ok.vtup (k : Ok K F H M) {v : V} {x : D} (r : Rep K F v x) {ds : List D} (e : DL.view M x = .tup ds) : x = .tup ds ∧ ∃ a vs, v = .ref a ∧ SqT K F a vs ∧ SqT K H a vs ∧ RepL K F vs ds := by
  cases x with
  | ref a =>
    rcases view_cases M a with ⟨ds', e', q⟩ | q
    · rw [q] at e; cases e
    · rw [q] at e; cases e
  | tup xs =>
    cases e
    cases r with
    | tup h q => exact ⟨rfl, _, _, rfl, h, k.sub.sqT h, q⟩
  | _ => cases e
theorem Ok.vscr (k : Ok K F H M) {v : V} {x : D} (r : Rep K F v x) {ds : List D} (e : DL.view M x = .scr ds) : ∃ a vs, v = .ref a ∧ SqL K H a vs ∧ RepL K F vs ds := by
  cases x with
  | ref a =>
    rcases view_cases M a with ⟨ds', e', q⟩ | q
    · rw [q] at e; cases e
    · rw [q] at e; cases e
  | scr xs =>
    cases e
    cases r with
    | scr h q => exact ⟨_, _, rfl, k.sub.sqL h, q⟩
  | _ => cases e
theorem Ok.vstr (k : Ok K F H M) {v : V} {x : D} (r : Rep K F v x) {z : Str} (e : DL.view M x = .str z) : v = .str z := by
  have q := k.view r
  rw [e] at q
  cases q
  rfl
end

/-! ### readings over data -/
abbrev QD := D → Mem → Prop
abbrev TD := DE → Mem → QD → Prop
abbrev TDT := DE → Mem → (Bool → Mem → Prop) → Prop
abbrev TDA := DE → Mem → (List D → Mem → Prop) → Prop
abbrev TDO := DE → Mem → (Option Int → Mem → Prop) → Prop
abbrev R2D := D → D → Mem → QD → Prop
abbrev R1D := D → Mem → QD → Prop
abbrev RCD := List D → Mem → QD → Prop
structure DEnds where
  nx : DE → Mem → Prop
  rt : QD
  bk : DE → Mem → Prop := fun _ _ => False
  ct : DE → Mem → Prop := fun _ _ => False
abbrev TDS := DEnds → DE → Mem → Prop
abbrev TDG := D → DE → Mem → (DE → Mem → Prop) → Prop
abbrev TDGs := List D → DE → Mem → (DE → Mem → Prop) → Prop

/-- what a value's reading may count on behind it -/
def CV (K : PySem.W.Frag) (F H : Hp) (M : Mem) (Q : QD) (R : VK) : Prop := ∀ v F' H' M' x, Go F H M F' H' M' → Ok K F' H' M' → Rep K F' v x → Q x M' → R v H'
def CB (K : PySem.W.Frag) (F H : Hp) (M : Mem) (Q : Bool → Mem → Prop) (R : Bool → Hp → Prop) : Prop := ∀ b F' H' M', Go F H M F' H' M' → Ok K F' H' M' → Q b M' → R b H'
def CA (K : PySem.W.Frag) (F H : Hp) (M : Mem) (Q : List D → Mem → Prop) (R : List V → Hp → Prop) : Prop := ∀ vs F' H' M' xs, Go F H M F' H' M' → Ok K F' H' M' → RepL K F' vs xs → Q xs M' → R vs H'
def CO (K : PySem.W.Frag) (F H : Hp) (M : Mem) (Q : Option Int → Mem → Prop) (R : Option Int → Hp → Prop) : Prop := ∀ o F' H' M', Go F H M F' H' M' → Ok K F' H' M' → Q o M' → R o H'
def CN (K : PySem.W.Frag) (F H : Hp) (M : Mem) (Q : DE → Mem → Prop) (R : L2.St → Hp → Prop) : Prop := ∀ σ F' H' M' Γ, Go F H M F' H' M' → Ok K F' H' M' → SRel K F' σ Γ → Q Γ M' → R σ H'

def SimE (K : PySem.W.Frag) (t : TE) (d : TD) : Prop := ∀ F H M σ Γ (Q : QD) (R : VK), Ok K F H M → SRel K F σ Γ → d Γ M Q → CV K F H M Q R → t σ H R
def SimT (K : PySem.W.Frag) (t : TT) (d : TDT) : Prop := ∀ F H M σ Γ (Q : Bool → Mem → Prop) (R : Bool → Hp → Prop), Ok K F H M → SRel K F σ Γ → d Γ M Q → CB K F H M Q R → t σ H R
def SimA (K : PySem.W.Frag) (t : TA) (d : TDA) : Prop := ∀ F H M σ Γ (Q : List D → Mem → Prop) (R : List V → Hp → Prop), Ok K F H M → SRel K F σ Γ → d Γ M Q → CA K F H M Q R → t σ H R
def SimO (K : PySem.W.Frag) (t : TO) (d : TDO) : Prop := ∀ F H M σ Γ (Q : Option Int → Mem → Prop) (R : Option Int → Hp → Prop), Ok K F H M → SRel K F σ Γ → d Γ M Q → CO K F H M Q R → t σ H R
def Sim2 (K : PySem.W.Frag) (r : R2) (d : R2D) : Prop := ∀ F H M v w x y (Q : QD) (R : VK), Ok K F H M → Rep K F v x → Rep K F w y → d x y M Q → CV K F H M Q R → r v w H R
def Sim1 (K : PySem.W.Frag) (r : V → Hp → VK → Prop) (d : R1D) : Prop := ∀ F H M v x (Q : QD) (R : VK), Ok K F H M → Rep K F v x → d x M Q → CV K F H M Q R → r v H R
def SimC (K : PySem.W.Frag) (r : List V → Hp → VK → Prop) (d : RCD) : Prop := ∀ F H M vs xs (Q : QD) (R : VK), Ok K F H M → RepL K F vs xs → d xs M Q → CV K F H M Q R → r vs H R
def SimM (K : PySem.W.Frag) (r : V → List V → Hp → VK → Prop) (d : D → List D → Mem → QD → Prop) : Prop := ∀ F H M v vs x xs (Q : QD) (R : VK), Ok K F H M → Rep K F v x → RepL K F vs xs → d x xs M Q → CV K F H M Q R → r v vs H R
def SimS (K : PySem.W.Frag) (t : TS) (d : TDS) : Prop := ∀ F H M σ Γ (E : DEnds) (D : Ends), Ok K F H M → SRel K F σ Γ → d E Γ M → CN K F H M E.nx D.nx → CV K F H M E.rt D.rt → CN K F H M E.bk D.bk → CN K F H M E.ct D.ct → t D σ H
def SimG (K : PySem.W.Frag) (g : TG) (d : TDG) : Prop := ∀ F H M v x σ Γ (Q : DE → Mem → Prop) (R : L2.St → Hp → Prop), Ok K F H M → SRel K F σ Γ → Rep K F v x → d x Γ M Q → CN K F H M Q R → g v σ H R
def SimGs (K : PySem.W.Frag) (g : TGs) (d : TDGs) : Prop := ∀ F H M vs xs σ Γ (Q : DE → Mem → Prop) (R : L2.St → Hp → Prop), Ok K F H M → SRel K F σ Γ → RepL K F vs xs → d xs Γ M Q → CN K F H M Q R → g vs σ H R

section
variable {K : PySem.W.Frag} {F H F1 H1 : Hp} {M M1 : Mem}
theorem CV.go {Q : QD} {R : VK} (g : Go F H M F1 H1 M1) (c : CV K F H M Q R) : CV K F1 H1 M1 Q R := fun v F' H' M' x h => c v F' H' M' x (g.trans h)
theorem CB.go {Q : Bool → Mem → Prop} {R : Bool → Hp → Prop} (g : Go F H M F1 H1 M1) (c : CB K F H M Q R) : CB K F1 H1 M1 Q R := fun v F' H' M' h => c v F' H' M' (g.trans h)
theorem CA.go {Q : List D → Mem → Prop} {R : List V → Hp → Prop} (g : Go F H M F1 H1 M1) (c : CA K F H M Q R) : CA K F1 H1 M1 Q R := fun v F' H' M' x h => c v F' H' M' x (g.trans h)
theorem CO.go {Q : Option Int → Mem → Prop} {R : Option Int → Hp → Prop} (g : Go F H M F1 H1 M1) (c : CO K F H M Q R) : CO K F1 H1 M1 Q R := fun v F' H' M' h => c v F' H' M' (g.trans h)
theorem CN.go {Q : DE → Mem → Prop} {R : L2.St → Hp → Prop} (g : Go F H M F1 H1 M1) (c : CN K F H M Q R) : CN K F1 H1 M1 Q R := fun v F' H' M' x h => c v F' H' M' x (g.trans h)
end

/-! ### a derivation and its reading over data -/
structure PD (X : Cx) (e : Expr) (t : TE) (d : TD) : Prop where
  pe : PE X e t
  sim : SimE X.K t d
structure PDT (X : Cx) (e : Expr) (t : TT) (d : TDT) : Prop where
  pe : PT X e t
  sim : SimT X.K t d
structure PDW (X : Cx) (e : Expr) (t : TT) (d : TDT) : Prop where
  pe : PW X e t
  sim : SimT X.K t d
structure PDA (X : Cx) (es : List Expr) (t : TA) (d : TDA) : Prop where
  pe : PA X es t
  sim : SimA X.K t d
structure PDO (X : Cx) (e : Option Expr) (t : TO) (d : TDO) : Prop where
  pe : PO X e t
  sim : SimO X.K t d
structure PDG (X : Cx) (e : Expr) (t : TG) (d : TDG) : Prop where
  pe : PG X e t
  sim : SimG X.K t d
structure PDGs (X : Cx) (es : List Expr) (t : TGs) (d : TDGs) : Prop where
  pe : PGs X es t
  sim : SimGs X.K t d
structure PDS (X : Cx) (st : Stmt) (t : TS) (d : TDS) : Prop where
  pe : PS X st t
  sim : SimS X.K t d
structure PDSs (X : Cx) (st : List Stmt) (t : TS) (d : TDS) : Prop where
  pe : PSs X st t
  sim : SimS X.K t d

/-! ### names, constants -/
def look : DE → Nat → (D → Prop) → Prop
  | [], _, _ => False
  | none :: _, 0, _ => False
  | some d :: _, 0, k => k d
  | _ :: Γ, n + 1, k => look Γ n k
theorem look_of : ∀ {Γ : DE} {i : Nat} {k : D → Prop}, look Γ i k → ∃ d, Γ[i]? = some (some d) ∧ k d
  | [], _, _, h => by unfold look at h; exact h.elim
  | none :: Γ, 0, k, h => by unfold look at h; exact h.elim
  | some d :: Γ, 0, k, h => ⟨d, rfl, h⟩
  | x :: Γ, n + 1, k, h => by
    have h' : look Γ n k := by cases x <;> exact h
    obtain ⟨d, h1, h2⟩ := look_of h'
    exact ⟨d, by simpa using h1, h2⟩
def dVar (i : Nat) : TD := fun Γ M Q => look Γ i fun d => Q d M
def dC (d : D) : TD := fun _ M Q => Q d M
section
variable {X : Cx} {K : PySem.W.Frag}
theorem pd_var {i : Nat} {x : Str} {pos : Pos} (p : PE X (.Name x pos) (tVar i)) : PD X (.Name x pos) (tVar i) (dVar i) := ⟨p, fun F H M σ Γ Q R k s h c => by
  obtain ⟨d, e, q⟩ := look_of h
  obtain ⟨v, e1, r⟩ := s.get i d e
  exact ⟨v, e1, c v F H M d Go.refl k r q⟩⟩
theorem sim_c {v : V} {d : D} (h : ∀ F, Rep K F v d) : SimE K (tC v) (dC d) := fun F H M σ Γ Q R k s q c => c v F H M d Go.refl k (h F) q
theorem pd_int {i : Int} {j pos} : PD X (.Constant (.int i) j pos) (tC (.int i)) (dC (.int i)) := ⟨pe_int, sim_c fun _ => .int i⟩
theorem pd_bl {b : Bool} {j pos} : PD X (.Constant (.bool b) j pos) (tC (.bl b)) (dC (.bl b)) := ⟨pe_bl, sim_c fun _ => .bl b⟩
theorem pd_non {j pos} : PD X (.Constant .none j pos) (tC .non) (dC .non) := ⟨pe_non, sim_c fun _ => .non⟩
theorem pd_str {x : Str} {j pos} : PD X (.Constant (.str x) j pos) (tC (.str x)) (dC (.str x)) := ⟨pe_str, sim_c fun _ => .str x⟩
/-- a constant of the module: its value by the text -/
theorem pd_glob {x : Str} {v : V} {u : Value} {d : D} {pos : Pos} (hg : Gl X x) (hm : X.mg x = some u) (r : RelV v u) (h : ∀ F, Rep X.K F v d) (hd : (x == ("__debug__" : Str)) = false := by decide) : PD X (.Name x pos) (tC v) (dC d) := ⟨pe_glob hg hm r hd, sim_c h⟩
theorem pd_ty {x : Str} {n : String} {pos : Pos} (hg : Gl X x) (hm : X.mg x = none) (hv : bootBuiltins x = some (.type n)) (hn : x ≠ "__name__" := by decide) (hd : (x == ("__debug__" : Str)) = false := by decide) : PD X (.Name x pos) (tC (.ty n)) (dC (.ty n)) :=
  ⟨pe_bltn hg hm hv rfl hn hd, sim_c fun _ => .ty n⟩

/-! ### operators -/
def dOp (r : R2D) (a b : TD) : TD := fun Γ M Q => a Γ M fun x M1 => b Γ M1 fun y M2 => r x y M2 Q
def dUn (r : R1D) (a : TD) : TD := fun Γ M Q => a Γ M fun x M1 => r x M1 Q
theorem sim_op {r : R2} {dr : R2D} {ta tb : TE} {da db : TD} (hr : Sim2 K r dr) (ha : SimE K ta da) (hb : SimE K tb db) : SimE K (tOp r ta tb) (dOp dr da db) := fun F H M σ Γ Q R k s h c =>
  ha F H M σ Γ _ _ k s h fun v F1 H1 M1 x g1 k1 r1 h1 => hb F1 H1 M1 σ Γ _ _ k1 (s.mono g1.ext) h1 fun w F2 H2 M2 y g2 k2 r2 h2 =>
    hr F2 H2 M2 v w x y Q R k2 (r1.mono g2.ext) r2 h2 ((c.go g1).go g2)
theorem sim_un {r : V → Hp → VK → Prop} {dr : R1D} {ta : TE} {da : TD} (hr : Sim1 K r dr) (ha : SimE K ta da) : SimE K (tUn r ta) (dUn dr da) := fun F H M σ Γ Q R k s h c =>
  ha F H M σ Γ _ _ k s h fun v F1 H1 M1 x g1 k1 r1 h1 => hr F1 H1 M1 v x Q R k1 r1 h1 (c.go g1)
variable {a b : Expr} {ta tb : TE} {da db : TD} {pos : Pos}
theorem pd_op {op : Operator} {r : R2} {dr : R2D} (ho : OpR X (binaryOp op) r) (hs : Sim2 X.K r dr) (ha : PD X a ta da) (hb : PD X b tb db) : PD X (.BinOp a op b pos) (tOp r ta tb) (dOp dr da db) := ⟨pe_op ho ha.pe hb.pe, sim_op hs ha.sim hb.sim⟩
theorem pd_un {op : UnaryOp} {r : V → Hp → VK → Prop} {dr : R1D} (ho : UnR X (unaryOp op) r) (hs : Sim1 X.K r dr) (ha : PD X a ta da) : PD X (.UnaryOp op a pos) (tUn r ta) (dUn dr da) := ⟨pe_un ho ha.pe, sim_un hs ha.sim⟩
theorem pd_cmp {op : CmpOp} {r : R2} {dr : R2D} (ho : OpR X (compareOp op) r) (hs : Sim2 X.K r dr) (ha : PD X a ta da) (hb : PD X b tb db) (hm : behindInMarks op b = false) : PD X (.Compare a [op] [b] pos) (tOp r ta tb) (dOp dr da db) := ⟨pe_cmpR ho ha.pe hb.pe hm, sim_op hs ha.sim hb.sim⟩
theorem pd_ix {r : R2} {dr : R2D} (ho : IxR X r) (hs : Sim2 X.K r dr) (ha : PD X a ta da) (hb : PD X b tb db) (hp : PlainIx b) : PD X (.Subscript a b pos) (tOp r ta tb) (dOp dr da db) := ⟨pe_ix ho ha.pe hb.pe hp, sim_op hs ha.sim hb.sim⟩
def dTest (a : TD) : TDT := fun Γ M Q => a Γ M fun x M1 => match x with | .bl b => Q b M1 | _ => False
theorem sim_test {ta : TE} {da : TD} (ha : SimE K ta da) : SimT K (tTest ta) (dTest da) := fun F H M σ Γ Q R k s h c =>
  ha F H M σ Γ _ _ k s h fun v F1 H1 M1 x g1 k1 r1 h1 => by
    cases x with
    | bl b => cases r1; exact ⟨b, rfl, c b F1 H1 M1 g1 k1 h1⟩
    | _ => exact h1.elim
theorem sim_B {ta : TE} {da : TD} (ha : SimE K ta da) : SimT K (tB ta) (dTest da) := fun F H M σ Γ Q R k s h c =>
  ha F H M σ Γ _ _ k s h fun v F1 H1 M1 x g1 k1 r1 h1 => by
    cases x with
    | bl b => cases r1; exact ⟨b, rfl, c b F1 H1 M1 g1 k1 h1⟩
    | _ => exact h1.elim
theorem pdt_cmp {op : CmpOp} {r : R2} {dr : R2D} (ho : OpR X (compareOp op) r) (hs : Sim2 X.K r dr) (ha : PD X a ta da) (hb : PD X b tb db) (hm : behindInMarks op b = false) : PDT X (.Compare a [op] [b] pos) (tTest (tOp r ta tb)) (dTest (dOp dr da db)) :=
  ⟨pt_cmpR ho ha.pe hb.pe hm, sim_test (sim_op hs ha.sim hb.sim)⟩
theorem pdt_val {e : Expr} {t : TE} {d : TD} (h : PD X e t d) (he : ∀ whole, isTrue e X.env whole = (do let v ← whole; standAt e.pos; holding [v] (truthy v)) := by intro _; rfl) : PDT X e (tB t) (dTest d) := ⟨pt_val h.pe he, sim_B h.sim⟩
/-- a < b < c -/
def dChain (r r' : R2D) (a b c : TD) : TD := fun Γ M Q => a Γ M fun x M1 => b Γ M1 fun y M2 => r x y M2 fun z M3 => match z with
  | .bl k => if k = true then c Γ M3 fun w M4 => r' y w M4 fun u M5 => match u with | .bl k2 => Q (.bl k2) M5 | _ => False else Q (.bl false) M3
  | _ => False
/-! ### and, or, not, if -/
def dAnd (t u : TDT) : TDT := fun Γ M Q => t Γ M fun c M1 => if c = true then u Γ M1 Q else Q false M1
def dOr (t u : TDT) : TDT := fun Γ M Q => t Γ M fun c M1 => if c = true then Q true M1 else u Γ M1 Q
def dNot (t : TDT) : TDT := fun Γ M Q => t Γ M fun c M1 => Q (!c) M1
def dAndV (a b : TD) : TD := fun Γ M Q => a Γ M fun x M1 => match x with | .bl c => if c = true then b Γ M1 Q else Q (.bl false) M1 | _ => False
def dOrV (a b : TD) : TD := fun Γ M Q => a Γ M fun x M1 => match x with | .bl c => if c = true then Q (.bl true) M1 else b Γ M1 Q | _ => False
def dNotV (a : TD) : TD := fun Γ M Q => a Γ M fun x M1 => match x with | .bl c => Q (.bl (!c)) M1 | _ => False
def dIf (t : TDT) (a b : TD) : TD := fun Γ M Q => t Γ M fun c M1 => if c = true then a Γ M1 Q else b Γ M1 Q
theorem sim_and {t u : TT} {dt du : TDT} (ht : SimT K t dt) (hu : SimT K u du) : SimT K (tAnd t u) (dAnd dt du) := fun F H M σ Γ Q R k s h c =>
  ht F H M σ Γ _ _ k s h fun b F1 H1 M1 g1 k1 h1 => by
    cases b with
    | true => rw [if_pos rfl] at h1 ⊢; exact hu F1 H1 M1 σ Γ Q R k1 (s.mono g1.ext) h1 (c.go g1)
    | false => rw [if_neg Bool.false_ne_true] at h1 ⊢; exact c false F1 H1 M1 g1 k1 h1
theorem sim_or {t u : TT} {dt du : TDT} (ht : SimT K t dt) (hu : SimT K u du) : SimT K (tOr t u) (dOr dt du) := fun F H M σ Γ Q R k s h c =>
  ht F H M σ Γ _ _ k s h fun b F1 H1 M1 g1 k1 h1 => by
    cases b with
    | false => rw [if_neg Bool.false_ne_true] at h1 ⊢; exact hu F1 H1 M1 σ Γ Q R k1 (s.mono g1.ext) h1 (c.go g1)
    | true => rw [if_pos rfl] at h1 ⊢; exact c true F1 H1 M1 g1 k1 h1
theorem sim_not {t : TT} {dt : TDT} (ht : SimT K t dt) : SimT K (tNot t) (dNot dt) := fun F H M σ Γ Q R k s h c =>
  ht F H M σ Γ _ _ k s h fun b F1 H1 M1 g1 k1 h1 => c (!b) F1 H1 M1 g1 k1 h1
theorem sim_andV {ta tb : TE} {da db : TD} (ha : SimE K ta da) (hb : SimE K tb db) : SimE K (tAndV ta tb) (dAndV da db) := fun F H M σ Γ Q R k s h c =>
  ha F H M σ Γ _ _ k s h fun v F1 H1 M1 x g1 k1 r1 h1 => by
    cases x with
    | bl b =>
      cases r1
      refine ⟨b, rfl, ?_⟩
      cases b with
      | true => simp only [if_true] at h1 ⊢; exact hb F1 H1 M1 σ Γ Q R k1 (s.mono g1.ext) h1 (c.go g1)
      | false => simp only [Bool.false_eq_true, if_false] at h1 ⊢; exact c _ F1 H1 M1 _ g1 k1 (.bl false) h1
    | _ => exact h1.elim
theorem sim_orV {ta tb : TE} {da db : TD} (ha : SimE K ta da) (hb : SimE K tb db) : SimE K (tOrV ta tb) (dOrV da db) := fun F H M σ Γ Q R k s h c =>
  ha F H M σ Γ _ _ k s h fun v F1 H1 M1 x g1 k1 r1 h1 => by
    cases x with
    | bl b =>
      cases r1
      refine ⟨b, rfl, ?_⟩
      cases b with
      | false => simp only [Bool.false_eq_true, if_false] at h1 ⊢; exact hb F1 H1 M1 σ Γ Q R k1 (s.mono g1.ext) h1 (c.go g1)
      | true => simp only [if_true] at h1 ⊢; exact c _ F1 H1 M1 _ g1 k1 (.bl true) h1
    | _ => exact h1.elim
theorem sim_notV {ta : TE} {da : TD} (ha : SimE K ta da) : SimE K (tNotV ta) (dNotV da) := fun F H M σ Γ Q R k s h c =>
  ha F H M σ Γ _ _ k s h fun v F1 H1 M1 x g1 k1 r1 h1 => by
    cases x with
    | bl b => cases r1; exact ⟨b, rfl, c _ F1 H1 M1 _ g1 k1 (.bl _) h1⟩
    | _ => exact h1.elim
theorem sim_if {t : TT} {dt : TDT} {ta tb : TE} {da db : TD} (ht : SimT K t dt) (ha : SimE K ta da) (hb : SimE K tb db) : SimE K (tIf t ta tb) (dIf dt da db) := fun F H M σ Γ Q R k s h c =>
  ht F H M σ Γ _ _ k s h fun b F1 H1 M1 g1 k1 h1 => by
    cases b with
    | true => rw [if_pos rfl] at h1 ⊢; exact ha F1 H1 M1 σ Γ Q R k1 (s.mono g1.ext) h1 (c.go g1)
    | false => rw [if_neg Bool.false_ne_true] at h1 ⊢; exact hb F1 H1 M1 σ Γ Q R k1 (s.mono g1.ext) h1 (c.go g1)
variable {tA tB' : TT} {dA dB' : TDT} {rest : List Expr}
theorem pdw_and1 (ha : PDT X a tA dA) : PDW X (.BoolOp .And [a] pos) tA dA := ⟨pw_and1 ha.pe, ha.sim⟩
theorem pdw_or1 (ha : PDT X a tA dA) : PDW X (.BoolOp .Or [a] pos) tA dA := ⟨pw_or1 ha.pe, ha.sim⟩
theorem pdw_and (ha : PDT X a tA dA) (hb : PDW X (.BoolOp .And (b :: rest) pos) tB' dB') : PDW X (.BoolOp .And (a :: b :: rest) pos) (tAnd tA tB') (dAnd dA dB') := ⟨pw_and ha.pe hb.pe, sim_and ha.sim hb.sim⟩
theorem pdw_or (ha : PDT X a tA dA) (hb : PDW X (.BoolOp .Or (b :: rest) pos) tB' dB') : PDW X (.BoolOp .Or (a :: b :: rest) pos) (tOr tA tB') (dOr dA dB') := ⟨pw_or ha.pe hb.pe, sim_or ha.sim hb.sim⟩
theorem PDW.pt {e : Expr} (h : PDW X e tA dA) : PDT X e tA dA := ⟨h.pe.pt, h.sim⟩
theorem pdt_not (ha : PDT X a tA dA) : PDT X (.UnaryOp .Not a pos) (tNot tA) (dNot dA) := ⟨pt_not ha.pe, sim_not ha.sim⟩
theorem pd_one {op} (h : PD X a ta da) : PD X (.BoolOp op [a] pos) ta da := ⟨pe_one h.pe, h.sim⟩
theorem pd_and (ha : PD X a ta da) (hb : PD X (.BoolOp .And (b :: rest) pos) tb db) : PD X (.BoolOp .And (a :: b :: rest) pos) (tAndV ta tb) (dAndV da db) := ⟨pe_and ha.pe hb.pe, sim_andV ha.sim hb.sim⟩
theorem pd_or (ha : PD X a ta da) (hb : PD X (.BoolOp .Or (b :: rest) pos) tb db) : PD X (.BoolOp .Or (a :: b :: rest) pos) (tOrV ta tb) (dOrV da db) := ⟨pe_or ha.pe hb.pe, sim_orV ha.sim hb.sim⟩
theorem pd_not (ha : PD X a ta da) : PD X (.UnaryOp .Not a pos) (tNotV ta) (dNotV da) := ⟨pe_not ha.pe, sim_notV ha.sim⟩
theorem pd_ifExp {c : Expr} (hc : PDT X c tA dA) (ha : PD X a ta da) (hb : PD X b tb db) : PD X (.IfExp c a b pos) (tIf tA ta tb) (dIf dA da db) := ⟨pe_ifExp hc.pe ha.pe hb.pe, sim_if hc.sim ha.sim hb.sim⟩
end
end DL

set_option Elab.async false
set_option linter.all false
set_option maxRecDepth 100000
set_option maxHeartbeats 4000000
namespace DL
open PySem PySem.Spec PyProof.Rows L2

/-! ### operators on data -/
def addD : R2D := fun x y M Q => match view M x, view M y with
  | .int i, .int j => Q (.int (i + j)) M
  | .lst xs, .lst ys => xs.length + ys.length ≤ sizeLine ∧ Q (.lst (xs ++ ys)) M
  | .tup xs, .tup ys => xs.length + ys.length ≤ sizeLine ∧ Q (.tup (xs ++ ys)) M
  | .str a, .str b => a.length + b.length ≤ sizeLine ∧ Q (.str (a ++ b)) M
  | _, _ => False
def subD : R2D := fun x y M Q => match x, y with
  | .int i, .int j => Q (.int (i - j)) M
  | _, _ => False
def mulD : R2D := fun x y M Q => match view M x, y with
  | .int i, .int j => ((-(2 ^ 64) < i ∧ i < 2 ^ 64) ∨ (-(2 ^ 64) < j ∧ j < 2 ^ 64)) ∧ Q (.int (i * j)) M
  | .lst xs, .int k => -(2 ^ 63) ≤ k ∧ k < 2 ^ 63 ∧ xs.length * k.toNat ≤ sizeLine ∧ Q (.lst (List.replicate k.toNat xs).flatten) M
  | _, _ => False
def fdivD : R2D := fun x y M Q => match x, y with
  | .int i, .int j => (0 < j ∧ j < 1073741824) ∧ Q (.int (i / j)) M
  | _, _ => False
def modD : R2D := fun x y M Q => match x, y with
  | .int i, .int j => 0 < j ∧ Q (.int (i % j)) M
  | _, _ => False
def powD : R2D := fun x y M Q => match x, y with
  | .int i, .int j => (0 ≤ j ∧ j ≤ 1000000 ∧ i.natAbs < 2 ^ 64) ∧ Q (.int (i ^ j.toNat)) M
  | _, _ => False
def negD : R1D := fun x M Q => match x with
  | .int i => Q (.int (-i)) M
  | _ => False
def ltD : R2D := fun x y M Q => match x, y with
  | .int i, .int j => Q (.bl (decide (i < j))) M
  | _, _ => False
def leD : R2D := fun x y M Q => match x, y with
  | .int i, .int j => Q (.bl (decide (i ≤ j))) M
  | _, _ => False
def gtD : R2D := fun x y M Q => match x, y with
  | .int i, .int j => Q (.bl (decide (j < i))) M
  | _, _ => False
def geD : R2D := fun x y M Q => match x, y with
  | .int i, .int j => Q (.bl (decide (j ≤ i))) M
  | _, _ => False
/-- == of plain single values -/
def sEq : D → D → Option Bool
  | .int i, .int j => some (decide (i = j))
  | .bl i, .bl j => some (decide (i = j))
  | .str i, .str j => some (decide (i = j))
  | .non, .non => some true
  | .non, .int _ => some false | .int _, .non => some false
  | .non, .bl _ => some false | .bl _, .non => some false
  | .non, .str _ => some false | .str _, .non => some false
  | .int _, .str _ => some false | .str _, .int _ => some false
  | .bl _, .str _ => some false | .str _, .bl _ => some false
  | _, _ => none
def deepEq (x y : D) (k : Bool → Prop) : Prop := isPy x = true ∧ isPy y = true ∧ SeqAt.shaped (py x) = true ∧ SeqAt.shaped (py y) = true ∧ k (PyData.eqv (py x) (py y))
def eqD : R2D := fun x y M Q => match sEq x y with
  | some b => Q (.bl b) M
  | none => deepEq (view M x) (view M y) fun b => Q (.bl b) M
def neD : R2D := fun x y M Q => match sEq x y with
  | some b => Q (.bl (!b)) M
  | none => deepEq (view M x) (view M y) fun b => Q (.bl (!b)) M
def isNonD : D → Bool
  | .non => true
  | _ => false
def isD : R2D := fun x y M Q => match y with
  | .non => Q (.bl (isNonD x)) M
  | .bl b => (match x with | .bl a => Q (.bl (decide (a = b))) M | _ => False)
  | _ => False
def notD : R2D := fun x y M Q => match y with
  | .non => Q (.bl (!isNonD x)) M
  | .bl b => (match x with | .bl a => Q (.bl (!decide (a = b))) M | _ => False)
  | _ => False
def flatD : D → Bool
  | .non => true | .bl _ => true | .int _ => true | .str _ => true
  | _ => false
def eqF : D → D → Bool
  | .non, .non => true
  | .bl a, .bl b => a == b
  | .bl a, .int b => (if a then 1 else 0) == b
  | .int a, .bl b => a == (if b then 1 else 0)
  | .int a, .int b => a == b
  | .str a, .str b => a == b
  | _, _ => false
def itemsD (M : Mem) (x : D) : Option (List D) := match view M x with
  | .lst xs => some xs
  | .tup xs => some xs
  | .scr xs => some xs
  | _ => none
def inSeq (x y : D) (M : Mem) (k : Bool → Prop) : Prop := match itemsD M y with
  | some ds => flatD x = true ∧ ds.all flatD = true ∧ k (ds.any fun z => eqF z x)
  | none => False
def inD : R2D := fun x y M Q => inSeq x y M fun b => Q (.bl b) M
def notInD : R2D := fun x y M Q => inSeq x y M fun b => Q (.bl (!b)) M
def nth (xs : List D) (i : Int) (k : D → Prop) : Prop := match atI xs i with
  | some d => k d
  | none => False
def ixD : R2D := fun x y M Q => match y with
  | .int i => (match itemsD M x with
    | some xs => nth xs i fun d => Q d M
    | none => False)
  | _ => False

section
variable {K : PySem.W.Frag}
theorem RepL.atI {F : Hp} {vs : List V} {ds : List D} {i : Int} {d : D} (r : RepL K F vs ds) (h : L2.atI ds i = some d) : ∃ v, L2.atI vs i = some v ∧ Rep K F v d := by
  unfold L2.atI at h ⊢
  rw [r.length]
  cases e : ixN ds.length i with
  | none => rw [e] at h; cases h
  | some j => rw [e] at h; exact r.get h
theorem nth_of {xs : List D} {i : Int} {k : D → Prop} (h : nth xs i k) : ∃ d, L2.atI xs i = some d ∧ k d := by
  unfold nth at h
  cases e : L2.atI xs i with
  | none => rw [e] at h; exact h.elim
  | some d => rw [e] at h; exact ⟨d, rfl, h⟩
theorem Ok.items {F H : Hp} {M : Mem} (k : Ok K F H M) {v : V} {x : D} (r : Rep K F v x) {ds : List D} (e : itemsD M x = some ds) : ∃ a vs, v = .ref a ∧ (SqL K H a vs ∨ SqT K H a vs) ∧ RepL K F vs ds := by
  unfold itemsD at e
  cases q : DL.view M x with
  | lst xs => rw [q] at e; cases e; obtain ⟨a, vs, h1, h2, h3⟩ := k.vlst r q; exact ⟨a, vs, h1, .inl (SqL.of h2), h3⟩
  | tup xs => rw [q] at e; cases e; obtain ⟨_, a, vs, h1, _, h2, h3⟩ := k.vtup r q; exact ⟨a, vs, h1, .inr h2, h3⟩
  | scr xs => rw [q] at e; cases e; obtain ⟨a, vs, h1, h2, h3⟩ := k.vscr r q; exact ⟨a, vs, h1, .inl h2, h3⟩
  | _ => rw [q] at e; cases e
theorem rep_flat {F : Hp} {v : V} {d : D} (r : Rep K F v d) (h : flatD d = true) : flatV v = true := by cases r <;> first | rfl | exact absurd h Bool.false_ne_true
theorem rep_eqF {F : Hp} {v w : V} {x y : D} (r : Rep K F v x) (q : Rep K F w y) (hx : flatD x = true) (hy : flatD y = true) : eqV v w = eqF x y := by
  cases r <;> first | (cases q <;> first | rfl | exact absurd hy Bool.false_ne_true) | exact absurd hx Bool.false_ne_true
theorem repL_flat {F : Hp} : ∀ {vs : List V} {ds : List D}, RepL K F vs ds → ds.all flatD = true → vs.all flatV = true
  | _, _, .nil, _ => rfl
  | _, _, .cons r t, h => by
    rw [List.all_cons, Bool.and_eq_true] at h
    rw [List.all_cons, Bool.and_eq_true]
    exact ⟨rep_flat r h.1, repL_flat t h.2⟩
theorem repL_any {F : Hp} {w : V} {y : D} (q : Rep K F w y) (hy : flatD y = true) : ∀ {vs : List V} {ds : List D}, RepL K F vs ds → ds.all flatD = true → (vs.any fun z => eqV z w) = ds.any fun z => eqF z y
  | _, _, .nil, _ => rfl
  | _, _, .cons r t, h => by
    rw [List.all_cons, Bool.and_eq_true] at h
    rw [List.any_cons, List.any_cons, rep_eqF r q h.1 hy, repL_any q hy t h.2]

/-! ints -/
theorem s2_int {g : Int → Int → V} {gd : Int → Int → D} (hg : ∀ i j F, Rep K F (g i j) (gd i j)) : Sim2 K (rI0 g) (fun x y M Q => match x, y with | .int i, .int j => Q (gd i j) M | _, _ => False) := by
  intro F H M v w x y Q R k r1 r2 h c
  cases x with
  | int i =>
    cases y with
    | int j => cases r1; cases r2; exact ⟨i, j, rfl, rfl, c _ F H M _ Go.refl k (hg i j F) h⟩
    | _ => exact h.elim
  | _ => exact h.elim
theorem s2_intC {C : Int → Int → Prop} {g : Int → Int → V} {gd : Int → Int → D} (hg : ∀ i j F, Rep K F (g i j) (gd i j)) : Sim2 K (rI C g) (fun x y M Q => match x, y with | .int i, .int j => C i j ∧ Q (gd i j) M | _, _ => False) := by
  intro F H M v w x y Q R k r1 r2 h c
  cases x with
  | int i =>
    cases y with
    | int j => cases r1; cases r2; exact ⟨i, j, rfl, rfl, h.1, c _ F H M _ Go.refl k (hg i j F) h.2⟩
    | _ => exact h.elim
  | _ => exact h.elim
theorem s2_sub : Sim2 K (rI0 fun i j => .int (i - j)) subD := s2_int (gd := fun i j => .int (i - j)) fun i j F => .int _
theorem s2_fdiv : Sim2 K (rI CDiv fun i j => .int (i / j)) fdivD := s2_intC (gd := fun i j => .int (i / j)) fun i j F => .int _
theorem s2_mod : Sim2 K (rI (fun _ j => 0 < j) fun i j => .int (i % j)) modD := s2_intC (gd := fun i j => .int (i % j)) fun i j F => .int _
theorem s2_pow : Sim2 K (rI CPow fun i j => .int (i ^ j.toNat)) powD := s2_intC (gd := fun i j => .int (i ^ j.toNat)) fun i j F => .int _
theorem s2_lt : Sim2 K (rI0 fun i j => .bl (decide (i < j))) ltD := s2_int (gd := fun i j => .bl (decide (i < j))) fun i j F => .bl _
theorem s2_le : Sim2 K (rI0 fun i j => .bl (decide (i ≤ j))) leD := s2_int (gd := fun i j => .bl (decide (i ≤ j))) fun i j F => .bl _
theorem s2_gt : Sim2 K (rI0 fun i j => .bl (decide (j < i))) gtD := s2_int (gd := fun i j => .bl (decide (j < i))) fun i j F => .bl _
theorem s2_ge : Sim2 K (rI0 fun i j => .bl (decide (j ≤ i))) geD := s2_int (gd := fun i j => .bl (decide (j ≤ i))) fun i j F => .bl _
theorem s1_neg : Sim1 K (rU fun i => .int (-i)) negD := by
  intro F H M v x Q R k r h c
  cases x with
  | int i => cases r; exact ⟨i, rfl, c _ F H M _ Go.refl k (.int _) h⟩
  | _ => exact h.elim
/-- a new list, a new tuple that never change -/
theorem new_lst {F H : Hp} {M : Mem} {vs : List V} {ds : List D} {Q : QD} {R : VK} (k : Ok K F H M) (r : RepL K F vs ds) (h : Q (.lst ds) M) (c : CV K F H M Q R) : ∀ p, H p = none → R (.ref p) (upd H p (.lst vs)) := fun p hp =>
  c _ _ _ _ _ (k.goF hp _) (k.newF hp _) (.lst upd_same (r.mono (k.goF hp _).ext)) h
theorem new_tup {F H : Hp} {M : Mem} {vs : List V} {ds : List D} {Q : QD} {R : VK} (k : Ok K F H M) (r : RepL K F vs ds) (h : Q (.tup ds) M) (c : CV K F H M Q R) : ∀ p, H p = none → R (.ref p) (upd H p (.tup vs)) := fun p hp =>
  c _ _ _ _ _ (k.goF hp _) (k.newF hp _) (.tup (SqT.of upd_same) (r.mono (k.goF hp _).ext)) h
def rAddAny (K : PySem.W.Frag) : R2 := fun x y H Q => rI0 (fun i j => .int (i + j)) x y H Q ∨ (rCat x y H Q ∨ (rCatA K x y H Q ∨ (∃ i j, x = .str i ∧ y = .str j ∧ i.length + j.length ≤ sizeLine ∧ Q (.str (i ++ j)) H)))
theorem s2_add : Sim2 K (rAddAny K) addD := by
  intro F H M v w x y Q R k r1 r2 h c
  unfold addD at h
  cases e1 : view M x with
  | int i =>
    cases e2 : view M y with
    | int j =>
      rw [e1, e2] at h
      have q1 := k.view r1; rw [e1] at q1; cases q1
      have q2 := k.view r2; rw [e2] at q2; cases q2
      exact .inl ⟨i, j, rfl, rfl, c _ F H M _ Go.refl k (.int _) h⟩
    | _ => rw [e1, e2] at h; exact h.elim
  | lst xs =>
    cases e2 : view M y with
    | lst ys =>
      rw [e1, e2] at h
      obtain ⟨a, vs, rfl, ha, ra⟩ := k.vlst r1 e1
      obtain ⟨b, ws, rfl, hb, rb⟩ := k.vlst r2 e2
      exact .inr (.inl ⟨a, b, vs, ws, rfl, rfl, ha, hb, by rw [ra.length, rb.length]; exact h.1, new_lst k (ra.append rb) h.2 c⟩)
    | _ => rw [e1, e2] at h; exact h.elim
  | tup xs =>
    cases e2 : view M y with
    | tup ys =>
      rw [e1, e2] at h
      obtain ⟨ex, a, vs, rfl, fa, ha, ra⟩ := k.vtup r1 e1
      obtain ⟨ey, b, ws, rfl, fb, hb, rb⟩ := k.vtup r2 e2
      refine .inr (.inr (.inl ⟨a, b, vs, ws, rfl, rfl, ha, hb, by rw [ra.length, rb.length]; exact h.1, fun e => ?_, fun _ e => ?_, fun _ _ => new_tup k (ra.append rb) h.2 c⟩))
      · subst e
        cases ra
        exact c _ F H M _ Go.refl k (.tup fb rb) h.2
      · subst e
        cases rb
        have h2 := h.2
        rw [List.append_nil] at h2
        exact c _ F H M _ Go.refl k (.tup fa ra) h2
    | _ => rw [e1, e2] at h; exact h.elim
  | str z =>
    cases e2 : view M y with
    | str z2 =>
      rw [e1, e2] at h
      have q1 := k.view r1; rw [e1] at q1; cases q1
      have q2 := k.view r2; rw [e2] at q2; cases q2
      exact .inr (.inr (.inr ⟨z, z2, rfl, rfl, h.1, c _ F H M _ Go.refl k (.str _) h.2⟩))
    | _ => rw [e1, e2] at h; exact h.elim
  | _ => rw [e1] at h; exact h.elim
theorem oop_add {X : Cx} : OpR X (binaryOp .Add) (rAddAny X.K) := op_add.or (op_cat.or (op_catA.or op_add_str))
def rMulAny : R2 := fun x y H Q => rI CMul (fun i j => .int (i * j)) x y H Q ∨ rRep x y H Q
theorem repL_rep {F : Hp} {vs : List V} {ds : List D} (r : RepL K F vs ds) : ∀ n : Nat, RepL K F (List.replicate n vs).flatten (List.replicate n ds).flatten
  | 0 => by rw [List.replicate_zero, List.replicate_zero]; exact .nil
  | n + 1 => by rw [List.replicate_succ, List.replicate_succ, List.flatten_cons, List.flatten_cons]; exact r.append (repL_rep r n)
theorem s2_mul : Sim2 K rMulAny mulD := by
  intro F H M v w x y Q R k r1 r2 h c
  unfold mulD at h
  cases e1 : view M x with
  | int i =>
    cases y with
    | int j =>
      rw [e1] at h
      have q1 := k.view r1; rw [e1] at q1; cases q1
      cases r2
      exact .inl ⟨i, j, rfl, rfl, h.1, c _ F H M _ Go.refl k (.int _) h.2⟩
    | _ => rw [e1] at h; exact h.elim
  | lst xs =>
    cases y with
    | int j =>
      rw [e1] at h
      obtain ⟨a, vs, rfl, ha, ra⟩ := k.vlst r1 e1
      cases r2
      exact .inr ⟨a, j, vs, rfl, rfl, ha, h.1, h.2.1, by rw [ra.length]; exact h.2.2.1, new_lst k (repL_rep ra _) h.2.2.2 c⟩
    | _ => rw [e1] at h; exact h.elim
  | _ => rw [e1] at h; exact h.elim
theorem oop_mul {X : Cx} : OpR X (binaryOp .Mult) rMulAny := op_mul.or op_rep
def rEqAny (K : PySem.W.Frag) : R2 := fun x y H Q => rEq x y H Q ∨ rEqD K x y H Q
def rNeAny (K : PySem.W.Frag) : R2 := fun x y H Q => rNe x y H Q ∨ rNeD K x y H Q
theorem sEq_some {F : Hp} {v w : V} {x y : D} {b : Bool} (r : Rep K F v x) (q : Rep K F w y) (h : sEq x y = some b) : scal v w = true ∧ decide (v = w) = b := by
  cases r <;> cases q <;> first
    | (cases h; refine ⟨rfl, ?_⟩; first | rfl | (rw [decide_eq_decide]; simp) | simp)
    | (cases h)
theorem s2_eq : Sim2 K (rEqAny K) eqD := by
  intro F H M v w x y Q R k r1 r2 h c
  unfold eqD at h
  cases e : sEq x y with
  | some b =>
    rw [e] at h
    obtain ⟨h1, h2⟩ := sEq_some r1 r2 e
    refine .inl ⟨h1, ?_⟩
    rw [h2]
    exact c _ F H M _ Go.refl k (.bl _) h
  | none =>
    rw [e] at h
    obtain ⟨p1, p2, s1, s2, h⟩ := h
    exact .inr ⟨_, _, (k.view r1).dp p1, (k.view r2).dp p2, s1, s2, c _ F H M _ Go.refl k (.bl _) h⟩
theorem s2_ne : Sim2 K (rNeAny K) neD := by
  intro F H M v w x y Q R k r1 r2 h c
  unfold neD at h
  cases e : sEq x y with
  | some b =>
    rw [e] at h
    obtain ⟨h1, h2⟩ := sEq_some r1 r2 e
    refine .inl ⟨h1, ?_⟩
    rw [h2]
    exact c _ F H M _ Go.refl k (.bl _) h
  | none =>
    rw [e] at h
    obtain ⟨p1, p2, s1, s2, h⟩ := h
    exact .inr ⟨_, _, (k.view r1).dp p1, (k.view r2).dp p2, s1, s2, c _ F H M _ Go.refl k (.bl _) h⟩
theorem oop_eq {X : Cx} (hu : X.A.units + 64 < cLine) : OpR X (compareOp .Eq) (rEqAny X.K) := op_eq.or (op_eqD hu)
theorem oop_ne {X : Cx} (hu : X.A.units + 64 < cLine) : OpR X (compareOp .NotEq) (rNeAny X.K) := op_ne.or (op_neD hu)
def rIsAny : R2 := fun x y H Q => (y = .non ∧ Q (.bl (decide (x = .non))) H) ∨ rIsB x y H Q
def rNotAny : R2 := fun x y H Q => (y = .non ∧ Q (.bl (!decide (x = .non))) H) ∨ rNotB x y H Q
theorem rep_non {F : Hp} {v : V} {x : D} (r : Rep K F v x) : decide (v = .non) = isNonD x := by cases r <;> rfl
theorem s2_is : Sim2 K rIsAny isD := by
  intro F H M v w x y Q R k r1 r2 h c
  cases y with
  | non => cases r2; exact .inl ⟨rfl, by rw [rep_non r1]; exact c _ F H M _ Go.refl k (.bl _) h⟩
  | bl b =>
    cases x with
    | bl a => cases r1; cases r2; exact .inr ⟨a, b, rfl, rfl, c _ F H M _ Go.refl k (.bl _) h⟩
    | _ => exact h.elim
  | _ => exact h.elim
theorem s2_not : Sim2 K rNotAny notD := by
  intro F H M v w x y Q R k r1 r2 h c
  cases y with
  | non => cases r2; exact .inl ⟨rfl, by rw [rep_non r1]; exact c _ F H M _ Go.refl k (.bl _) h⟩
  | bl b =>
    cases x with
    | bl a => cases r1; cases r2; exact .inr ⟨a, b, rfl, rfl, c _ F H M _ Go.refl k (.bl _) h⟩
    | _ => exact h.elim
  | _ => exact h.elim
theorem oop_is {X : Cx} : OpR X (compareOp .Is) rIsAny := op_isN.or op_isBl
theorem oop_not {X : Cx} : OpR X (compareOp .IsNot) rNotAny := op_notN.or op_notBl
theorem s2_in : Sim2 K (rIn K false) inD := by
  intro F H M v w x y Q R k r1 r2 h c
  unfold inD inSeq at h
  cases e : itemsD M y with
  | none => rw [e] at h; exact h.elim
  | some ds =>
    rw [e] at h
    obtain ⟨a, vs, rfl, hq, ra⟩ := k.items r2 e
    refine ⟨a, vs, rfl, hq, rep_flat r1 h.1, repL_flat ra h.2.1, ?_⟩
    show R (.bl (vs.any fun z => eqV z v)) H
    rw [repL_any r1 h.1 ra h.2.1]
    exact c _ F H M _ Go.refl k (.bl _) h.2.2
theorem s2_notIn : Sim2 K (rIn K true) notInD := by
  intro F H M v w x y Q R k r1 r2 h c
  unfold notInD inSeq at h
  cases e : itemsD M y with
  | none => rw [e] at h; exact h.elim
  | some ds =>
    rw [e] at h
    obtain ⟨a, vs, rfl, hq, ra⟩ := k.items r2 e
    refine ⟨a, vs, rfl, hq, rep_flat r1 h.1, repL_flat ra h.2.1, ?_⟩
    show R (.bl (!(vs.any fun z => eqV z v))) H
    rw [repL_any r1 h.1 ra h.2.1]
    exact c _ F H M _ Go.refl k (.bl _) h.2.2
def rIxAny (K : PySem.W.Frag) : R2 := fun x y H Q => rIxL K x y H Q ∨ rIxT K x y H Q
theorem s2_ix : Sim2 K (rIxAny K) ixD := by
  intro F H M v w x y Q R k r1 r2 h c
  unfold ixD at h
  cases y with
  | int i =>
    cases r2
    cases e : itemsD M x with
    | none => simp only [e] at h
    | some ds =>
      simp only [e] at h
      obtain ⟨d, e1, h⟩ := nth_of h
      obtain ⟨a, vs, rfl, hq, ra⟩ := k.items r1 e
      obtain ⟨z, e2, rz⟩ := ra.atI e1
      rcases hq with hq | hq
      · exact .inl ⟨a, vs, i, z, rfl, rfl, hq, e2, c _ F H M _ Go.refl k rz h⟩
      · exact .inr ⟨a, vs, i, z, rfl, rfl, hq, e2, c _ F H M _ Go.refl k rz h⟩
  | _ => exact h.elim
theorem oix {X : Cx} : IxR X (rIxAny X.K) := ix_list.or ix_tup
end

/-! ### arguments, displays, calls of built-ins -/
def dNil : TDA := fun _ M Q => Q [] M
def dCons (a : TD) (r : TDA) : TDA := fun Γ M Q => a Γ M fun x M1 => r Γ M1 fun xs M2 => Q (x :: xs) M2
def dTup (a : TDA) : TD := fun Γ M Q => a Γ M fun xs M1 => xs.length ≤ sizeLine ∧ Q (.tup xs) M1
def dLst (a : TDA) : TD := fun Γ M Q => a Γ M fun xs M1 => xs.length ≤ sizeLine ∧ Q (.lst xs) M1
/-- a list that may change -/
def dLstM (a : TDA) : TD := fun Γ M Q => a Γ M fun xs M1 => xs.length ≤ sizeLine ∧ ∀ p, M1 p = none → Q (.ref p) (mput M1 p (.lst xs))
def dCB (r : RCD) (a : TDA) : TD := fun Γ M Q => a Γ M fun xs M1 => r xs M1 Q
section
variable {K : PySem.W.Frag}
theorem sim_nil : SimA K tNil dNil := fun F H M σ Γ Q R k s h c => c [] F H M [] Go.refl k .nil h
theorem sim_cons {ta : TE} {da : TD} {tr : TA} {dr : TDA} (ha : SimE K ta da) (hr : SimA K tr dr) : SimA K (tCons ta tr) (dCons da dr) := fun F H M σ Γ Q R k s h c =>
  ha F H M σ Γ _ _ k s h fun v F1 H1 M1 x g1 k1 r1 h1 => hr F1 H1 M1 σ Γ _ _ k1 (s.mono g1.ext) h1 fun vs F2 H2 M2 xs g2 k2 r2 h2 =>
    c _ F2 H2 M2 _ (g1.trans g2) k2 (.cons (r1.mono g2.ext) r2) h2
theorem sim_tup {ta : TA} {da : TDA} (ha : SimA K ta da) : SimE K (tTup ta) (dTup da) := fun F H M σ Γ Q R k s h c =>
  ha F H M σ Γ _ _ k s h fun vs F1 H1 M1 xs g1 k1 r1 h1 => ⟨by rw [r1.length]; exact h1.1, new_tup k1 r1 h1.2 (c.go g1)⟩
theorem sim_lst {ta : TA} {da : TDA} (ha : SimA K ta da) : SimE K (tLst ta) (dLst da) := fun F H M σ Γ Q R k s h c =>
  ha F H M σ Γ _ _ k s h fun vs F1 H1 M1 xs g1 k1 r1 h1 => ⟨by rw [r1.length]; exact h1.1, new_lst k1 r1 h1.2 (c.go g1)⟩
theorem new_lstM {F H : Hp} {M : Mem} {vs : List V} {ds : List D} {Q : QD} {R : VK} (k : Ok K F H M) (r : RepL K F vs ds) (h : ∀ p, M p = none → Q (.ref p) (mput M p (.lst ds))) (c : CV K F H M Q R) : ∀ p, H p = none → R (.ref p) (upd H p (.lst vs)) := fun p hp =>
  c _ _ _ _ _ (k.goM hp _ (.lst ds)) (k.newM hp ⟨vs, upd_same, r⟩) (.ref p) (h p (k.free hp).2)
theorem sim_lstM {ta : TA} {da : TDA} (ha : SimA K ta da) : SimE K (tLst ta) (dLstM da) := fun F H M σ Γ Q R k s h c =>
  ha F H M σ Γ _ _ k s h fun vs F1 H1 M1 xs g1 k1 r1 h1 => ⟨by rw [r1.length]; exact h1.1, new_lstM k1 r1 h1.2 (c.go g1)⟩
theorem sim_cb {r : List V → Hp → VK → Prop} {dr : RCD} {ta : TA} {da : TDA} (hr : SimC K r dr) (ha : SimA K ta da) : SimE K (tCB r ta) (dCB dr da) := fun F H M σ Γ Q R k s h c =>
  ha F H M σ Γ _ _ k s h fun vs F1 H1 M1 xs g1 k1 r1 h1 => hr F1 H1 M1 vs xs Q R k1 r1 h1 (c.go g1)
variable {X : Cx} {e : Expr} {es : List Expr} {te : TE} {de : TD} {t : TA} {d : TDA} {pos p : Pos} {x : Str} {id T : String} {r : List V → Hp → VK → Prop} {dr : RCD}
theorem pda_nil : PDA X [] tNil dNil := ⟨pa_nil, sim_nil⟩
theorem pda_cons (ha : PD X e te de) (hr : PDA X es t d) (hs : starEach (e :: es) X.env = (false, eval e X.env) :: starEach es X.env := by rfl) : PDA X (e :: es) (tCons te t) (dCons de d) := ⟨pa_cons ha.pe hr.pe hs, sim_cons ha.sim hr.sim⟩
theorem pd_tup {x1} (h : PDA X es t d) : PD X (.Tuple es x1 pos) (tTup t) (dTup d) := ⟨pe_tup h.pe, sim_tup h.sim⟩
theorem pd_lst (h : PDA X es t d) : PD X (.List es pos) (tLst t) (dLst d) := ⟨pe_lst h.pe, sim_lst h.sim⟩
theorem pd_lstM (h : PDA X es t d) : PD X (.List es pos) (tLst t) (dLstM d) := ⟨pe_lst h.pe, sim_lstM h.sim⟩
theorem pd_callB (hc : CallR X (.builtin id) r) (hr : SimC X.K r dr) (hg : Gl X x) (hm : X.mg x = none) (hv : bootBuiltins x = some (.builtin id)) (ha : PDA X (e :: es) t d) (hn : x ≠ "__name__" := by decide) (hdb : (x == ("__debug__" : Str)) = false := by decide)
    (he : starEach (e :: es) X.env = (false, eval e X.env) :: starEach es X.env := by rfl) (hpl : (backTo pos (starEach es X.env)).any (·.1) = false := by rfl) : PD X (.Call (.Name x p) (e :: es) [] pos) (tCB r t) (dCB dr d) :=
  ⟨pe_callB hc hg hm hv ha.pe hn hdb he hpl, sim_cb hr ha.sim⟩
theorem pd_callTy (hc : CallR X (.type T) r) (hr : SimC X.K r dr) (hg : Gl X x) (hm : X.mg x = none) (hv : bootBuiltins x = some (.type T)) (ha : PDA X (e :: es) t d) (hn : x ≠ "__name__" := by decide) (hdb : (x == ("__debug__" : Str)) = false := by decide)
    (he : starEach (e :: es) X.env = (false, eval e X.env) :: starEach es X.env := by rfl) (hpl : (backTo pos (starEach es X.env)).any (·.1) = false := by rfl) : PD X (.Call (.Name x p) (e :: es) [] pos) (tCB r t) (dCB dr d) :=
  ⟨pe_callTy hc hg hm hv ha.pe hn hdb he hpl, sim_cb hr ha.sim⟩
end
def lenD : RCD := fun xs M Q => match xs with
  | [x] => (match view M x with
    | .lst ds => Q (.int (ds.length : Nat)) M
    | .tup ds => Q (.int (ds.length : Nat)) M
    | .scr ds => Q (.int (ds.length : Nat)) M
    | .str z => z.length ≤ sizeLine ∧ Q (.int (z.length : Nat)) M
    | _ => False)
  | _ => False
def absD : RCD := fun xs M Q => match xs with
  | [.int i] => Q (.int (if i < 0 then -i else i)) M
  | _ => False
def max2D : RCD := fun xs M Q => match xs with
  | [.int i, .int j] => Q (.int (if j > i then j else i)) M
  | _ => False
def min2D : RCD := fun xs M Q => match xs with
  | [.int i, .int j] => Q (.int (if j < i then j else i)) M
  | _ => False
def intD : RCD := fun xs M Q => match xs with
  | [.int i] => Q (.int i) M
  | [.bl k] => Q (.int (if k then 1 else 0)) M
  | _ => False
/-- min, max, sum of a list of numbers; any, all of one of truth values -/
def minLD : RCD := fun xs M Q => match xs with
  | [x] => ∃ ns : List Int, view M x = .lst (ns.map D.int) ∧ 0 < ns.length ∧ ∀ m, m ∈ ns → (∀ y, y ∈ ns → m ≤ y) → Q (.int m) M
  | _ => False
def maxLD : RCD := fun xs M Q => match xs with
  | [x] => ∃ ns : List Int, view M x = .lst (ns.map D.int) ∧ 0 < ns.length ∧ ∀ m, m ∈ ns → (∀ y, y ∈ ns → y ≤ m) → Q (.int m) M
  | _ => False
def sumLD : RCD := fun xs M Q => match xs with
  | [x] => ∃ ns : List Int, view M x = .lst (ns.map D.int) ∧ Q (.int ns.sum) M
  | _ => False
def allLD : RCD := fun xs M Q => match xs with
  | [x] => ∃ bs : List Bool, view M x = .lst (bs.map D.bl) ∧ Q (.bl (bs.all id)) M
  | _ => False
def anyLD : RCD := fun xs M Q => match xs with
  | [x] => ∃ bs : List Bool, view M x = .lst (bs.map D.bl) ∧ Q (.bl (bs.any id)) M
  | _ => False
def tupleD : RCD := fun xs M Q => match xs with
  | [x] => (match itemsD M x with | some ds => Q (.tup ds) M | none => False)
  | _ => False
def listD : RCD := fun xs M Q => match xs with
  | [x] => (match itemsD M x with | some ds => Q (.lst ds) M | none => False)
  | _ => False
def listMD : RCD := fun xs M Q => match xs with
  | [x] => (match itemsD M x with | some ds => ∀ p, M p = none → Q (.ref p) (mput M p (.lst ds)) | none => False)
  | _ => False
section
variable {K : PySem.W.Frag}
theorem repL1 {F : Hp} {vs : List V} {x : D} (r : RepL K F vs [x]) : ∃ v, vs = [v] ∧ Rep K F v x := by
  cases r with
  | cons r t => cases t; exact ⟨_, rfl, r⟩
theorem repL2 {F : Hp} {vs : List V} {x y : D} (r : RepL K F vs [x, y]) : ∃ v w, vs = [v, w] ∧ Rep K F v x ∧ Rep K F w y := by
  cases r with
  | cons r t =>
    obtain ⟨w, rfl, q⟩ := repL1 t
    exact ⟨_, w, rfl, r, q⟩
theorem sc_len : SimC K (fun xs H Q => ∃ x n, xs = [x] ∧ LenV K x H n ∧ Q (.int n) H) lenD := by
  intro F H M vs xs Q R k r h c
  match xs, r, h with
  | [], _, h => exact h.elim
  | [x], r, h =>
    obtain ⟨v, rfl, q1⟩ := repL1 r
    unfold lenD at h
    cases e : view M x with
    | lst ds =>
      simp only [e] at h
      obtain ⟨a, vs, rfl, ha, ra⟩ := k.vlst q1 e
      exact ⟨_, ds.length, rfl, .inl ⟨vs, SqL.of ha, ra.length.symm⟩, c _ F H M _ Go.refl k (.int _) h⟩
    | tup ds =>
      simp only [e] at h
      obtain ⟨_, a, vs, rfl, _, ha, ra⟩ := k.vtup q1 e
      exact ⟨_, ds.length, rfl, .inr ⟨vs, ha, ra.length.symm⟩, c _ F H M _ Go.refl k (.int _) h⟩
    | scr ds =>
      simp only [e] at h
      obtain ⟨a, vs, rfl, ha, ra⟩ := k.vscr q1 e
      exact ⟨_, ds.length, rfl, .inl ⟨vs, ha, ra.length.symm⟩, c _ F H M _ Go.refl k (.int _) h⟩
    | str z =>
      simp only [e] at h
      cases k.vstr q1 e
      exact ⟨_, z.length, rfl, ⟨h.1, rfl⟩, c _ F H M _ Go.refl k (.int _) h.2⟩
    | _ => simp only [e] at h
  | _ :: _ :: _, _, h => exact h.elim
theorem sc_abs : SimC K (fun xs H Q => ∃ i, xs = [.int i] ∧ Q (.int (if i < 0 then -i else i)) H) absD := by
  intro F H M vs xs Q R k r h c
  match xs, r, h with
  | [], _, h => exact h.elim
  | [x], r, h =>
    obtain ⟨v, rfl, q1⟩ := repL1 r
    cases x with
    | int i => cases q1; exact ⟨i, rfl, c _ F H M _ Go.refl k (.int _) h⟩
    | _ => exact h.elim
  | x :: _ :: _, _, h => cases x <;> exact h.elim
theorem sc_max2 : SimC K (fun xs H Q => ∃ i j, xs = [.int i, .int j] ∧ Q (.int (if j > i then j else i)) H) max2D := by
  intro F H M vs xs Q R k r h c
  match xs, r, h with
  | [], _, h => exact h.elim
  | [x], _, h => cases x <;> exact h.elim
  | [x, y], r, h =>
    obtain ⟨v, w, rfl, r1, r2⟩ := repL2 r
    cases x with
    | int i =>
      cases y with
      | int j => cases r1; cases r2; exact ⟨i, j, rfl, c _ F H M _ Go.refl k (.int _) h⟩
      | _ => exact h.elim
    | _ => exact h.elim
  | x :: y :: _ :: _, _, h => cases x <;> first | exact h.elim | (cases y <;> exact h.elim)
theorem sc_min2 : SimC K (fun xs H Q => ∃ i j, xs = [.int i, .int j] ∧ Q (.int (if j < i then j else i)) H) min2D := by
  intro F H M vs xs Q R k r h c
  match xs, r, h with
  | [], _, h => exact h.elim
  | [x], _, h => cases x <;> exact h.elim
  | [x, y], r, h =>
    obtain ⟨v, w, rfl, r1, r2⟩ := repL2 r
    cases x with
    | int i =>
      cases y with
      | int j => cases r1; cases r2; exact ⟨i, j, rfl, c _ F H M _ Go.refl k (.int _) h⟩
      | _ => exact h.elim
    | _ => exact h.elim
  | x :: y :: _ :: _, _, h => cases x <;> first | exact h.elim | (cases y <;> exact h.elim)
theorem sc_int : SimC K (fun xs H Q => (∃ i, xs = [.int i] ∧ Q (.int i) H) ∨ ∃ k, xs = [.bl k] ∧ Q (.int (if k then 1 else 0)) H) intD := by
  intro F H M vs xs Q R k r h c
  match xs, r, h with
  | [], _, h => exact h.elim
  | [x], r, h =>
    obtain ⟨v, rfl, q1⟩ := repL1 r
    cases x with
    | int i => cases q1; exact .inl ⟨i, rfl, c _ F H M _ Go.refl k (.int _) h⟩
    | bl b => cases q1; exact .inr ⟨b, rfl, c _ F H M _ Go.refl k (.int _) h⟩
    | _ => exact h.elim
  | x :: _ :: _, _, h => cases x <;> exact h.elim
theorem sc_minL : SimC K (rMin K) minLD := by
  intro F H M vs xs Q R k r h c
  match xs, r, h with
  | [], _, h => exact h.elim
  | [x], r, h =>
    obtain ⟨v, rfl, q1⟩ := repL1 r
    obtain ⟨ns, e, h0, h⟩ := h
    obtain ⟨a, vs, rfl, ha, ra⟩ := k.vlst q1 e
    cases ra.ints
    exact ⟨a, ns, rfl, SqL.of ha, h0, fun m h1 h2 => c _ F H M _ Go.refl k (.int _) (h m h1 h2)⟩
  | _ :: _ :: _, _, h => exact h.elim
theorem sc_maxL : SimC K (rMax K) maxLD := by
  intro F H M vs xs Q R k r h c
  match xs, r, h with
  | [], _, h => exact h.elim
  | [x], r, h =>
    obtain ⟨v, rfl, q1⟩ := repL1 r
    obtain ⟨ns, e, h0, h⟩ := h
    obtain ⟨a, vs, rfl, ha, ra⟩ := k.vlst q1 e
    cases ra.ints
    exact ⟨a, ns, rfl, SqL.of ha, h0, fun m h1 h2 => c _ F H M _ Go.refl k (.int _) (h m h1 h2)⟩
  | _ :: _ :: _, _, h => exact h.elim
theorem sc_sumL : SimC K (rSum K) sumLD := by
  intro F H M vs xs Q R k r h c
  match xs, r, h with
  | [], _, h => exact h.elim
  | [x], r, h =>
    obtain ⟨v, rfl, q1⟩ := repL1 r
    obtain ⟨ns, e, h⟩ := h
    obtain ⟨a, vs, rfl, ha, ra⟩ := k.vlst q1 e
    cases ra.ints
    exact ⟨a, ns, rfl, SqL.of ha, c _ F H M _ Go.refl k (.int _) h⟩
  | _ :: _ :: _, _, h => exact h.elim
theorem sc_allL : SimC K (rAll K) allLD := by
  intro F H M vs xs Q R k r h c
  match xs, r, h with
  | [], _, h => exact h.elim
  | [x], r, h =>
    obtain ⟨v, rfl, q1⟩ := repL1 r
    obtain ⟨ns, e, h⟩ := h
    obtain ⟨a, vs, rfl, ha, ra⟩ := k.vlst q1 e
    cases ra.bools
    exact ⟨a, ns, rfl, SqL.of ha, c _ F H M _ Go.refl k (.bl _) h⟩
  | _ :: _ :: _, _, h => exact h.elim
theorem sc_anyL : SimC K (rAny K) anyLD := by
  intro F H M vs xs Q R k r h c
  match xs, r, h with
  | [], _, h => exact h.elim
  | [x], r, h =>
    obtain ⟨v, rfl, q1⟩ := repL1 r
    obtain ⟨ns, e, h⟩ := h
    obtain ⟨a, vs, rfl, ha, ra⟩ := k.vlst q1 e
    cases ra.bools
    exact ⟨a, ns, rfl, SqL.of ha, c _ F H M _ Go.refl k (.bl _) h⟩
  | _ :: _ :: _, _, h => exact h.elim
theorem sc_tuple : SimC K (fun xs H Q => ∃ p ys, xs = [.ref p] ∧ ((SqL K H p ys ∧ ∀ l, H l = none → Q (.ref l) (upd H l (.tup ys))) ∨ (SqT K H p ys ∧ Q (.ref p) H))) tupleD := by
  intro F H M vs xs Q R k r h c
  match xs, r, h with
  | [], _, h => exact h.elim
  | [x], r, h =>
    obtain ⟨v, rfl, q1⟩ := repL1 r
    unfold tupleD at h
    cases e : itemsD M x with
    | none => simp only [e] at h
    | some ds =>
      simp only [e] at h
      unfold itemsD at e
      cases q : view M x with
      | lst xs => rw [q] at e; cases e; obtain ⟨a, vs, rfl, h2, h3⟩ := k.vlst q1 q; exact ⟨a, vs, rfl, .inl ⟨SqL.of h2, new_tup k h3 h c⟩⟩
      | tup xs => rw [q] at e; cases e; obtain ⟨_, a, vs, rfl, h1, h2, h3⟩ := k.vtup q1 q; exact ⟨a, vs, rfl, .inr ⟨h2, c _ F H M _ Go.refl k (.tup h1 h3) h⟩⟩
      | scr xs => rw [q] at e; cases e; obtain ⟨a, vs, rfl, h2, h3⟩ := k.vscr q1 q; exact ⟨a, vs, rfl, .inl ⟨h2, new_tup k h3 h c⟩⟩
      | _ => rw [q] at e; cases e
  | _ :: _ :: _, _, h => exact h.elim
theorem sc_list : SimC K (fun xs H Q => ∃ p ys, xs = [.ref p] ∧ (SqL K H p ys ∨ SqT K H p ys) ∧ ∀ l, H l = none → Q (.ref l) (upd H l (.lst ys))) listD := by
  intro F H M vs xs Q R k r h c
  match xs, r, h with
  | [], _, h => exact h.elim
  | [x], r, h =>
    obtain ⟨v, rfl, q1⟩ := repL1 r
    unfold listD at h
    cases e : itemsD M x with
    | none => simp only [e] at h
    | some ds =>
      simp only [e] at h
      obtain ⟨a, vs, rfl, hq, ra⟩ := k.items q1 e
      exact ⟨a, vs, rfl, hq, new_lst k ra h c⟩
  | _ :: _ :: _, _, h => exact h.elim
theorem sc_listM : SimC K (fun xs H Q => ∃ p ys, xs = [.ref p] ∧ (SqL K H p ys ∨ SqT K H p ys) ∧ ∀ l, H l = none → Q (.ref l) (upd H l (.lst ys))) listMD := by
  intro F H M vs xs Q R k r h c
  match xs, r, h with
  | [], _, h => exact h.elim
  | [x], r, h =>
    obtain ⟨v, rfl, q1⟩ := repL1 r
    unfold listMD at h
    cases e : itemsD M x with
    | none => simp only [e] at h
    | some ds =>
      simp only [e] at h
      obtain ⟨a, vs, rfl, hq, ra⟩ := k.items q1 e
      exact ⟨a, vs, rfl, hq, new_lstM k ra h c⟩
  | _ :: _ :: _, _, h => exact h.elim
end
end DL

set_option Elab.async false
set_option linter.all false
set_option maxRecDepth 100000
set_option maxHeartbeats 4000000
namespace DL
open PySem PySem.Spec PyProof.Rows L2

/-! ### slices -/
def cutD (xs : List D) (lo hi : Option Int) : List D := (xs.drop (HT.sIx xs.length 0 lo)).take (HT.sIx xs.length xs.length hi - HT.sIx xs.length 0 lo)
def dNoPart : TDO := fun _ M Q => Q none M
def dPart (t : TD) : TDO := fun Γ M Q => t Γ M fun x M1 => match x with | .int i => Q (some i) M1 | _ => False
def slD (x : D) (lo hi : Option Int) (M : Mem) (Q : QD) : Prop := match view M x with
  | .lst xs => Q (.lst (cutD xs lo hi)) M
  | .scr xs => Q (.lst (cutD xs lo hi)) M
  | .tup xs => Q (.tup (cutD xs lo hi)) M
  | _ => False
def dSl (a : TD) (l h : TDO) : TD := fun Γ M Q => a Γ M fun x M1 => l Γ M1 fun lo M2 => h Γ M2 fun hi M3 => slD x lo hi M3 Q
def revD (x : D) (M : Mem) (Q : QD) : Prop := match view M x with
  | .lst xs => Q (.lst xs.reverse) M
  | .scr xs => Q (.lst xs.reverse) M
  | _ => False
def revMD (x : D) (M : Mem) (Q : QD) : Prop := match view M x with
  | .lst xs => ∀ p, M p = none → Q (.ref p) (mput M p (.lst xs.reverse))
  | .scr xs => ∀ p, M p = none → Q (.ref p) (mput M p (.lst xs.reverse))
  | _ => False
def dRev (a : TD) : TD := fun Γ M Q => a Γ M fun x M1 => revD x M1 Q
def dRevM (a : TD) : TD := fun Γ M Q => a Γ M fun x M1 => revMD x M1 Q
section
variable {K : PySem.W.Frag} {X : Cx}
theorem RepL.cut {F : Hp} {vs : List V} {ds : List D} (r : RepL K F vs ds) (lo hi : Option Int) : RepL K F (cutV vs lo hi) (cutD ds lo hi) := by
  unfold cutV cutD
  rw [r.length]
  exact (r.drop _).take _
theorem sim_noPart : SimO K tNoPart dNoPart := fun F H M σ Γ Q R k s h c => c none F H M Go.refl k h
theorem sim_part {te : TE} {de : TD} (he : SimE K te de) : SimO K (tPart te) (dPart de) := fun F H M σ Γ Q R k s h c =>
  he F H M σ Γ _ _ k s h fun v F1 H1 M1 x g1 k1 r1 h1 => by
    cases x with
    | int i => cases r1; exact ⟨i, rfl, c _ F1 H1 M1 g1 k1 h1⟩
    | _ => exact h1.elim
def rSlAny (K : PySem.W.Frag) : V → Option Int → Option Int → Hp → VK → Prop := fun x lo hi H Q => rSlL K x lo hi H Q ∨ rSlA K x lo hi H Q
theorem cutD_whole {xs : List D} {lo hi : Option Int} (h : HT.sIx xs.length 0 lo = 0 ∧ HT.sIx xs.length xs.length hi = xs.length) : cutD xs lo hi = xs := by
  unfold cutD
  rw [h.1, h.2, List.drop_zero, Nat.sub_zero, List.take_length]
theorem sim_sl {te : TE} {de : TD} {tl th : TO} {dl dh : TDO} (he : SimE K te de) (hl : SimO K tl dl) (hh : SimO K th dh) : SimE K (tSl (rSlAny K) te tl th) (dSl de dl dh) := fun F H M σ Γ Q R k s h c =>
  he F H M σ Γ _ _ k s h fun v F1 H1 M1 x g1 k1 r1 h1 => hl F1 H1 M1 σ Γ _ _ k1 (s.mono g1.ext) h1 fun lo F2 H2 M2 g2 k2 h2 => hh F2 H2 M2 σ Γ _ _ k2 (s.mono (g1.trans g2).ext) h2 fun hi F3 H3 M3 g3 k3 h3 => by
    have r3 := r1.mono (g2.trans g3).ext
    have c3 := c.go ((g1.trans g2).trans g3)
    unfold slD at h3
    cases e : view M3 x with
    | lst xs =>
      rw [e] at h3
      obtain ⟨a, vs, rfl, ha, ra⟩ := k3.vlst r3 e
      exact .inl ⟨a, vs, rfl, SqL.of ha, new_lst k3 (ra.cut lo hi) h3 c3⟩
    | scr xs =>
      rw [e] at h3
      obtain ⟨a, vs, rfl, ha, ra⟩ := k3.vscr r3 e
      exact .inl ⟨a, vs, rfl, ha, new_lst k3 (ra.cut lo hi) h3 c3⟩
    | tup xs =>
      rw [e] at h3
      obtain ⟨_, a, vs, rfl, fa, ha, ra⟩ := k3.vtup r3 e
      refine .inr ⟨a, vs, rfl, ha, fun hw => ?_, fun _ => new_tup k3 (ra.cut lo hi) h3 c3⟩
      rw [ra.length] at hw
      have h4 : Q (.tup (cutD xs lo hi)) M3 := h3
      rw [cutD_whole hw] at h4
      exact c3 _ F3 H3 M3 _ Go.refl k3 (.tup fa ra) h4
    | _ => rw [e] at h3; exact h3.elim
theorem osl : SlR X (rSlAny X.K) := sl_list.or sl_tupA
theorem sim_rev {te : TE} {de : TD} (he : SimE K te de) : SimE K (tRevL K te) (dRev de) := fun F H M σ Γ Q R k s h c =>
  he F H M σ Γ _ _ k s h fun v F1 H1 M1 x g1 k1 r1 h1 => by
    unfold revD at h1
    cases e : view M1 x with
    | lst xs =>
      rw [e] at h1
      obtain ⟨a, vs, rfl, ha, ra⟩ := k1.vlst r1 e
      exact ⟨a, vs, rfl, SqL.of ha, new_lst k1 ra.rev h1 (c.go g1)⟩
    | scr xs =>
      rw [e] at h1
      obtain ⟨a, vs, rfl, ha, ra⟩ := k1.vscr r1 e
      exact ⟨a, vs, rfl, ha, new_lst k1 ra.rev h1 (c.go g1)⟩
    | _ => rw [e] at h1; exact h1.elim
theorem sim_revM {te : TE} {de : TD} (he : SimE K te de) : SimE K (tRevL K te) (dRevM de) := fun F H M σ Γ Q R k s h c =>
  he F H M σ Γ _ _ k s h fun v F1 H1 M1 x g1 k1 r1 h1 => by
    unfold revMD at h1
    cases e : view M1 x with
    | lst xs =>
      rw [e] at h1
      obtain ⟨a, vs, rfl, ha, ra⟩ := k1.vlst r1 e
      exact ⟨a, vs, rfl, SqL.of ha, new_lstM k1 ra.rev h1 (c.go g1)⟩
    | scr xs =>
      rw [e] at h1
      obtain ⟨a, vs, rfl, ha, ra⟩ := k1.vscr r1 e
      exact ⟨a, vs, rfl, ha, new_lstM k1 ra.rev h1 (c.go g1)⟩
    | _ => rw [e] at h1; exact h1.elim
variable {e : Expr} {te : TE} {de : TD} {lo hi : Option Expr} {tl th : TO} {dl dh : TDO} {pos p2 p1 p3 : Pos} {n : Nat}
theorem pdo_none : PDO X none tNoPart dNoPart := ⟨po_none, sim_noPart⟩
theorem pdo_some (h : PD X e te de) : PDO X (some e) (tPart te) (dPart de) := ⟨po_some h.pe, sim_part h.sim⟩
theorem pd_slice (he : PD X e te de) (hl : PDO X lo tl dl) (hh : PDO X hi th dh) : PD X (.Subscript e (.Slice lo hi none p2) pos) (tSl (rSlAny X.K) te tl th) (dSl de dl dh) := ⟨pe_slice osl he.pe hl.pe hh.pe, sim_sl he.sim hl.sim hh.sim⟩
theorem pd_rev (he : PD X e te de) : PD X (.Subscript e (.Slice none none (some (.UnaryOp .USub (.Constant (.int 1) n p1) p2)) p3) pos) (tRevL X.K te) (dRev de) := ⟨pe_revL he.pe, sim_rev he.sim⟩
theorem pd_revM (he : PD X e te de) : PD X (.Subscript e (.Slice none none (some (.UnaryOp .USub (.Constant (.int 1) n p1) p2)) p3) pos) (tRevL X.K te) (dRevM de) := ⟨pe_revL he.pe, sim_revM he.sim⟩
end

/-! ### attributes -/
/-- the i-th of them -/
def nthN (xs : List D) (i : Nat) (k : D → Prop) : Prop := match xs[i]? with
  | some d => k d
  | none => False
theorem nthN_of {xs : List D} {i : Nat} {k : D → Prop} (h : nthN xs i k) : ∃ d, xs[i]? = some d ∧ k d := by
  unfold nthN at h
  cases e : xs[i]? with
  | none => rw [e] at h; exact h.elim
  | some d => rw [e] at h; exact ⟨d, rfl, h⟩
def fldsD (M : Mem) (x : D) : Option (Addr × List Str × List D) := match x with
  | .obj C ns ds => some (C, ns, ds)
  | .ref a => (match M a with
    | some (.ins C ns ds) => some (C, ns, ds)
    | _ => none)
  | _ => none
/-- e.f, the i-th attribute of the class at C -/
def dFld (C : Addr) (ns : List Str) (i : Nat) (a : TD) : TD := fun Γ M Q => a Γ M fun x M1 => match fldsD M1 x with
  | some (C', ns', ds) => C' = C ∧ ns' = ns ∧ nthN ds i fun d => Q d M1
  | none => False
section
variable {K : PySem.W.Frag} {X : Cx}
theorem flds_of {F H : Hp} {M : Mem} (k : Ok K F H M) {v : V} {x : D} (r : Rep K F v x) {C : Addr} {ns : List Str} {ds : List D} (e : fldsD M x = some (C, ns, ds)) :
    ∃ a dx fs, v = .ref a ∧ H a = some (.ins C dx fs) ∧ fs.map (·.1) = ns ∧ RepL K F (fs.map (·.2)) ds := by
  cases x with
  | obj C' ns' ds' =>
    cases e
    cases r with
    | obj h1 h2 h3 => exact ⟨_, _, _, rfl, k.sub _ _ h1, h2, h3⟩
  | ref a =>
    cases r
    unfold fldsD at e
    cases q : M a with
    | none => simp only [q] at e; cases e
    | some o =>
      simp only [q] at e
      cases o with
      | ins C' ns' ds' =>
        cases e
        obtain ⟨_, dx, fs, h1, h2, h3⟩ := k.mem a _ q
        exact ⟨a, dx, fs, rfl, h1, h2, h3⟩
      | _ => cases e
  | _ => cases e
theorem lookup_ix {α : Type} : ∀ {fs : List (Str × α)} {i : Nat} {f : Str} {v : α}, (fs.map (·.1)).idxOf? f = some i → (fs.map (·.2))[i]? = some v → fs.lookup f = some v
  | [], _, _, _, h, _ => by simp [List.idxOf?] at h
  | (g, x) :: fs, i, f, v, h, hv => by
    rw [List.map_cons, List.idxOf?_cons] at h
    rw [List.lookup_cons]
    by_cases e : g = f
    · have e1 : (g == f) = true := beq_iff_eq.mpr e
      have e2 : (f == g) = true := beq_iff_eq.mpr e.symm
      simp only [e1, if_true] at h
      cases h
      rw [e2]
      simpa using hv
    · have e1 : (g == f) = false := beq_eq_false_iff_ne.mpr e
      have e2 : (f == g) = false := beq_eq_false_iff_ne.mpr (fun q => e q.symm)
      simp only [e1, Bool.false_eq_true, if_false] at h
      rw [e2]
      cases q : (fs.map (·.1)).idxOf? f with
      | none => rw [q] at h; cases h
      | some j =>
        rw [q] at h
        cases h
        exact lookup_ix q (by simpa using hv)
theorem sim_fld {C : Addr} {ns : List Str} {i : Nat} {f : Str} {ta : TE} {da : TD} (cl : Cls K C) (na : NoAttr K C f) (hi : ns.idxOf? f = some i) (ha : SimE K ta da) : SimE K (tFld K ta f) (dFld C ns i da) := fun F H M σ Γ Q R k s h c =>
  ha F H M σ Γ _ _ k s h fun v F1 H1 M1 x g1 k1 r1 h1 => by
    cases e : fldsD M1 x with
    | none => simp only [e] at h1
    | some z =>
      obtain ⟨C', ns', ds⟩ := z
      simp only [e] at h1
      obtain ⟨rfl, rfl, h1⟩ := h1
      obtain ⟨d, e1, h1⟩ := nthN_of h1
      obtain ⟨a, dx, fs, rfl, e2, e3, rf⟩ := flds_of k1 r1 e
      obtain ⟨w, e4, rw'⟩ := rf.get e1
      exact ⟨a, C', dx, fs, w, rfl, e2, cl, na, lookup_ix (by rw [e3]; exact hi) e4, c _ F1 H1 M1 _ g1 k1 rw' h1⟩
theorem pd_fld {C : Addr} {ns : List Str} {i : Nat} {f : Str} {e : Expr} {ta : TE} {da : TD} {pos : Pos} (cl : Cls X.K C) (na : NoAttr X.K C f) (hi : ns.idxOf? f = some i) (ha : PD X e ta da) (hb : attributeBase e f X.env (eval e X.env) = eval e X.env := by rfl) :
    PD X (.Attribute e f pos) (tFld X.K ta f) (dFld C ns i da) := ⟨pe_fld ha.pe hb, sim_fld cl na hi ha.sim⟩
end

/-! ### statements -/
def dNext : TDS := fun E Γ M => E.nx Γ M
def dSeq (t u : TDS) : TDS := fun E Γ M => t { E with nx := u E } Γ M
def dBreak : TDS := fun E Γ M => E.bk Γ M
def dCont : TDS := fun E Γ M => E.ct Γ M
def dDrop (a : TD) : TDS := fun E Γ M => a Γ M fun _ M1 => E.nx Γ M1
def dRet (a : TD) : TDS := fun E Γ M => a Γ M E.rt
def dRetN : TDS := fun E _ M => E.rt .non M
def dIfS (t : TDT) (u w : TDS) : TDS := fun E Γ M => t Γ M fun b M1 => if b = true then u E Γ M1 else w E Γ M1
def dNever : TDS := fun _ _ _ => False
def dgName (i : Nat) : TDG := fun d Γ M Q => Q (Γ.set i (some d)) M
def dgNil : TDGs := fun xs Γ M Q => xs = [] ∧ Q Γ M
def dgCons (g : TDG) (u : TDGs) : TDGs := fun xs Γ M Q => match xs with
  | [] => False
  | x :: r => g x Γ M fun Γ1 M1 => u r Γ1 M1 Q
def dgTup (n : Nat) (u : TDGs) : TDG := fun x Γ M Q => match x with
  | .tup xs => xs.length = n ∧ u xs Γ M Q
  | _ => False
def dAsg (a : TD) (g : TDG) : TDS := fun E Γ M => a Γ M fun x M1 => g x Γ M1 E.nx
/-- names = values, side by side -/
def setMany : List Nat → List D → DE → DE
  | i :: is, d :: ds, Γ => setMany is ds (Γ.set i (some d))
  | _, _, Γ => Γ
def dPar (is : List Nat) (a : TDA) : TDS := fun E Γ M => a Γ M fun xs M1 => xs.length = is.length ∧ E.nx (setMany is xs Γ) M1
def dAug (i : Nat) (r : R2D) (a : TD) : TDS := fun E Γ M => look Γ i fun x => a Γ M fun y M1 => r x y M1 fun z M2 => E.nx (Γ.set i (some z)) M2
section
variable {K : PySem.W.Frag} {X : Cx} {st : Stmt} {rest : List Stmt} {t u : TS} {dt du : TDS} {e : Expr} {te : TE} {de : TD} {pos : Pos}
theorem sim_next : SimS K tNext dNext := fun F H M σ Γ E D k s h n r b c => n σ F H M Γ Go.refl k s h
theorem sim_seq (ht : SimS K t dt) (hu : SimS K u du) : SimS K (tSeq t u) (dSeq dt du) := fun F H M σ Γ E D k s h n r b c =>
  ht F H M σ Γ { E with nx := du E } { D with nx := u D } k s h (fun σ1 F1 H1 M1 Γ1 g1 k1 s1 h1 => hu F1 H1 M1 σ1 Γ1 E D k1 s1 h1 (n.go g1) (r.go g1) (b.go g1) (c.go g1)) r b c
theorem pdss_nil : PDSs X [] tNext dNext := ⟨pss_nil, sim_next⟩
theorem pdss_cons (h1 : PDS X st t dt) (h2 : PDSs X rest u du) : PDSs X (st :: rest) (tSeq t u) (dSeq dt du) := ⟨pss_cons h1.pe h2.pe, sim_seq h1.sim h2.sim⟩
theorem pdss_one (h1 : PDS X st t dt) : PDSs X [st] t dt := ⟨pss_one h1.pe, h1.sim⟩
theorem pds_pass : PDS X (.Pass pos) tNext dNext := ⟨ps_pass, sim_next⟩
theorem pds_break : PDS X (.Break pos) tBreak dBreak := ⟨ps_break, fun F H M σ Γ E D k s h n r b c => b σ F H M Γ Go.refl k s h⟩
theorem pds_continue : PDS X (.Continue pos) tCont dCont := ⟨ps_continue, fun F H M σ Γ E D k s h n r b c => c σ F H M Γ Go.refl k s h⟩
theorem sim_drop (he : SimE K te de) : SimS K (tDrop te) (dDrop de) := fun F H M σ Γ E D k s h n r b c =>
  he F H M σ Γ _ _ k s h fun v F1 H1 M1 x g1 k1 r1 h1 => n σ F1 H1 M1 Γ g1 k1 (s.mono g1.ext) h1
theorem sim_ret (he : SimE K te de) : SimS K (tRet te) (dRet de) := fun F H M σ Γ E D k s h n r b c => he F H M σ Γ _ _ k s h r
theorem sim_ifS {tc : TT} {dc : TDT} (hc : SimT K tc dc) (ht : SimS K t dt) (hu : SimS K u du) : SimS K (tIfS tc t u) (dIfS dc dt du) := fun F H M σ Γ E D k s h n r b c =>
  hc F H M σ Γ _ _ k s h fun z F1 H1 M1 g1 k1 h1 => by
    cases z with
    | true => rw [if_pos rfl] at h1 ⊢; exact ht F1 H1 M1 σ Γ E D k1 (s.mono g1.ext) h1 (n.go g1) (r.go g1) (b.go g1) (c.go g1)
    | false => rw [if_neg Bool.false_ne_true] at h1 ⊢; exact hu F1 H1 M1 σ Γ E D k1 (s.mono g1.ext) h1 (n.go g1) (r.go g1) (b.go g1) (c.go g1)
theorem pds_expr (he : PD X e te de) (hs : swapsWith e none pos.line X.env = pure false := by rfl) : PDS X (.Expr e pos) (tDrop te) (dDrop de) := ⟨ps_expr he.pe hs, sim_drop he.sim⟩
theorem pds_ret (he : PD X e te de) : PDS X (.Return (some e) pos) (tRet te) (dRet de) := ⟨ps_ret he.pe, sim_ret he.sim⟩
theorem pds_retN : PDS X (.Return none pos) tRetN dRetN := ⟨ps_retN, fun F H M σ Γ E D k s h n r b c => r _ F H M _ Go.refl k .non h⟩
theorem pds_if {c : Expr} {a b : List Stmt} {tc : TT} {dc : TDT} (hc : PDT X c tc dc) (ha : PDSs X a t dt) (hb : PDSs X b u du) : PDS X (.If c a b pos) (tIfS tc t u) (dIfS dc dt du) := ⟨ps_if hc.pe ha.pe hb.pe, sim_ifS hc.sim ha.sim hb.sim⟩
theorem pds_never : PDS X st tNever dNever := ⟨ps_never, fun F H M σ Γ E D k s h n r b c => h.elim⟩
theorem pdss_never {sts : List Stmt} : PDSs X sts tNever dNever := ⟨pss_never, fun F H M σ Γ E D k s h n r b c => h.elim⟩
theorem sim_gName {i : Nat} : SimG K (gName i) (dgName i) := fun F H M v x σ Γ Q R k s r h c => c _ F H M _ Go.refl k (s.set i r) h
theorem pdg_name {i : Nat} {x : Str} (p : PG X (.Name x pos) (gName i)) : PDG X (.Name x pos) (gName i) (dgName i) := ⟨p, sim_gName⟩
theorem sim_gNil : SimGs K gNil dgNil := fun F H M vs xs σ Γ Q R k s r h c => by
  obtain ⟨rfl, h⟩ := h
  cases r
  exact ⟨rfl, c _ F H M _ Go.refl k s h⟩
theorem sim_gCons {g : TG} {dg : TDG} {w : TGs} {dw : TDGs} (hg : SimG K g dg) (hw : SimGs K w dw) : SimGs K (gCons g w) (dgCons dg dw) := fun F H M vs xs σ Γ Q R k s r h c => by
  cases r with
  | nil => exact h.elim
  | cons r t =>
    refine ⟨_, _, rfl, hg F H M _ _ σ Γ _ _ k s r h fun σ1 F1 H1 M1 Γ1 g1 k1 s1 h1 => ?_⟩
    exact hw F1 H1 M1 _ _ σ1 Γ1 _ _ k1 s1 (t.mono g1.ext) h1 (c.go g1)
theorem sim_gTup {n : Nat} {w : TGs} {dw : TDGs} (hw : SimGs K w dw) : SimG K (gTup K n w) (dgTup n dw) := fun F H M v x σ Γ Q R k s r h c => by
  cases x with
  | tup xs =>
    cases r with
    | tup h1 h2 => exact ⟨_, _, rfl, k.sub.sqT h1, by rw [h2.length]; exact h.1, hw F H M _ _ σ Γ Q R k s h2 h.2 c⟩
  | _ => exact h.elim
theorem pdgs_nil : PDGs X [] gNil dgNil := ⟨pgs_nil, sim_gNil⟩
theorem pdgs_cons {es : List Expr} {g : TG} {dg : TDG} {w : TGs} {dw : TDGs} (h1 : PDG X e g dg) (h2 : PDGs X es w dw) (hs : (assignEach (e :: es) X.env).map (·.2) = assign e X.env :: (assignEach es X.env).map (·.2) := by rfl) : PDGs X (e :: es) (gCons g w) (dgCons dg dw) :=
  ⟨pgs_cons h1.pe h2.pe hs, sim_gCons h1.sim h2.sim⟩
theorem pdg_tup {es : List Expr} {k : Nat} {w : TGs} {dw : TDGs} {n : Nat} (hc : X.calm = true) (h : PDGs X es w dw) (hn : (assignEach es X.env).length = n := by rfl) (hst : (assignEach es X.env).findIdx? (·.1) = none := by rfl) : PDG X (.Tuple es k pos) (gTup X.K n w) (dgTup n dw) :=
  ⟨pg_tup hc h.pe hn hst, sim_gTup h.sim⟩
theorem sim_asg {g : TG} {dg : TDG} (he : SimE K te de) (hg : SimG K g dg) : SimS K (tAsg te g) (dAsg de dg) := fun F H M σ Γ E D k s h n r b c =>
  he F H M σ Γ _ _ k s h fun v F1 H1 M1 x g1 k1 r1 h1 => hg F1 H1 M1 v x σ Γ _ _ k1 (s.mono g1.ext) r1 h1 (n.go g1)
theorem pds_asg {tg : Expr} {g : TG} {dg : TDG} (he : PD X e te de) (hg : PDG X tg g dg) (hs : swapsWithSole [tg] e pos.line X.env = pure false := by rfl) (hw : swappedStores [tg] e X.env = pure none := by rfl)
    (h1 : (assignEach [tg] X.env).map (·.2) = [assign tg X.env] := by rfl) : PDS X (.Assign [tg] e pos) (tAsg te g) (dAsg de dg) := ⟨ps_asg he.pe hg.pe hs hw h1, sim_asg he.sim hg.sim⟩
theorem pds_set {i : Nat} {x : Str} {pos' : Pos} (hN : X.N.Nodup) (hi : X.N[i]? = some x) (hx : Loc X.env.scope x) (he : PD X e te de) (hs : swapsWith e (some (.Name x pos')) pos.line X.env = pure false := by rfl) (hf : X.fn x = true ∨ X.env.scope.names.lookup x = some .local := by first | exact .inl rfl | exact .inr rfl | assumption) :
    PDS X (.Assign [.Name x pos'] e pos) (tAsg te (gName i)) (dAsg de (dgName i)) := ⟨ps_set hN hi hx he.pe hs hf, sim_asg he.sim sim_gName⟩
theorem sim_par2 {i j : Nat} {ta : TA} {da : TDA} (ha : SimA K ta da) : SimS K (tPar i j ta) (dPar [i, j] da) := fun F H M σ Γ E D k s h n r b c =>
  ha F H M σ Γ _ _ k s h fun vs F1 H1 M1 xs g1 k1 r1 h1 => by
    obtain ⟨hl, h1⟩ := h1
    cases r1 with
    | nil => cases hl
    | cons ra rt =>
      cases rt with
      | nil => cases hl
      | cons rb rt =>
        cases rt with
        | nil => exact ⟨_, _, rfl, n _ F1 H1 M1 _ g1 k1 (((s.mono g1.ext).set i ra).set j rb) h1⟩
        | cons _ _ => simp at hl
theorem sim_par3 {i j l : Nat} {ta : TA} {da : TDA} (ha : SimA K ta da) : SimS K (tPar3 i j l ta) (dPar [i, j, l] da) := fun F H M σ Γ E D k s h n r b c =>
  ha F H M σ Γ _ _ k s h fun vs F1 H1 M1 xs g1 k1 r1 h1 => by
    obtain ⟨hl, h1⟩ := h1
    cases r1 with
    | nil => cases hl
    | cons ra rt =>
      cases rt with
      | nil => cases hl
      | cons rb rt =>
        cases rt with
        | nil => simp at hl
        | cons rc rt =>
          cases rt with
          | nil => exact ⟨_, _, _, rfl, n _ F1 H1 M1 _ g1 k1 ((((s.mono g1.ext).set i ra).set j rb).set l rc) h1⟩
          | cons _ _ => simp at hl
theorem pds_par {i j : Nat} {x y : Str} {a b : Expr} {ta : TA} {da : TDA} {px py pt : Pos} {kt k2 pt2} (p : PS X (.Assign [.Tuple [.Name x px, .Name y py] kt pt] (.Tuple [a, b] k2 pt2) pos) (tPar i j ta)) (ha : SimA X.K ta da) :
    PDS X (.Assign [.Tuple [.Name x px, .Name y py] kt pt] (.Tuple [a, b] k2 pt2) pos) (tPar i j ta) (dPar [i, j] da) := ⟨p, sim_par2 ha⟩
theorem pds_par3 {i j l : Nat} {x y z : Str} {a b c : Expr} {ta : TA} {da : TDA} {px py pz pt : Pos} {kt k2 pt2} (p : PS X (.Assign [.Tuple [.Name x px, .Name y py, .Name z pz] kt pt] (.Tuple [a, b, c] k2 pt2) pos) (tPar3 i j l ta)) (ha : SimA X.K ta da) :
    PDS X (.Assign [.Tuple [.Name x px, .Name y py, .Name z pz] kt pt] (.Tuple [a, b, c] k2 pt2) pos) (tPar3 i j l ta) (dPar [i, j, l] da) := ⟨p, sim_par3 ha⟩
end

/-! ### stores: xs[i] = v, o.f = v, methods of a list -/
def setLD (o i v : D) (M : Mem) (Q : Mem → Prop) : Prop := match o, i with
  | .ref p, .int k => (match M p with
    | some (.lst xs) => (match ixN xs.length k with
      | some j => Q (mput M p (.lst (xs.set j v)))
      | none => False)
    | _ => False)
  | _, _ => False
def dgSub (o i : TD) : TDG := fun v Γ M Q => o Γ M fun x M1 => i Γ M1 fun y M2 => setLD x y v M2 fun M3 => Q Γ M3
/-- a new attribute | one that is there -/
def dSetNew (C : Addr) (f : Str) (o a : TD) : TDS := fun E Γ M => a Γ M fun y M1 => o Γ M1 fun x M2 => match x with
  | .ref p => (match M2 p with
    | some (.ins C' ns ds) => C' = C ∧ ns.length < 1000 ∧ ns.contains f = false ∧ E.nx Γ (mput M2 p (.ins C (ns ++ [f]) (ds ++ [y])))
    | _ => False)
  | _ => False
def dSetOld (C : Addr) (ns0 : List Str) (i : Nat) (o a : TD) : TDS := fun E Γ M => a Γ M fun y M1 => o Γ M1 fun x M2 => match x with
  | .ref p => (match M2 p with
    | some (.ins C' ns ds) => C' = C ∧ ns = ns0 ∧ E.nx Γ (mput M2 p (.ins C ns (ds.set i y)))
    | _ => False)
  | _ => False
def appD (x : D) (xs : List D) (M : Mem) (Q : QD) : Prop := match x, xs with
  | .ref p, [y] => (match M p with
    | some (.lst ds) => ds.length < sizeLine ∧ Q .non (mput M p (.lst (ds ++ [y])))
    | _ => False)
  | _, _ => False
def extD (x : D) (xs : List D) (M : Mem) (Q : QD) : Prop := match x, xs with
  | .ref p, [y] => (match M p, view M y with
    | some (.lst ds), .lst es => ds.length + es.length ≤ sizeLine ∧ Q .non (mput M p (.lst (ds ++ es)))
    | _, _ => False)
  | _, _ => False
def popD (x : D) (xs : List D) (M : Mem) (Q : QD) : Prop := match x, xs with
  | .ref p, [] => (match M p with
    | some (.lst ds) => nthN ds (ds.length - 1) fun y => Q y (mput M p (.lst ds.dropLast))
    | _ => False)
  | _, _ => False
def popAtD (x : D) (xs : List D) (M : Mem) (Q : QD) : Prop := match x, xs with
  | .ref p, [.int i] => (match M p with
    | some (.lst ds) => -(2 ^ 63) ≤ i ∧ i < 2 ^ 63 ∧ (match seqIndex? i ds.length with
      | some k => nthN ds k fun y => Q y (mput M p (.lst (ds.eraseIdx k)))
      | none => False)
    | _ => False)
  | _, _ => False
def isLstD (M : Mem) (x : D) : Prop := match view M x with
  | .lst _ => True
  | _ => False
def dBM (r : D → List D → Mem → QD → Prop) (o : TD) (a : TDA) : TD := fun Γ M Q => o Γ M fun x M1 => isLstD M1 x ∧ a Γ M1 fun xs M2 => r x xs M2 Q
def dBM0 (r : D → List D → Mem → QD → Prop) (o : TD) : TD := fun Γ M Q => o Γ M fun x M1 => isLstD M1 x ∧ r x [] M1 Q
section
variable {K : PySem.W.Frag} {X : Cx}
theorem Ok.writeL {F H : Hp} {M : Mem} (k : Ok K F H M) {p : Addr} {m0 : MO} (h : M p = some m0) {vs : List V} {ds : List D} (r : RepL K F vs ds) : Ok K F (upd H p (.lst vs)) (mput M p (.lst ds)) := k.write (m := .lst ds) h ⟨vs, upd_same, r⟩
theorem Ok.writeI {F H : Hp} {M : Mem} (k : Ok K F H M) {p C dx : Addr} {m0 : MO} (h : M p = some m0) {fs : List (Str × V)} {ns : List Str} {ds : List D} (hn : fs.map (·.1) = ns) (r : RepL K F (fs.map (·.2)) ds) : Ok K F (upd H p (.ins C dx fs)) (mput M p (.ins C ns ds)) := k.write (m := .ins C ns ds) h ⟨dx, fs, upd_same, hn, r⟩
theorem sim_gSub {to ti : TE} {do_ di : TD} (ho : SimE K to do_) (hi : SimE K ti di) : SimG K (gSub to ti rSetL) (dgSub do_ di) := fun F H M v x σ Γ Q R k s r h c =>
  ho F H M σ Γ _ _ k s h fun vo F1 H1 M1 o g1 k1 r1 h1 => hi F1 H1 M1 σ Γ _ _ k1 (s.mono g1.ext) h1 fun vi F2 H2 M2 i g2 k2 r2 h2 => by
    have g := g1.trans g2
    have r1' := r1.mono g2.ext
    unfold setLD at h2
    cases o with
    | ref p =>
      cases i with
      | int z =>
        cases r1'
        cases r2
        cases e : M2 p with
        | none => simp only [e] at h2
        | some m =>
          cases m with
          | lst xs =>
            simp only [e] at h2
            obtain ⟨_, vs, hv, rv⟩ := k2.mem p _ e
            cases ej : ixN xs.length z with
            | none => simp only [ej] at h2
            | some j =>
              simp only [ej] at h2
              refine ⟨p, vs, z, j, rfl, rfl, hv, by rw [rv.length]; exact ej, ?_⟩
              have rr := RepL.set j (r.mono g.ext) rv
              exact c σ F2 _ _ Γ (g.trans (k2.goW e _ _)) (k2.writeL e rr) (s.mono g.ext) h2
          | _ => simp only [e] at h2
      | _ => exact h2.elim
    | _ => exact h2.elim
theorem pdg_sub {o i : Expr} {to ti : TE} {do_ di : TD} {pos : Pos} (ho : PD X o to do_) (hi : PD X i ti di)
    (ha : ∀ v, assign (.Subscript o i pos) X.env v = (do
      let ov ← holding [v] (eval o X.env)
      let iv ← holding [v, ov] (eval i X.env)
      standAt pos
      holding [v, ov, iv] (setItem ov iv v)
      release [v, ov, iv] []) := by intro _; rfl) : PDG X (.Subscript o i pos) (gSub to ti rSetL) (dgSub do_ di) := ⟨pg_sub ho.pe hi.pe set_list ha, sim_gSub ho.sim hi.sim⟩
theorem putF_new {f : Str} {v : V} : ∀ {fs : List (Str × V)}, (fs.map (·.1)).contains f = false → putF f v fs = fs ++ [(f, v)]
  | [], _ => rfl
  | (g, x) :: r, h => by
    rw [List.map_cons, List.contains_cons, Bool.or_eq_false_iff] at h
    have ne : ¬ g = f := fun q => by subst q; simp at h
    show (if g = f then (g, v) :: r else (g, x) :: putF f v r) = _
    rw [if_neg ne, putF_new h.2]
    rfl
theorem putF_old {f : Str} {v : V} : ∀ {fs : List (Str × V)} {i : Nat}, (fs.map (·.1)).idxOf? f = some i → (putF f v fs).map (·.1) = fs.map (·.1) ∧ (putF f v fs).map (·.2) = (fs.map (·.2)).set i v
  | [], _, h => by simp [List.idxOf?] at h
  | (g, x) :: r, i, h => by
    rw [List.map_cons, List.idxOf?_cons] at h
    by_cases e : g = f
    · have e1 : (g == f) = true := beq_iff_eq.mpr e
      simp only [e1, if_true] at h
      cases h
      show (((if g = f then (g, v) :: r else (g, x) :: putF f v r) : List (Str × V)).map (·.1) = _) ∧ (((if g = f then (g, v) :: r else (g, x) :: putF f v r) : List (Str × V)).map (·.2) = _)
      rw [if_pos e]
      exact ⟨rfl, rfl⟩
    · have e1 : (g == f) = false := beq_eq_false_iff_ne.mpr e
      simp only [e1, Bool.false_eq_true, if_false] at h
      cases q : (r.map (·.1)).idxOf? f with
      | none => rw [q] at h; cases h
      | some j =>
        rw [q] at h
        cases h
        obtain ⟨q1, q2⟩ := putF_old (v := v) q
        show (((if g = f then (g, v) :: r else (g, x) :: putF f v r) : List (Str × V)).map (·.1) = _) ∧ (((if g = f then (g, v) :: r else (g, x) :: putF f v r) : List (Str × V)).map (·.2) = _)
        rw [if_neg e]
        exact ⟨by rw [List.map_cons, q1]; rfl, by rw [List.map_cons, q2]; rfl⟩
theorem sim_setNew {C : Addr} {f : Str} {to ta : TE} {do_ da : TD} (cl : Cls K C) (na : NoAttr K C f) (ho : SimE K to do_) (ha : SimE K ta da) : SimS K (sFld K to ta f) (dSetNew C f do_ da) := fun F H M σ Γ E D k s h n r b c =>
  ha F H M σ Γ _ _ k s h fun v F1 H1 M1 y g1 k1 r1 h1 => ho F1 H1 M1 σ Γ _ _ k1 (s.mono g1.ext) h1 fun vo F2 H2 M2 x g2 k2 r2 h2 => by
    have g := g1.trans g2
    cases x with
    | ref p =>
      cases r2
      cases e : M2 p with
      | none => simp only [e] at h2
      | some m =>
        cases m with
        | ins C' ns ds =>
          simp only [e] at h2
          obtain ⟨rfl, hz, hn, h2⟩ := h2
          obtain ⟨_, dx, fs, e1, e2, rf⟩ := k2.mem p _ e
          refine ⟨p, C', dx, fs, rfl, e1, cl, na, ?_, ?_⟩
          · have q := congrArg List.length e2
            rw [List.length_map] at q
            omega
          · have pe : putF f v fs = fs ++ [(f, v)] := putF_new (by rw [e2]; exact hn)
            rw [pe]
            refine n σ F2 _ _ Γ (g.trans (k2.goW e _ _)) (k2.writeI e (by rw [List.map_append, e2]; rfl) ?_) (s.mono g.ext) h2
            rw [List.map_append]
            exact rf.append (.cons (r1.mono g2.ext) .nil)
        | _ => simp only [e] at h2
    | _ => exact h2.elim
theorem sim_setOld {C : Addr} {ns0 : List Str} {i : Nat} {f : Str} {to ta : TE} {do_ da : TD} (cl : Cls K C) (na : NoAttr K C f) (hi : ns0.idxOf? f = some i) (hlen : ns0.length < 1000) (ho : SimE K to do_) (ha : SimE K ta da) : SimS K (sFld K to ta f) (dSetOld C ns0 i do_ da) := fun F H M σ Γ E D k s h n r b c =>
  ha F H M σ Γ _ _ k s h fun v F1 H1 M1 y g1 k1 r1 h1 => ho F1 H1 M1 σ Γ _ _ k1 (s.mono g1.ext) h1 fun vo F2 H2 M2 x g2 k2 r2 h2 => by
    have g := g1.trans g2
    cases x with
    | ref p =>
      cases r2
      cases e : M2 p with
      | none => simp only [e] at h2
      | some m =>
        cases m with
        | ins C' ns ds =>
          simp only [e] at h2
          obtain ⟨rfl, rfl, h2⟩ := h2
          obtain ⟨_, dx, fs, e1, e2, rf⟩ := k2.mem p _ e
          obtain ⟨q1, q2⟩ := putF_old (v := v) (fs := fs) (by rw [e2]; exact hi)
          refine ⟨p, C', dx, fs, rfl, e1, cl, na, ?_, ?_⟩
          · have q := congrArg List.length e2
            rw [List.length_map] at q
            omega
          · refine n σ F2 _ _ Γ (g.trans (k2.goW e _ _)) (k2.writeI e (by rw [q1, e2]) ?_) (s.mono g.ext) h2
            rw [q2]
            exact RepL.set i (r1.mono g2.ext) rf
        | _ => simp only [e] at h2
    | _ => exact h2.elim
theorem pds_setNew {C : Addr} {f : Str} {o e : Expr} {to ta : TE} {do_ da : TD} {pos pos' : Pos} (cl : Cls X.K C) (na : NoAttr X.K C f) (ho : PD X o to do_) (ha : PD X e ta da) (hs : swapsWith e (some (.Attribute o f pos')) pos.line X.env = pure false := by rfl) :
    PDS X (.Assign [.Attribute o f pos'] e pos) (sFld X.K to ta f) (dSetNew C f do_ da) := ⟨ps_fld ho.pe ha.pe hs, sim_setNew cl na ho.sim ha.sim⟩
theorem pds_setOld {C : Addr} {ns0 : List Str} {i : Nat} {f : Str} {o e : Expr} {to ta : TE} {do_ da : TD} {pos pos' : Pos} (cl : Cls X.K C) (na : NoAttr X.K C f) (hi : ns0.idxOf? f = some i) (hlen : ns0.length < 1000) (ho : PD X o to do_) (ha : PD X e ta da) (hs : swapsWith e (some (.Attribute o f pos')) pos.line X.env = pure false := by rfl) :
    PDS X (.Assign [.Attribute o f pos'] e pos) (sFld X.K to ta f) (dSetOld C ns0 i do_ da) := ⟨ps_fld ho.pe ha.pe hs, sim_setOld cl na hi hlen ho.sim ha.sim⟩
theorem RepL.dropLast {F : Hp} : ∀ {vs : List V} {ds : List D}, RepL K F vs ds → RepL K F vs.dropLast ds.dropLast
  | _, _, .nil => .nil
  | _, _, .cons r .nil => .nil
  | _, _, .cons r (.cons r2 t) => .cons r (RepL.dropLast (.cons r2 t))
theorem sm_app : SimM K rAppend appD := fun F H M v vs x xs Q R k r1 r2 h c => by
  unfold appD at h
  cases x with
  | ref p =>
    cases r1
    match xs, r2, h with
    | [], _, h => exact h.elim
    | [y], r2, h =>
      obtain ⟨w, rfl, q2⟩ := repL1 r2
      cases e : M p with
      | none => simp only [e] at h
      | some m =>
        cases m with
        | lst ds =>
          simp only [e] at h
          obtain ⟨_, us, hv, rv⟩ := k.mem p _ e
          exact ⟨p, us, w, rfl, rfl, hv, by rw [rv.length]; exact h.1, c _ F _ _ _ (k.goW e _ _) (k.writeL e (rv.append (.cons q2 .nil))) .non h.2⟩
        | _ => simp only [e] at h
    | _ :: _ :: _, _, h => exact h.elim
  | _ => exact h.elim
theorem sm_pop : SimM K rPop popD := fun F H M v vs x xs Q R k r1 r2 h c => by
  unfold popD at h
  cases x with
  | ref p =>
    cases r1
    match xs, r2, h with
    | [], r2, h =>
      cases r2
      cases e : M p with
      | none => simp only [e] at h
      | some m =>
        cases m with
        | lst ds =>
          simp only [e] at h
          obtain ⟨_, us, hv, rv⟩ := k.mem p _ e
          obtain ⟨y, e1, h⟩ := nthN_of h
          obtain ⟨w, e2, rw'⟩ := rv.get e1
          exact ⟨p, us, w, rfl, rfl, hv, by rw [rv.length]; exact e2, c _ F _ _ _ (k.goW e _ _) (k.writeL e rv.dropLast) rw' h⟩
        | _ => simp only [e] at h
    | _ :: _, _, h => exact h.elim
  | _ => exact h.elim
theorem sm_popAt : SimM K rPopAt popAtD := fun F H M v vs x xs Q R k r1 r2 h c => by
  unfold popAtD at h
  cases x with
  | ref p =>
    cases r1
    match xs, r2, h with
    | [], _, h => exact h.elim
    | [y], r2, h =>
      obtain ⟨w, rfl, q2⟩ := repL1 r2
      cases y with
      | int i =>
        cases q2
        cases e : M p with
        | none => simp only [e] at h
        | some m =>
          cases m with
          | lst ds =>
            simp only [e] at h
            obtain ⟨b1, b2, h⟩ := h
            obtain ⟨_, us, hv, rv⟩ := k.mem p _ e
            cases ej : seqIndex? i ds.length with
            | none => simp only [ej] at h
            | some j =>
              simp only [ej] at h
              obtain ⟨y, e1, h⟩ := nthN_of h
              obtain ⟨w, e2, rw'⟩ := rv.get e1
              exact ⟨p, us, i, j, w, rfl, rfl, hv, b1, b2, by rw [rv.length]; exact ej, e2, c _ F _ _ _ (k.goW e _ _) (k.writeL e (rv.erase j)) rw' h⟩
          | _ => simp only [e] at h
      | _ => exact h.elim
    | y :: _ :: _, _, h => cases y <;> exact h.elim
  | _ => exact h.elim
theorem isLst_of {F H : Hp} {M : Mem} (k : Ok K F H M) {v : V} {x : D} (r : Rep K F v x) (h : isLstD M x) : tyV K "list" v H := by
  unfold isLstD at h
  cases e : view M x with
  | lst ds =>
    obtain ⟨a, vs, rfl, ha, _⟩ := k.vlst r e
    exact .inl ⟨rfl, vs, SqL.of ha⟩
  | _ => rw [e] at h; exact h.elim
theorem sim_bm {r : V → List V → Hp → VK → Prop} {dr : D → List D → Mem → QD → Prop} {to : TE} {do_ : TD} {ta : TA} {da : TDA} (hr : SimM K r dr) (ho : SimE K to do_) (ha : SimA K ta da) : SimE K (tBM K "list" r to ta) (dBM dr do_ da) := fun F H M σ Γ Q R k s h c =>
  ho F H M σ Γ _ _ k s h fun v F1 H1 M1 x g1 k1 r1 h1 => ⟨isLst_of k1 r1 h1.1, ha F1 H1 M1 σ Γ _ _ k1 (s.mono g1.ext) h1.2 fun vs F2 H2 M2 xs g2 k2 r2 h2 =>
    hr F2 H2 M2 v vs x xs Q R k2 (r1.mono g2.ext) r2 h2 ((c.go g1).go g2)⟩
theorem sim_bm0 {r : V → List V → Hp → VK → Prop} {dr : D → List D → Mem → QD → Prop} {to : TE} {do_ : TD} (hr : SimM K r dr) (ho : SimE K to do_) : SimE K (tBM0 K "list" r to) (dBM0 dr do_) := fun F H M σ Γ Q R k s h c =>
  ho F H M σ Γ _ _ k s h fun v F1 H1 M1 x g1 k1 r1 h1 => ⟨isLst_of k1 r1 h1.1, hr F1 H1 M1 v [] x [] Q R k1 r1 .nil h1.2 (c.go g1)⟩
variable {o e : Expr} {es : List Expr} {to : TE} {do_ : TD} {ta : TA} {da : TDA} {apos cpos : Pos}
theorem pd_app (p : PE X (.Call (.Attribute o "append" apos) (e :: es) [] cpos) (tBM X.K "list" rAppend to ta)) (ho : SimE X.K to do_) (ha : SimA X.K ta da) : PD X (.Call (.Attribute o "append" apos) (e :: es) [] cpos) (tBM X.K "list" rAppend to ta) (dBM appD do_ da) := ⟨p, sim_bm sm_app ho ha⟩
theorem pd_popAt (p : PE X (.Call (.Attribute o "pop" apos) (e :: es) [] cpos) (tBM X.K "list" rPopAt to ta)) (ho : SimE X.K to do_) (ha : SimA X.K ta da) : PD X (.Call (.Attribute o "pop" apos) (e :: es) [] cpos) (tBM X.K "list" rPopAt to ta) (dBM popAtD do_ da) := ⟨p, sim_bm sm_popAt ho ha⟩
theorem pd_pop (p : PE X (.Call (.Attribute o "pop" apos) [] [] cpos) (tBM0 X.K "list" rPop to)) (ho : SimE X.K to do_) : PD X (.Call (.Attribute o "pop" apos) [] [] cpos) (tBM0 X.K "list" rPop to) (dBM0 popD do_) := ⟨p, sim_bm0 sm_pop ho⟩
end
end DL

set_option Elab.async false
set_option linter.all false
set_option maxRecDepth 100000
set_option maxHeartbeats 4000000
/-! enumerate over a tuple, over a list or a tuple. -/
namespace DL
open PySem PySem.Spec PyProof.Rows L2

theorem meets_enum_one {v : Value} {o : Obj} {H : Heap → Prop} (B : Begins v o H) :
    Meets (Builtin.«enumerate.__new__» ⟨[.type "enumerate", v], []⟩) (fun _ R s => H s.heap ∧
      R (.ok (.ret (.ref (s.heap.push o).objs.size))) { s with heap := (s.heap.push o).push { cls := .type "enumerate", data := .fields #[.none, .bool false, .ref s.heap.objs.size, rawInt 0, .none, .none] } }) :=
  .of_wp fun prog w A R s h => by
    obtain ⟨hp, g, d, tk, os⟩ := s; obtain ⟨h1, h⟩ := h
    have hsub := sub_enumerate
    have q1 : ∀ {A' : Around} {E : Value → Shared → Prop} {Q : Value → Shared → Prop}, Q (.ref hp.objs.size) ⟨hp.push o, g, d, tk, os⟩ → wpAny (model prog w) A' (pyIter v) Q E ⟨hp, g, d, tk, os⟩ :=
      fun q => B.iter prog w _ _ ⟨hp, g, d, tk, os⟩ _ h1 q
    wp_walk using q1
    refine wpAny_stack_any fun st => wpAny_pure ?_
    split
    · rename_i c _ _ _ _ _
      cases (c == Value.type "enumerate")
      · wp_walk using q1
        exact ⟨_, rfl, h⟩
      · wp_walk using q1
        exact ⟨_, rfl, h⟩
    · wp_walk using q1
      exact ⟨_, rfl, h⟩
section
variable {prog : Program} {w : World} {A : Around} {E : Value → Shared → Prop} {s : Shared}
theorem enum_one {v : Value} {o : Obj} {H : Heap → Prop} {Q : Value → Shared → Prop} (B : Begins v o H) (h1 : H s.heap)
    (h : ∀ h', IsEnum h' (s.heap.objs.size + 1) s.heap.objs.size 0 .none → h'.get? s.heap.objs.size = some o → h'.objs.size = s.heap.objs.size + 2 →
      (∀ b o, s.heap.get? b = some o → h'.get? b = some o) → Q (.ref (s.heap.objs.size + 1)) { s with heap := h' }) :
    wpAny (model prog w) A (call (.type "enumerate") [v]) Q E s := by
  refine callType_new F.called_enumerate (by decide) (F.typeCall_enumerate_1 _) (F.newCall_enumerate_1 _) (fun obj => F.args_object_init_2 obj _) F.entry_enumerate_new
    (meets_enum_one B) ⟨h1, ?_⟩
  have hz : (s.heap.push o).objs.size = s.heap.objs.size + 1 := Heap.size_push ..
  show _ ∧ _
  rw [hz]
  have he : IsEnum ((s.heap.push o).push { cls := .type "enumerate", data := .fields #[.none, .bool false, .ref s.heap.objs.size, rawInt 0, .none, .none] }) (s.heap.objs.size + 1) s.heap.objs.size 0 .none := by
    have := Heap.get?_push_size (s.heap.push o) (o := { cls := .type "enumerate", data := .fields #[.none, .bool false, .ref s.heap.objs.size, rawInt 0, .none, .none] }) rfl
    rw [hz] at this; exact this
  refine ⟨⟨_, he, rfl⟩, h _ he (Heap.get?_push_of_some _ (Heap.get?_push_size _ B.free)) (by rw [Heap.size_push, hz]) fun b o x => Heap.get?_push_of_some _ (Heap.get?_push_of_some _ x)⟩
end

/-- the tuple at a, each item in a new pair -/
def IteT (K : PySem.W.Frag) (a : Addr) : It :=
  ⟨fun i H => ∃ (xs : List V) (x : V), SqT K H a xs ∧ xs[i]? = some x, fun i H v H' => ∃ T x, v = .ref T ∧ H T = none ∧ H' = upd H T (.tup [.int (i : Nat), x]) ∧ ∀ xs, SqT K H a xs → xs[i]? = some x, fun i H => ∃ xs : List V, SqT K H a xs ∧ xs.length ≤ i⟩
theorem turn_enumT {P : Program} {w : World} {K : PySem.W.Frag} {elts : List Expr} {kk : Nat} {tpos : Pos} (a e it : Addr) (hai : a ≠ it) :
    Turn P w K (.Tuple elts kk tpos) (IteT K a) [e, it] e (fun i h => (∃ old, IsEnum h e it ((i : Nat) : Int) old) ∧ h.IsTupleIter it a i ∧ e ≠ it) where
  mem := by simp
  obj := fun i h st b hb => by
    obtain ⟨⟨old, he⟩, ⟨o, ho, hc, hd⟩, _⟩ := st
    have e' : b = e ∨ b = it := by simpa using hb
    rcases e' with z | z
    · rw [z]; exact ⟨_, he, fun v q => nomatch q⟩
    · rw [z]; exact ⟨o, ho, fun v q => by rw [hd] at q; cases q⟩
  keep := fun i h h' st k => let ⟨⟨old, he⟩, hi, hne⟩ := st; ⟨⟨old, k e (by simp) _ he⟩, hi.at fun o q => k it (by simp) o q, hne⟩
  item := by
    intro X hP hw hK hc i pins s σ H E I hf st hg
    subst hP hw hK
    obtain ⟨⟨old, he⟩, hit, hne⟩ := st
    obtain ⟨xs, x, hq, hx⟩ := hg
    obtain ⟨its, rv, p, hz⟩ := I.tuple hq
    obtain ⟨u, hu, ru⟩ := rv.get hx
    have hel : e < s.heap.objs.size := Heap.lt_size he
    have hil : it < s.heap.objs.size := by obtain ⟨_, q, _⟩ := hit; exact Heap.lt_size q
    have hlt : i < its.toArray.size := by
      have q := (List.getElem?_eq_some_iff.mp hu).1
      simpa using q
    refine wpAny_pyNext_enum_itemD (A := X.A) (fp := [it, a]) (Draws.tuple (A := X.A.in1) (I.ok.hd hc) it a hai its.toArray) he ⟨hit, show s.heap.IsTuple a its.toArray from p⟩ hlt hne (by
      intro z
      have z' : e = it ∨ e = a := by simpa using z
      rcases z' with z | z
      · exact hne z
      · obtain ⟨o2, h1, h2, _⟩ := p
        rw [← z] at h1
        rw [he] at h1
        have q := Option.some.inj h1
        rw [← q] at h2
        exact absurd (Value.type.inj h2) (by decide)) fun v h' tk hv ho hst hT hsz hk => ?_
    have hv' : v = u := by
      have q : its.toArray[i]? = some u := by simpa using hu
      have hv2 : its.toArray[i]? = some v := hv
      rw [q] at hv2
      exact (Option.some.inj hv2).symm
    subst hv'
    refine ⟨_, rfl, wpAny_letOwnedTupleGo_enum (s := { s with heap := h', toks := tk + 1 }) ho fun h'' he' sb => ?_⟩
    have hT2 : h''.get? s.heap.objs.size = some { cls := .type "tuple", data := .seq #[.int i tk, v] } := (sb.2 _ (Nat.ne_of_gt hel)).trans hT
    have new : ObjOk X.prog X.w (upd H s.heap.objs.size (.tup [.int (i : Nat), x])) h'' s.heap.objs.size (.tup [.int (i : Nat), x]) :=
      ⟨by show 2 ≤ sizeLine; decide, [.int i tk, v], .cons ⟨_, rfl⟩ (.cons ru .nil), ⟨_, hT2, rfl, _, rfl⟩⟩
    have I1 : Inv X pins σ (upd H s.heap.objs.size (.tup [.int (i : Nat), x])) { s with heap := h'', toks := tk + 1 } :=
      I.turnedNew (ch := [e, it]) (fun b ob hb q => (sb.2 b (fun z => hb (by simp [z]))).trans (hk b ob (fun z => hb (by simp [z])) (fun z => hb (by simp [z])) q)) hf (Nat.le_refl _) new
    refine ⟨.ref s.heap.objs.size, _, I1, rfl, ⟨_, x, rfl, I.hok.fresh (Nat.le_refl _), rfl, fun ys hy => by rw [I.tuple_inj hy hq]; exact hx⟩, ⟨⟨v, ?_⟩, hst.1.at fun o q => (sb.2 it (Ne.symm hne)).trans q, hne⟩, fun b hb => ?_⟩
    · have e1 : ((i + 1 : Nat) : Int) = (i : Int) + 1 := by omega
      rw [e1]; exact he'
    · have hb' : b < s.heap.objs.size := by
        have e' : b = e ∨ b = it := by simpa using hb
        rcases e' with z | z
        · rw [z]; exact hel
        · rw [z]; exact hil
      rw [upd_ne (Nat.ne_of_lt hb')]
      exact (hf b hb).1
  done := by
    intro X hP hw hK hc i pins s σ H E I hf st hg
    subst hP hw hK
    obtain ⟨⟨old, he⟩, hit, hne⟩ := st
    obtain ⟨xs, hq, hx⟩ := hg
    obtain ⟨its, rv, p, hz⟩ := I.tuple hq
    obtain ⟨f0, f1, f2, f3, f4, f5⟩ := hf it (by simp)
    have hl := rv.length
    have hT : s.TypeIs (.ref e) "enumerate" := ⟨_, he, rfl⟩
    unfold pyNext
    refine wpAny_bind (wpAny_attempt (wpAny_callSpecial?_slot (name := Str.ofString "__next__") hT F.slot_enumerate_next
      (wpAny_call_entry F.slot_enumerate_next hT F.entry_enumerate_next ?_ (F.args_enumerate_next_1 _))))
    show wpAny _ _ (field (.ref e) 2 >>= _) _ _ _
    refine wpAny_bind (wpAny_field he rfl (x := .ref it) rfl ?_)
    refine wpAny_bind (wpAny_nextOf_tuple_end (I.ok.hd hc) hit (show s.heap.IsTuple a its.toArray from p) (by simp; omega) fun h' x he' hx' => ?_)
    obtain ⟨o, ho, hc'⟩ := hx'
    refine wpAny_bind (wpAny_isInstance (T := "StopIteration") (b := true) ⟨o, ho, hc'⟩ isSubtype_stop ?_)
    exact wpAny_pure ⟨rfl, I.turned (t' := s.toks) (fun b o hb q => he' b o hb q) f0 f1 f3 f4 f5⟩
  self := fun A i s Q E st h => let ⟨⟨_, he⟩, _⟩ := st; wpAny_pyIter_enum he h
def iEnumA (K : PySem.W.Frag) (ta : TA) : TI := fun σ H R => ta σ H fun vs H1 => ∃ a xs, vs = [.ref a] ∧ ((SqL K H1 a xs ∧ R (Ite K a) H1) ∨ (SqT K H1 a xs ∧ R (IteT K a) H1))
theorem pi_enumA {X : Cx} {e : Expr} {ta : TA} {p pos tpos : Pos} {elts : List Expr} {kk : Nat} (hg : Gl X "enumerate") (hm : X.mg "enumerate" = none) (ha : PA X [e] ta) (hs : starEach [e] X.env = [(false, eval e X.env)] := by rfl) :
    PI X (.Tuple elts kk tpos) (.Call (.Name "enumerate" p) [e] [] pos) (iEnumA X.K ta) := by
  refine ⟨fun pins s σ H R I h => ?_⟩
  refine Call_ (ld_blt I hg hm boot_enumerate (PyProof.Rows.callWith_type1 (thn (ha.run pos pins s σ H _ I h) fun us s1 ⟨vs, H1, I1, r1, q1⟩ => ?_) hs rfl))
  obtain ⟨a, xs, ex, q1⟩ := q1
  subst ex
  cases r1 with
  | cons r rr =>
    cases rr
    cases r
    rcases q1 with ⟨hq, q⟩ | ⟨hq, q⟩
    · obtain ⟨its, rv, p', hz⟩ := I1.list hq
      refine call_enumerate_list p'.isList fun h' he hit hsz hk => wpAny_pyIter_enum he ?_
      have I2 : Inv X pins σ H1 { s1 with heap := h' } := I1.kept (t' := s1.toks) hk
      refine ⟨s1.heap.objs.size + 1, [s1.heap.objs.size + 1, s1.heap.objs.size], _, _, H1, rfl, I2, turn_enum a (s1.heap.objs.size + 1) s1.heap.objs.size, ⟨⟨.none, he⟩, hit, Nat.succ_ne_self _⟩, fun b hb => ?_, q⟩
      have e' : b = s1.heap.objs.size + 1 ∨ b = s1.heap.objs.size := by simpa using hb
      have hle : s1.heap.objs.size ≤ b := by
        rcases e' with z | z
        · rw [z]; exact Nat.le_add_right _ _
        · rw [z]; exact Nat.le_refl _
      exact I1.fpOk hle (I1.hok.fresh hle)
    · obtain ⟨its, rv, p', hz⟩ := I1.tuple hq
      have la : a < s1.heap.objs.size := by obtain ⟨o, h1, _⟩ := p'; exact Heap.lt_size h1
      refine enum_one (begins_tuple a its.toArray) p' fun h' he hit hsz hk => wpAny_pyIter_enum he ?_
      have I2 : Inv X pins σ H1 { s1 with heap := h' } := I1.kept (t' := s1.toks) hk
      refine ⟨s1.heap.objs.size + 1, [s1.heap.objs.size + 1, s1.heap.objs.size], _, _, H1, rfl, I2, turn_enumT a (s1.heap.objs.size + 1) s1.heap.objs.size (Nat.ne_of_lt la), ⟨⟨.none, he⟩, ⟨_, hit, rfl, rfl⟩, Nat.succ_ne_self _⟩, fun b hb => ?_, q⟩
      have e' : b = s1.heap.objs.size + 1 ∨ b = s1.heap.objs.size := by simpa using hb
      have hle : s1.heap.objs.size ≤ b := by
        rcases e' with z | z
        · rw [z]; exact Nat.le_add_right _ _
        · rw [z]; exact Nat.le_refl _
      exact I1.fpOk hle (I1.hok.fresh hle)
theorem walk_enumT {K : PySem.W.Frag} {a : Addr} {xs : List V} : Walk (IteT K a) xs.length (fun H => SqT K H a xs) (YPair (fun i => some (.int (i : Nat))) (fun i => xs[i]?)) := by
  refine ⟨fun i _ hi q => ⟨xs, xs[i], q, by simp [hi]⟩, fun _ q => ⟨xs, q, Nat.le_refl _⟩, fun i H v H' _ q y => ?_⟩
  obtain ⟨T, x, h1, h2, h3, h4⟩ := y
  exact ⟨T, .int (i : Nat), x, h1, h2, h3, rfl, h4 xs q⟩

/-- a walk over a list or a tuple -/
def iAny (K : PySem.W.Frag) (tl : TE) : TI := fun σ H R => tl σ H fun x H1 => ∃ a xs, x = .ref a ∧ ((SqL K H1 a xs ∧ R (Itl K a) H1) ∨ (SqT K H1 a xs ∧ R (Itt K a) H1))
theorem pi_any {X : Cx} {tg l : Expr} {tl : TE} (hl : PE X l tl) : PI X tg l (iAny X.K tl) := by
  refine ⟨fun pins s σ H R I h => ?_⟩
  refine thn (hl.run pins s σ H _ I h) fun v s1 ⟨x, H1, I1, r1, q1⟩ => ?_
  obtain ⟨a, xs, e, q1⟩ := q1
  subst e
  rcases q1 with ⟨hq, q⟩ | ⟨hq, q⟩
  · have h0 : PI X tg l (iList X.K (tC (.ref a))) → True := fun _ => trivial
    cases r1
    obtain ⟨its, _, p, _⟩ := I1.list hq
    refine wpAny_pyIter_list p.isList ?_
    have I2 : Inv X pins σ H1 { s1 with heap := s1.heap.push { cls := .type "list_iterator", data := .fields #[.ref a, .int 0 0] } } := I1.kept (t' := s1.toks) fun b u e => Heap.get?_push_of_some _ e
    refine ⟨s1.heap.objs.size, [s1.heap.objs.size], _, _, H1, rfl, I2, turn_list a s1.heap.objs.size, ⟨_, Heap.get?_push_size _ rfl, rfl, rfl⟩, fun b hb => ?_, q⟩
    have e : b = s1.heap.objs.size := by simpa using hb
    subst e
    exact I1.fpOk (Nat.le_refl _) (I1.hok.fresh (Nat.le_refl _))
  · cases r1
    obtain ⟨its, _, p, _⟩ := I1.tuple hq
    refine wpAny_pyIter_tuple (show s1.heap.IsTuple a its.toArray from p) ?_
    have I2 : Inv X pins σ H1 { s1 with heap := s1.heap.push { cls := .type "tuple_iterator", data := .fields #[.ref a, .int 0 0] } } := I1.kept (t' := s1.toks) fun b u e => Heap.get?_push_of_some _ e
    refine ⟨s1.heap.objs.size, [s1.heap.objs.size], _, _, H1, rfl, I2, turn_tuple a s1.heap.objs.size, ⟨_, Heap.get?_push_size _ rfl, rfl, rfl⟩, fun b hb => ?_, q⟩
    have e : b = s1.heap.objs.size := by simpa using hb
    subst e
    exact I1.fpOk (Nat.le_refl _) (I1.hok.fresh (Nat.le_refl _))
end DL

set_option Elab.async false
set_option linter.all false
set_option maxRecDepth 100000
set_option maxHeartbeats 4000000
namespace DL
open PySem PySem.Spec PyProof.Rows L2

/-! ### what is walked -/
/-- the walk J gives the data ds, one behind another, while grd holds of what may change -/
structure Feeds (K : PySem.W.Frag) (F0 : Hp) (J : It) (ds : List D) (grd : Mem → Prop) : Prop where
  goes : ∀ F H M i, Ex F0 F → Ok K F H M → grd M → i < ds.length → J.go i H
  stops : ∀ F H M, Ex F0 F → Ok K F H M → grd M → J.stop ds.length H
  yields : ∀ F H M i x H', Ex F0 F → Ok K F H M → grd M → i < ds.length → J.yld i H x H' → ∃ F' d, ds[i]? = some d ∧ Go F H M F' H' M ∧ Ok K F' H' M ∧ Rep K F' x d
abbrev TDI := DE → Mem → (List D → (Mem → Prop) → Mem → Prop) → Prop
def SimI (K : PySem.W.Frag) (wi : TI) (di : TDI) : Prop := ∀ F H M σ Γ P R, Ok K F H M → SRel K F σ Γ → di Γ M P →
  (∀ J F1 H1 M1 ds grd, Go F H M F1 H1 M1 → Ok K F1 H1 M1 → Feeds K F1 J ds grd → P ds grd M1 → R J H1) → wi σ H R
structure PDI (X : Cx) (tg iter : Expr) (wi : TI) (di : TDI) : Prop where
  pe : PI X tg iter wi
  sim : SimI X.K wi di
def noGrd : Mem → Prop := fun _ => True
/-- a list or a tuple -/
def srcD (x : D) (M : Mem) (P : List D → (Mem → Prop) → Mem → Prop) : Prop := match x with
  | .lst xs => P xs noGrd M
  | .scr xs => P xs noGrd M
  | .tup xs => P xs noGrd M
  | .ref a => (match M a with
    | some (.lst xs) => P xs (fun M' => M' a = some (.lst xs)) M
    | _ => False)
  | _ => False
def diAny (a : TD) : TDI := fun Γ M P => a Γ M fun x M1 => srcD x M1 P
def rngD (lo : Int) (n : Nat) : List D := (List.range n).map fun i => D.int (lo + (i : Nat))
def diRng1 (a : TDA) : TDI := fun Γ M P => a Γ M fun xs M1 => match xs with
  | [.int j] => (-(2 ^ 62) ≤ j ∧ j < 2 ^ 62) ∧ P (rngD 0 j.toNat) noGrd M1
  | _ => False
def diRng2 (a : TDA) : TDI := fun Γ M P => a Γ M fun xs M1 => match xs with
  | [.int i, .int j] => (-(2 ^ 62) ≤ i ∧ i < 2 ^ 62 ∧ -(2 ^ 62) ≤ j ∧ j < 2 ^ 62) ∧ P (rngD i (j - i).toNat) noGrd M1
  | _ => False
def enumD (xs : List D) : List D := (List.range xs.length).map fun i => D.tup [.int (i : Nat), xs.getD i .non]
def diEnum (a : TDA) : TDI := fun Γ M P => a Γ M fun xs M1 => match xs with
  | [x] => srcD x M1 fun ds grd M2 => P (enumD ds) grd M2
  | _ => False
def zipD (xs ys : List D) : List D := List.zipWith (fun x y => D.tup [x, y]) xs ys
def diZip (a : TDA) : TDI := fun Γ M P => a Γ M fun xs M1 => match xs with
  | [.lst xs, .lst ys] => P (zipD xs ys) noGrd M1
  | [.tup xs, .tup ys] => P (zipD xs ys) noGrd M1
  | _ => False
section
variable {K : PySem.W.Frag} {X : Cx}
theorem feeds_lst {F0 : Hp} {a : Addr} {vs : List V} {ds : List D} (h : ∀ F H M, Ex F0 F → Ok K F H M → SqL K H a vs) (r : RepL K F0 vs ds) : Feeds K F0 (Itl K a) ds noGrd := by
  have w := walk_list (K := K) (a := a) (xs := vs)
  refine ⟨fun F H M i e k _ hi => w.goes i H (by rw [r.length]; exact hi) (h F H M e k), fun F H M e k _ => by rw [← r.length]; exact w.stops H (h F H M e k), fun F H M i x H' e k _ hi y => ?_⟩
  obtain ⟨rfl, hx⟩ := w.yields i H x H' (by rw [r.length]; exact hi) (h F H M e k) y
  obtain ⟨d, hd, rd⟩ := r.get' hx
  exact ⟨F, d, hd, Go.refl, k, rd.mono e⟩
theorem feeds_mut {F0 : Hp} {a : Addr} {vs : List V} {ds : List D} (r : RepL K F0 vs ds) : Feeds K F0 (Itl K a) ds (fun M => M a = some (.lst ds)) := by
  have get : ∀ F H M, Ok K F H M → M a = some (.lst ds) → ∃ ws, SqL K H a ws ∧ RepL K F ws ds := fun F H M k h => by
    obtain ⟨_, ws, h1, h2⟩ := k.mem a _ h
    exact ⟨ws, SqL.of h1, h2⟩
  refine ⟨fun F H M i e k g hi => ?_, fun F H M e k g => ?_, fun F H M i x H' e k g hi y => ?_⟩
  · obtain ⟨ws, h1, h2⟩ := get F H M k g
    exact (walk_list (K := K) (a := a) (xs := ws)).goes i H (by rw [h2.length]; exact hi) h1
  · obtain ⟨ws, h1, h2⟩ := get F H M k g
    rw [← h2.length]
    exact (walk_list (K := K) (a := a) (xs := ws)).stops H h1
  · obtain ⟨ws, h1, h2⟩ := get F H M k g
    obtain ⟨rfl, hx⟩ := (walk_list (K := K) (a := a) (xs := ws)).yields i H x H' (by rw [h2.length]; exact hi) h1 y
    obtain ⟨d, hd, rd⟩ := h2.get' hx
    exact ⟨F, d, hd, Go.refl, k, rd⟩
theorem feeds_tup {F0 : Hp} {a : Addr} {vs : List V} {ds : List D} (h : SqT K F0 a vs) (r : RepL K F0 vs ds) : Feeds K F0 (Itt K a) ds noGrd := by
  have w := walk_tup (K := K) (a := a) (xs := vs)
  have q : ∀ F H M, Ex F0 F → Ok K F H M → SqT K H a vs := fun F H M e k => k.sub.sqT (e.sqT h)
  refine ⟨fun F H M i e k _ hi => w.goes i H (by rw [r.length]; exact hi) (q F H M e k), fun F H M e k _ => by rw [← r.length]; exact w.stops H (q F H M e k), fun F H M i x H' e k _ hi y => ?_⟩
  obtain ⟨rfl, hx⟩ := w.yields i H x H' (by rw [r.length]; exact hi) (q F H M e k) y
  obtain ⟨d, hd, rd⟩ := r.get' hx
  exact ⟨F, d, hd, Go.refl, k, rd.mono e⟩
theorem rngD_get {lo : Int} {n i : Nat} (h : i < n) : (rngD lo n)[i]? = some (.int (lo + (i : Nat))) := by
  unfold rngD
  rw [List.getElem?_map, List.getElem?_range h]
  rfl
theorem rngD_length {lo : Int} {n : Nat} : (rngD lo n).length = n := by unfold rngD; simp
theorem feeds_rng {F0 : Hp} {lo : Int} {n : Nat} : Feeds K F0 (Itr lo n) (rngD lo n) noGrd := by
  have w := walk_range (lo := lo) (n := n)
  refine ⟨fun F H M i e k _ hi => w.goes i H (by rwa [rngD_length] at hi) trivial, fun F H M e k _ => by rw [rngD_length]; exact w.stops H trivial, fun F H M i x H' e k _ hi y => ?_⟩
  rw [rngD_length] at hi
  obtain ⟨rfl, rfl⟩ := w.yields i H x H' hi trivial y
  exact ⟨F, _, rngD_get hi, Go.refl, k, .int _⟩
theorem pair_new {F H H' : Hp} {M : Mem} {T : Addr} {x y : V} {dx dy : D} (k : Ok K F H M) (hT : H T = none) (hH : H' = upd H T (.tup [x, y])) (rx : Rep K F x dx) (ry : Rep K F y dy) : ∃ F', Go F H M F' H' M ∧ Ok K F' H' M ∧ Rep K F' (.ref T) (.tup [dx, dy]) := by
  subst hH
  have g := k.goF hT (.tup [x, y])
  exact ⟨_, g, k.newF hT _, .tup (SqT.of upd_same) (.cons (rx.mono g.ext) (.cons (ry.mono g.ext) .nil))⟩
theorem enumD_length {ds : List D} : (enumD ds).length = ds.length := by unfold enumD; simp
theorem enumD_get {ds : List D} {i : Nat} {d : D} (h : ds[i]? = some d) : (enumD ds)[i]? = some (.tup [.int (i : Nat), d]) := by
  have hi := (List.getElem?_eq_some_iff.mp h).1
  unfold enumD
  rw [List.getElem?_map, List.getElem?_range hi]
  simp [List.getD, h]
theorem feeds_enumL {F0 : Hp} {a : Addr} {grd : Mem → Prop} {ds : List D} (h : ∀ F H M, Ex F0 F → Ok K F H M → grd M → ∃ vs, SqL K H a vs ∧ RepL K F vs ds) : Feeds K F0 (Ite K a) (enumD ds) grd := by
  refine ⟨fun F H M i e k g hi => ?_, fun F H M e k g => ?_, fun F H M i x H' e k g hi y => ?_⟩
  · obtain ⟨vs, h1, h2⟩ := h F H M e k g
    rw [enumD_length] at hi
    exact (walk_enum (K := K) (a := a) (xs := vs)).goes i H (by rw [h2.length]; exact hi) h1
  · obtain ⟨vs, h1, h2⟩ := h F H M e k g
    rw [enumD_length, ← h2.length]
    exact (walk_enum (K := K) (a := a) (xs := vs)).stops H h1
  · obtain ⟨vs, h1, h2⟩ := h F H M e k g
    rw [enumD_length] at hi
    obtain ⟨T, x1, x2, rfl, hT, hH, e1, e2⟩ := (walk_enum (K := K) (a := a) (xs := vs)).yields i H x H' (by rw [h2.length]; exact hi) h1 y
    cases e1
    obtain ⟨d, hd, rd⟩ := h2.get' e2
    obtain ⟨F', g', k', r'⟩ := pair_new k hT hH (.int (i : Nat)) rd
    exact ⟨F', _, enumD_get hd, g', k', r'⟩
theorem feeds_enumT {F0 : Hp} {a : Addr} {vs : List V} {ds : List D} (h : SqT K F0 a vs) (r : RepL K F0 vs ds) : Feeds K F0 (IteT K a) (enumD ds) noGrd := by
  have w := walk_enumT (K := K) (a := a) (xs := vs)
  have q : ∀ F H M, Ex F0 F → Ok K F H M → SqT K H a vs := fun F H M e k => k.sub.sqT (e.sqT h)
  refine ⟨fun F H M i e k _ hi => w.goes i H (by rw [r.length]; rwa [enumD_length] at hi) (q F H M e k), fun F H M e k _ => by rw [enumD_length, ← r.length]; exact w.stops H (q F H M e k), fun F H M i x H' e k _ hi y => ?_⟩
  rw [enumD_length] at hi
  obtain ⟨T, x1, x2, rfl, hT, hH, e1, e2⟩ := w.yields i H x H' (by rw [r.length]; exact hi) (q F H M e k) y
  cases e1
  obtain ⟨d, hd, rd⟩ := r.get' e2
  obtain ⟨F', g', k', r'⟩ := pair_new k hT hH (.int (i : Nat)) (rd.mono e)
  exact ⟨F', _, enumD_get hd, g', k', r'⟩
theorem sim_diAny {tl : TE} {dl : TD} (hl : SimE K tl dl) : SimI K (iAny K tl) (diAny dl) := fun F H M σ Γ P R k s h c =>
  hl F H M σ Γ _ _ k s h fun v F1 H1 M1 x g1 k1 r1 h1 => by
    cases x with
    | lst xs =>
      cases r1 with
      | lst ha ra => exact ⟨_, _, rfl, .inl ⟨SqL.of (k1.sub _ _ ha), c _ F1 H1 M1 _ _ g1 k1 (feeds_lst (fun F' H' M' e k' => SqL.of (k'.sub _ _ (e _ _ ha))) ra) h1⟩⟩
    | scr xs =>
      cases r1 with
      | scr ha ra => exact ⟨_, _, rfl, .inl ⟨k1.sub.sqL ha, c _ F1 H1 M1 _ _ g1 k1 (feeds_lst (fun F' H' M' e k' => k'.sub.sqL (e.sqL ha)) ra) h1⟩⟩
    | tup xs =>
      cases r1 with
      | tup ha ra => exact ⟨_, _, rfl, .inr ⟨k1.sub.sqT ha, c _ F1 H1 M1 _ _ g1 k1 (feeds_tup ha ra) h1⟩⟩
    | ref a =>
      cases r1
      unfold srcD at h1
      cases e : M1 a with
      | none => simp only [e] at h1
      | some m =>
        cases m with
        | lst xs =>
          simp only [e] at h1
          obtain ⟨_, vs, hv, rv⟩ := k1.mem a _ e
          exact ⟨a, vs, rfl, .inl ⟨SqL.of hv, c _ F1 H1 M1 _ _ g1 k1 (feeds_mut rv) h1⟩⟩
        | _ => simp only [e] at h1
    | _ => exact h1.elim
theorem sim_diRng1 {ta : TA} {da : TDA} (ha : SimA K ta da) : SimI K (iRng1 ta) (diRng1 da) := fun F H M σ Γ P R k s h c =>
  ha F H M σ Γ _ _ k s h fun vs F1 H1 M1 xs g1 k1 r1 h1 => by
    match xs, r1, h1 with
    | [], _, h1 => exact h1.elim
    | [x], r1, h1 =>
      obtain ⟨v, rfl, q1⟩ := repL1 r1
      cases x with
      | int j => cases q1; exact ⟨j, rfl, h1.1.1, h1.1.2, c _ F1 H1 M1 _ _ g1 k1 feeds_rng h1.2⟩
      | _ => exact h1.elim
    | x :: _ :: _, _, h1 => cases x <;> exact h1.elim
theorem sim_diRng2 {ta : TA} {da : TDA} (ha : SimA K ta da) : SimI K (iRng2 ta) (diRng2 da) := fun F H M σ Γ P R k s h c =>
  ha F H M σ Γ _ _ k s h fun vs F1 H1 M1 xs g1 k1 r1 h1 => by
    match xs, r1, h1 with
    | [], _, h1 => exact h1.elim
    | [x], _, h1 => cases x <;> exact h1.elim
    | [x, y], r1, h1 =>
      obtain ⟨v, w, rfl, q1, q2⟩ := repL2 r1
      cases x with
      | int i =>
        cases y with
        | int j => cases q1; cases q2; exact ⟨i, j, rfl, h1.1, c _ F1 H1 M1 _ _ g1 k1 feeds_rng h1.2⟩
        | _ => exact h1.elim
      | _ => exact h1.elim
    | x :: y :: _ :: _, _, h1 => cases x <;> first | exact h1.elim | (cases y <;> exact h1.elim)
theorem sim_diEnum {ta : TA} {da : TDA} (ha : SimA K ta da) : SimI K (iEnumA K ta) (diEnum da) := fun F H M σ Γ P R k s h c =>
  ha F H M σ Γ _ _ k s h fun vs F1 H1 M1 xs g1 k1 r1 h1 => by
    match xs, r1, h1 with
    | [], _, h1 => exact h1.elim
    | [x], r1, h1 =>
      obtain ⟨v, rfl, q1⟩ := repL1 r1
      cases x with
      | lst xs =>
        cases q1 with
        | lst ha ra => exact ⟨_, _, rfl, .inl ⟨SqL.of (k1.sub _ _ ha), c _ F1 H1 M1 _ _ g1 k1 (feeds_enumL fun F' H' M' e k' _ => ⟨_, SqL.of (k'.sub _ _ (e _ _ ha)), ra.mono e⟩) h1⟩⟩
      | scr xs =>
        cases q1 with
        | scr ha ra => exact ⟨_, _, rfl, .inl ⟨k1.sub.sqL ha, c _ F1 H1 M1 _ _ g1 k1 (feeds_enumL fun F' H' M' e k' _ => ⟨_, k'.sub.sqL (e.sqL ha), ra.mono e⟩) h1⟩⟩
      | tup xs =>
        cases q1 with
        | tup ha ra => exact ⟨_, _, rfl, .inr ⟨k1.sub.sqT ha, c _ F1 H1 M1 _ _ g1 k1 (feeds_enumT ha ra) h1⟩⟩
      | ref a =>
        cases q1
        have h1 : srcD (.ref a) M1 fun ds grd M2 => P (enumD ds) grd M2 := h1
        unfold srcD at h1
        cases e : M1 a with
        | none => simp only [e] at h1
        | some m =>
          cases m with
          | lst xs =>
            simp only [e] at h1
            obtain ⟨_, vs, hv, rv⟩ := k1.mem a _ e
            exact ⟨a, vs, rfl, .inl ⟨SqL.of hv, c _ F1 H1 M1 _ _ g1 k1 (feeds_enumL fun F' H' M' e' k' g' => by
              obtain ⟨_, ws, h3, h4⟩ := k'.mem a _ g'
              exact ⟨ws, SqL.of h3, h4⟩) h1⟩⟩
          | _ => simp only [e] at h1
      | _ => exact h1.elim
    | _ :: _ :: _, _, h1 => exact h1.elim
theorem zipD_length {xs ys : List D} : (zipD xs ys).length = min xs.length ys.length := by unfold zipD; simp
theorem zipD_get {xs ys : List D} {i : Nat} {x y : D} (h1 : xs[i]? = some x) (h2 : ys[i]? = some y) : (zipD xs ys)[i]? = some (.tup [x, y]) := by
  unfold zipD
  rw [List.getElem?_zipWith, h1, h2]
theorem sim_diZip {ta : TA} {da : TDA} (ha : SimA K ta da) : SimI K (RZ.iZipA K ta) (diZip da) := fun F H M σ Γ P R k s h c =>
  ha F H M σ Γ _ _ k s h fun vs F1 H1 M1 xs g1 k1 r1 h1 => by
    match xs, r1, h1 with
    | [], _, h1 => exact h1.elim
    | [x], _, h1 => cases x <;> exact h1.elim
    | [x, y], r1, h1 =>
      obtain ⟨v, w, rfl, q1, q2⟩ := repL2 r1
      cases x with
      | lst xs =>
        cases y with
        | lst ys =>
          cases q1 with
          | @lst a us _ ha ra =>
            cases q2 with
            | @lst b ws _ hb rb =>
              refine ⟨_, _, _, _, rfl, .inl ⟨SqL.of (k1.sub _ _ ha), SqL.of (k1.sub _ _ hb), c _ F1 H1 M1 _ _ g1 k1 ?_ h1⟩⟩
              have wz := walk_zip (K := K) (a := a) (b := b) (xs := us) (ys := ws) (n := min us.length ws.length) rfl
              have el : (zipD xs ys).length = min us.length ws.length := by rw [zipD_length, ra.length, rb.length]
              have q : ∀ F H M, Ex F1 F → Ok K F H M → SqL K H a us ∧ SqL K H b ws := fun F H M e k => ⟨SqL.of (k.sub _ _ (e _ _ ha)), SqL.of (k.sub _ _ (e _ _ hb))⟩
              refine ⟨fun F H M i e k _ hi => wz.goes i H (by rw [← el]; exact hi) (q F H M e k), fun F H M e k _ => by rw [el]; exact wz.stops H (q F H M e k), fun F H M i x H' e k _ hi y => ?_⟩
              obtain ⟨T, x1, x2, rfl, hT, hH, e1, e2⟩ := wz.yields i H x H' (by rw [← el]; exact hi) (q F H M e k) y
              obtain ⟨d1, hd1, rd1⟩ := ra.get' e1
              obtain ⟨d2, hd2, rd2⟩ := rb.get' e2
              obtain ⟨F', g', k', r'⟩ := pair_new k hT hH (rd1.mono e) (rd2.mono e)
              exact ⟨F', _, zipD_get hd1 hd2, g', k', r'⟩
        | _ => exact h1.elim
      | tup xs =>
        cases y with
        | tup ys =>
          cases q1 with
          | @tup a us _ ha ra =>
            cases q2 with
            | @tup b ws _ hb rb =>
              refine ⟨_, _, _, _, rfl, .inr ⟨k1.sub.sqT ha, k1.sub.sqT hb, c _ F1 H1 M1 _ _ g1 k1 ?_ h1⟩⟩
              have el : (zipD xs ys).length = min us.length ws.length := by rw [zipD_length, ra.length, rb.length]
              have q : ∀ F H M, Ex F1 F → Ok K F H M → SqT K H a us ∧ SqT K H b ws := fun F H M e k => ⟨k.sub.sqT (e.sqT ha), k.sub.sqT (e.sqT hb)⟩
              refine ⟨fun F H M i e k _ hi => ?_, fun F H M e k _ => ?_, fun F H M i x H' e k _ hi y => ?_⟩
              · obtain ⟨q1, q2⟩ := q F H M e k
                rw [el] at hi
                have h1 : i < us.length := by omega
                have h2 : i < ws.length := by omega
                exact ⟨us, ws, us[i], ws[i], q1, q2, by simp [h1], by simp [h2]⟩
              · obtain ⟨q1, q2⟩ := q F H M e k
                rw [el]
                exact ⟨us, ws, q1, q2, by omega⟩
              · obtain ⟨q1, q2⟩ := q F H M e k
                obtain ⟨T, x1, x2, rfl, hT, hH, e1, e2⟩ := y
                obtain ⟨d1, hd1, rd1⟩ := ra.get' (e1 us q1)
                obtain ⟨d2, hd2, rd2⟩ := rb.get' (e2 ws q2)
                obtain ⟨F', g', k', r'⟩ := pair_new k hT hH (rd1.mono e) (rd2.mono e)
                exact ⟨F', _, zipD_get hd1 hd2, g', k', r'⟩
        | _ => exact h1.elim
      | _ => exact h1.elim
    | x :: y :: _ :: _, _, h1 => cases x <;> first | exact h1.elim | (cases y <;> exact h1.elim)
variable {tg l e e2 : Expr} {tl : TE} {dl : TD} {ta : TA} {da : TDA} {p pos : Pos}
theorem pdi_any (hl : PD X l tl dl) : PDI X tg l (iAny X.K tl) (diAny dl) := ⟨pi_any hl.pe, sim_diAny hl.sim⟩
theorem pdi_rng1 (hg : Gl X "range") (hm : X.mg "range" = none) (ha : PDA X [e] ta da) (hs : starEach [e] X.env = [(false, eval e X.env)] := by rfl) : PDI X tg (.Call (.Name "range" p) [e] [] pos) (iRng1 ta) (diRng1 da) := ⟨pi_range1 hg hm ha.pe hs, sim_diRng1 ha.sim⟩
theorem pdi_rng2 (hg : Gl X "range") (hm : X.mg "range" = none) (ha : PDA X [e, e2] ta da) (hs : starEach [e, e2] X.env = [(false, eval e X.env), (false, eval e2 X.env)] := by rfl) (hs2 : starEach [e2] X.env = [(false, eval e2 X.env)] := by rfl) : PDI X tg (.Call (.Name "range" p) [e, e2] [] pos) (iRng2 ta) (diRng2 da) := ⟨pi_range2 hg hm ha.pe hs hs2, sim_diRng2 ha.sim⟩
theorem pdi_enum {elts : List Expr} {kk : Nat} {tpos : Pos} (hg : Gl X "enumerate") (hm : X.mg "enumerate" = none) (ha : PDA X [e] ta da) (hs : starEach [e] X.env = [(false, eval e X.env)] := by rfl) : PDI X (.Tuple elts kk tpos) (.Call (.Name "enumerate" p) [e] [] pos) (iEnumA X.K ta) (diEnum da) := ⟨pi_enumA hg hm ha.pe hs, sim_diEnum ha.sim⟩
theorem pdi_zip {elts : List Expr} {kk : Nat} {tpos : Pos} (hg : Gl X "zip") (hm : X.mg "zip" = none) (ha : PDA X [e, e2] ta da) (hs : starEach [e, e2] X.env = (false, eval e X.env) :: starEach [e2] X.env := by rfl) (hpl : (backTo pos (starEach [e2] X.env)).any (·.1) = false := by rfl) :
    PDI X (.Tuple elts kk tpos) (.Call (.Name "zip" p) [e, e2] [] pos) (RZ.iZipA X.K ta) (diZip da) := ⟨RZ.pi_zipA hg hm ha.pe hs hpl, sim_diZip ha.sim⟩
end

/-! ### for -/
def forL (grd : Mem → Prop) (g : TDG) (body : TDS) (E : DEnds) : List D → DE → Mem → Prop
  | [], Γ, M => grd M ∧ E.nx Γ M
  | x :: xs, Γ, M => grd M ∧ g x Γ M fun Γ1 M1 => body { E with nx := forL grd g body E xs, ct := forL grd g body E xs, bk := E.nx } Γ1 M1
def dFor (di : TDI) (g : TDG) (body : TDS) : TDS := fun E Γ M => di Γ M fun ds grd M1 => forL grd g body E ds Γ M1
section
variable {K : PySem.W.Frag} {X : Cx}
theorem sim_for {wi : TI} {di : TDI} {g : TG} {dg : TDG} {tb : TS} {db : TDS} (hi : SimI K wi di) (hg : SimG K g dg) (hb : SimS K tb db) : SimS K (tFor wi g tb) (dFor di dg db) := fun F H M σ Γ E D k s h n r b c =>
  hi F H M σ Γ _ _ k s h fun J F1 H1 M1 ds grd g1 k1 fd h1 => by
    refine ⟨fun i m σ' H' => m = ds.length - i ∧ i ≤ ds.length ∧ ∃ F' Γ' M', Go F1 H1 M1 F' H' M' ∧ Ok K F' H' M' ∧ SRel K F' σ' Γ' ∧ forL grd dg db E (ds.drop i) Γ' M',
      ⟨_, rfl, Nat.zero_le _, F1, Γ, M1, Go.refl, k1, s.mono g1.ext, by rw [List.drop_zero]; exact h1⟩, ?_⟩
    rintro i m σ' H' ⟨rfl, hi', F', Γ', M', g', k', s', h'⟩
    by_cases hlt : i < ds.length
    · have ed : ds.drop i = ds[i] :: ds.drop (i + 1) := List.drop_eq_getElem_cons hlt
      rw [ed] at h'
      obtain ⟨gd, h'⟩ := h'
      refine .inr ⟨fd.goes F' H' M' i g'.ext k' gd hlt, fun σ2 H2 => ∃ F2 Γ2 M2, Go F1 H1 M1 F2 H2 M2 ∧ Ok K F2 H2 M2 ∧ SRel K F2 σ2 Γ2 ∧ forL grd dg db E (ds.drop (i + 1)) Γ2 M2,
        fun σ2 H2 q => ⟨_, (by omega : ds.length - (i + 1) < ds.length - i), rfl, hlt, q⟩, fun x H2 y => ?_⟩
      obtain ⟨F3, d, e1, g3, k3, r3⟩ := fd.yields F' H' M' i x H2 g'.ext k' gd hlt y
      have ei : ds[i] = d := by
        have q : ds[i]? = some ds[i] := List.getElem?_eq_getElem hlt
        rw [q] at e1
        exact Option.some.inj e1
      rw [ei] at h'
      have gg := g'.trans g3
      have g0 := g1.trans gg
      refine hg F3 H2 M' x d σ' Γ' _ _ k3 (s'.mono g3.ext) r3 h' fun σ4 F4 H4 M4 Γ4 g4 k4 s4 h4 => ?_
      exact hb F4 H4 M4 σ4 Γ4 _ _ k4 s4 h4
        (fun σ5 F5 H5 M5 Γ5 g5 k5 s5 h5 => ⟨F5, Γ5, M5, (gg.trans g4).trans g5, k5, s5, h5⟩)
        (r.go (g0.trans g4))
        (n.go (g0.trans g4))
        (fun σ5 F5 H5 M5 Γ5 g5 k5 s5 h5 => ⟨F5, Γ5, M5, (gg.trans g4).trans g5, k5, s5, h5⟩)
    · have e : i = ds.length := by omega
      subst e
      rw [List.drop_length] at h'
      obtain ⟨gd, h'⟩ := h'
      exact .inl ⟨fd.stops F' H' M' g'.ext k' gd, n σ' F' H' M' Γ' (g1.trans g') k' s' h'⟩
theorem pds_for {tg iter : Expr} {body : List Stmt} {wi : TI} {di : TDI} {g : TG} {dg : TDG} {tb : TS} {db : TDS} {pos : Pos} (hp : PassesOwn (model X.prog X.w) X.A X.env X.xe) (hc : X.calm = true) (hi : PDI X tg iter wi di) (hg : PDG X tg g dg) (hb : PDSs X body tb db)
    (hs : ∀ x, foldedSetIterable iter X.env x = pure x := by intro _; rfl) : PDS X (.For tg iter body [] pos) (tFor wi g tb) (dFor di dg db) := ⟨ps_for hp hc hi.pe hg.pe hb.pe hs, sim_for hi.sim hg.sim hb.sim⟩

/-! ### while -/
def dWhile (c : TDT) (b : TDS) : TDS := fun E Γ M => ∃ W : Nat → DE → Mem → Prop, (∃ m, W m Γ M) ∧ ∀ m Γ M, W m Γ M → c Γ M fun t M1 => if t = true then ∃ N : DE → Mem → Prop, (∀ Γ' M', N Γ' M' → ∃ m', m' < m ∧ W m' Γ' M') ∧ b { E with nx := N, ct := N, bk := E.nx } Γ M1 else E.nx Γ M1
theorem sim_while {tc : TT} {dc : TDT} {tb : TS} {db : TDS} (hc : SimT K tc dc) (hb : SimS K tb db) : SimS K (tWhile tc tb) (dWhile dc db) := fun F H M σ Γ E D k s h n r b c => by
  obtain ⟨W, ⟨m0, w0⟩, turn⟩ := h
  refine ⟨fun m σ' H' => ∃ F' Γ' M', Go F H M F' H' M' ∧ Ok K F' H' M' ∧ SRel K F' σ' Γ' ∧ W m Γ' M', ⟨m0, F, Γ, M, Go.refl, k, s, w0⟩, ?_⟩
  rintro m σ' H' ⟨F', Γ', M', g', k', s', w'⟩
  refine hc F' H' M' σ' Γ' _ _ k' s' (turn m Γ' M' w') fun t F1 H1 M1 g1 k1 h1 => ?_
  have gg := g'.trans g1
  cases t with
  | true =>
    rw [if_pos rfl] at h1 ⊢
    obtain ⟨N, hN, h1⟩ := h1
    refine ⟨fun σ2 H2 => ∃ F2 Γ2 M2, Go F H M F2 H2 M2 ∧ Ok K F2 H2 M2 ∧ SRel K F2 σ2 Γ2 ∧ N Γ2 M2, fun σ2 H2 ⟨F2, Γ2, M2, q1, q2, q3, q4⟩ => ?_, ?_⟩
    · obtain ⟨m', hm, w2⟩ := hN Γ2 M2 q4
      exact ⟨m', hm, F2, Γ2, M2, q1, q2, q3, w2⟩
    · exact hb F1 H1 M1 σ' Γ' _ _ k1 (s'.mono g1.ext) h1 (fun σ5 F5 H5 M5 Γ5 g5 k5 s5 h5 => ⟨F5, Γ5, M5, gg.trans g5, k5, s5, h5⟩) (r.go gg) (n.go gg) (fun σ5 F5 H5 M5 Γ5 g5 k5 s5 h5 => ⟨F5, Γ5, M5, gg.trans g5, k5, s5, h5⟩)
  | false =>
    rw [if_neg Bool.false_ne_true] at h1 ⊢
    exact n σ' F1 H1 M1 Γ' gg k1 (s'.mono g1.ext) h1
theorem pds_while {c : Expr} {body : List Stmt} {tc : TT} {dc : TDT} {tb : TS} {db : TDS} {pos : Pos} (hp : PassesOwn (model X.prog X.w) X.A X.env X.xe) (hc : PDT X c tc dc) (hb : PDSs X body tb db) : PDS X (.While c body [] pos) (tWhile tc tb) (dWhile dc db) := ⟨ps_while hp hc.pe hb.pe, sim_while hc.sim hb.sim⟩
end

/-! ### comprehensions -/
/-- the target writes only these slots -/
def Wr (vs : List Nat) (g : TG) : Prop := ∀ v σ H (Q : L2.St → Hp → Prop), g v σ H Q → g v σ H fun σ2 H2 => L2.wipe σ2 vs = L2.wipe σ vs ∧ Q σ2 H2
def Wrs (vs : List Nat) (g : TGs) : Prop := ∀ ws σ H (Q : L2.St → Hp → Prop), g ws σ H Q → g ws σ H fun σ2 H2 => L2.wipe σ2 vs = L2.wipe σ vs ∧ Q σ2 H2
theorem wipe_set {i : Nat} {x : Option V} : ∀ {vs : List Nat} {σ : L2.St}, i ∈ vs → L2.wipe (σ.set i x) vs = L2.wipe σ vs
  | [], _, h => by cases h
  | v :: vs, σ, h => by
    show (L2.wipe (σ.set i x) vs).set v none = (L2.wipe σ vs).set v none
    by_cases hi : i ∈ vs
    · rw [wipe_set hi]
    · have e : i = v := by
        rcases List.mem_cons.mp h with q | q
        · exact q
        · exact absurd q hi
      subst e
      have aux : ∀ (ws : List Nat) (σ : L2.St), i ∉ ws → L2.wipe (σ.set i x) ws = (L2.wipe σ ws).set i x := by
        intro ws
        induction ws with
        | nil => intro σ _; rfl
        | cons w ws ih =>
          intro σ hw
          rw [List.mem_cons, not_or] at hw
          show (L2.wipe (σ.set i x) ws).set w none = ((L2.wipe σ ws).set w none).set i x
          rw [ih σ hw.2, List.set_comm _ _ hw.1]
      rw [aux vs σ hi, List.set_set]
theorem wr_name {vs : List Nat} {i : Nat} (h : i ∈ vs) : Wr vs (gName i) := fun v σ H Q q => ⟨wipe_set h, q⟩
theorem wrs_nil {vs : List Nat} : Wrs vs gNil := fun ws σ H Q q => ⟨q.1, rfl, q.2⟩
theorem wrs_cons {vs : List Nat} {g : TG} {w : TGs} {dg : TDG} (hg : Wr vs g) (hw : Wrs vs w) (mono : ∀ v σ H (Q R : L2.St → Hp → Prop), g v σ H Q → (∀ σ' H', Q σ' H' → R σ' H') → g v σ H R) : Wrs vs (gCons g w) := fun ws σ H Q q => by
  obtain ⟨v, r, rfl, q⟩ := q
  refine ⟨v, r, rfl, mono v σ H _ _ (hg v σ H _ q) fun σ' H' ⟨e, q'⟩ => ?_⟩
  have z := hw r σ' H' Q q'
  rw [← e]
  exact z
theorem gName_mono {i : Nat} : ∀ v σ H (Q R : L2.St → Hp → Prop), gName i v σ H Q → (∀ σ' H', Q σ' H' → R σ' H') → gName i v σ H R := fun v σ H Q R q h => h _ _ q
theorem wrs_name {vs : List Nat} {i : Nat} {w : TGs} (h : i ∈ vs) (hw : Wrs vs w) : Wrs vs (gCons (gName i) w) := wrs_cons (dg := dgName i) (wr_name h) hw gName_mono
theorem wr_tup {K : PySem.W.Frag} {vs : List Nat} {n : Nat} {w : TGs} (hw : Wrs vs w) : Wr vs (gTup K n w) := fun v σ H Q q => by
  obtain ⟨a, xs, e, h1, h2, q⟩ := q
  exact ⟨a, xs, e, h1, h2, hw xs σ H Q q⟩
def lcL (grd : Mem → Prop) (g : TDG) (t : TDT) (e : TD) (Γ : DE) (fin : List D → Mem → Prop) : List D → List D → Mem → Prop
  | [], acc, M => grd M ∧ fin acc M
  | x :: xs, acc, M => grd M ∧ g x Γ M fun Γ1 M1 => t Γ1 M1 fun b M2 => if b = true then e Γ1 M2 fun y M3 => acc.length < sizeLine ∧ lcL grd g t e Γ fin xs (acc ++ [y]) M3 else lcL grd g t e Γ fin xs acc M2
def dYes : TDT := fun _ M Q => Q true M
def dLc (di : TDI) (g : TDG) (t : TDT) (e : TD) (vs : List Nat) : TD := fun Γ M Q => di Γ M fun ds grd M1 => lcL grd g t e (wipeD Γ vs) (fun acc M2 => Q (.lst acc) M2) ds [] M1
def dLcM (di : TDI) (g : TDG) (t : TDT) (e : TD) (vs : List Nat) : TD := fun Γ M Q => di Γ M fun ds grd M1 => lcL grd g t e (wipeD Γ vs) (fun acc M2 => ∀ p, M2 p = none → Q (.ref p) (mput M2 p (.lst acc))) ds [] M1
structure PDTs (X : Cx) (ifs : List Expr) (t : TT) (d : TDT) : Prop where
  pe : PTs X ifs t
  sim : SimT X.K t d
section
variable {K : PySem.W.Frag} {X : Cx}
theorem pdts_nil : PDTs X [] tYes dYes := ⟨pts_nil, fun F H M σ Γ Q R k s h c => c true F H M Go.refl k h⟩
theorem pdts_one {c : Expr} {t : TT} {d : TDT} (h : PDT X c t d) : PDTs X [c] t d := ⟨pts_one h.pe, h.sim⟩
/-- an object that neither knows -/
theorem Ok.other {F H : Hp} {M : Mem} (k : Ok K F H M) {p : Addr} (hf : F p = none) (hm : M p = none) (o : HO) : Ok K F (upd H p o) M := by
  refine ⟨fun a u e => ?_, fun a u e => ?_⟩
  · rw [upd_ne (fun q => by rw [q, hf] at e; cases e)]; exact k.sub a u e
  · have ne : a ≠ p := fun q => by rw [q, hm] at e; cases e
    obtain ⟨h1, h2⟩ := k.mem a u e
    exact ⟨h1, h2.mono (Ex.refl F) (upd_ne ne)⟩
theorem lc_gen {wi : TI} {di : TDI} {g : TG} {dg : TDG} {tt : TT} {dt : TDT} {te : TE} {de : TD} {vs : List Nat} {fin : QD → List D → Mem → Prop} (hi : SimI K wi di) (hg : SimG K g dg) (hw : Wr vs g) (ht : SimT K tt dt) (he : SimE K te de)
    (hfin : ∀ F0 H0 M0 F H M (Q : QD) (R : VK) p acc ws, H0 p = none → Go F0 H0 M0 F H M → Ok K F H M → H p = some (.lst ws) → RepL K F ws acc → F p = none → M p = none → CV K F0 H0 M0 Q R → fin Q acc M → R (.ref p) H) :
    SimE K (tLc wi g tt te vs) (fun Γ M Q => di Γ M fun ds grd M1 => lcL grd dg dt de (wipeD Γ vs) (fin Q) ds [] M1) := fun F H M σ Γ Q R k s h c =>
  hi F H M σ Γ _ _ k s h fun J F1 H1 M1 ds grd g1 k1 fd h1 => fun p hp => by
    obtain ⟨hpF, hpM⟩ := k1.free hp
    have c1 := c.go g1
    have s1 := (s.mono g1.ext).wipe vs
    -- the state at a turn
    refine ⟨fun i m H' => m = ds.length - i ∧ i ≤ ds.length ∧ ∃ F' M' acc ws, Go F1 H1 M1 F' H' M' ∧ Ok K F' H' M' ∧ H' p = some (.lst ws) ∧ RepL K F' ws acc ∧ F' p = none ∧ M' p = none ∧ lcL grd dg dt de (wipeD Γ vs) (fin Q) (ds.drop i) acc M',
      ⟨_, rfl, Nat.zero_le _, F1, M1, [], [], ⟨Ex.refl _, fun a o h1 h2 h3 => ⟨by rw [upd_ne (ne_of_none h1 hp)]; exact h1, h2, h3⟩⟩, k1.other hpF hpM _, upd_same, .nil, hpF, hpM, by rw [List.drop_zero]; exact h1⟩, ?_⟩
    rintro i m H' ⟨rfl, hi', F', M', acc, ws, g', k', hp', rw', hpF', hpM', h'⟩
    by_cases hlt : i < ds.length
    · have ed : ds.drop i = ds[i] :: ds.drop (i + 1) := List.drop_eq_getElem_cons hlt
      rw [ed] at h'
      obtain ⟨gd, h'⟩ := h'
      refine .inr ⟨fd.goes F' H' M' i g'.ext k' gd hlt, fun H2 => ∃ F2 M2 acc ws, Go F1 H1 M1 F2 H2 M2 ∧ Ok K F2 H2 M2 ∧ H2 p = some (.lst ws) ∧ RepL K F2 ws acc ∧ F2 p = none ∧ M2 p = none ∧ lcL grd dg dt de (wipeD Γ vs) (fin Q) (ds.drop (i + 1)) acc M2,
        fun H2 q => ⟨_, (by omega : ds.length - (i + 1) < ds.length - i), rfl, hlt, q⟩, fun x H2 y => ?_⟩
      obtain ⟨F3, d, e1, g3, k3, r3⟩ := fd.yields F' H' M' i x H2 g'.ext k' gd hlt y
      have ei : ds[i] = d := by
        have q : ds[i]? = some ds[i] := List.getElem?_eq_getElem hlt
        rw [q] at e1
        exact Option.some.inj e1
      rw [ei] at h'
      have s3 : SRel K F3 (L2.wipe σ vs) (wipeD Γ vs) := s1.mono (g'.trans g3).ext
      have f3 := g3.fr p _ hp' hpF' hpM'
      have aux := hg F3 H2 M' x d (L2.wipe σ vs) (wipeD Γ vs) _ (fun σ2 H2' => tt σ2 H2' fun b H3 => if b = true then te σ2 H3 fun y H4 => ∃ acc, H4 p = some (.lst acc) ∧ acc.length < sizeLine ∧ (∃ F2 M2 acc' ws, Go F1 H1 M1 F2 (upd H4 p (.lst (acc ++ [y]))) M2 ∧ Ok K F2 (upd H4 p (.lst (acc ++ [y]))) M2 ∧ (upd H4 p (.lst (acc ++ [y]))) p = some (.lst ws) ∧ RepL K F2 ws acc' ∧ F2 p = none ∧ M2 p = none ∧ lcL grd dg dt de (wipeD Γ vs) (fin Q) (ds.drop (i + 1)) acc' M2)
        else (∃ F2 M2 acc ws, Go F1 H1 M1 F2 H3 M2 ∧ Ok K F2 H3 M2 ∧ H3 p = some (.lst ws) ∧ RepL K F2 ws acc ∧ F2 p = none ∧ M2 p = none ∧ lcL grd dg dt de (wipeD Γ vs) (fin Q) (ds.drop (i + 1)) acc M2)) k3 s3 r3 h' fun σ4 F4 H4 M4 Γ4 g4 k4 s4 h4 => by
          have f4 := g4.fr p _ f3.1 f3.2.1 hpM'
          refine ht F4 H4 M4 σ4 Γ4 _ _ k4 s4 h4 fun b F5 H5 M5 g5 k5 h5 => ?_
          have f5 := g5.fr p _ f4.1 f4.2.1 f4.2.2
          have gg := ((g'.trans g3).trans g4).trans g5
          cases b with
          | true =>
            rw [if_pos rfl] at h5 ⊢
            refine he F5 H5 M5 σ4 Γ4 _ _ k5 (s4.mono g5.ext) h5 fun z F6 H6 M6 dz g6 k6 r6 h6 => ?_
            have f6 := g6.fr p _ f5.1 f5.2.1 f5.2.2
            have ge := gg.trans g6
            have rw6 : RepL K F6 ws acc := rw'.mono (((g3.trans g4).trans g5).trans g6).ext
            refine ⟨ws, f6.1, by rw [rw'.length]; exact h6.1, F6, M6, acc ++ [dz], ws ++ [z], ⟨ge.ext, fun a o h1 h2 h3 => ?_⟩, k6.other f6.2.1 f6.2.2 _, upd_same, rw6.append (.cons r6 .nil), f6.2.1, f6.2.2, h6.2⟩
            have q := ge.fr a o h1 h2 h3
            exact ⟨by rw [upd_ne (ne_of_none h1 hp)]; exact q.1, q.2⟩
          | false =>
            rw [if_neg Bool.false_ne_true] at h5 ⊢
            exact ⟨F5, M5, acc, ws, gg, k5, f5.1, rw'.mono ((g3.trans g4).trans g5).ext, f5.2.1, f5.2.2, h5⟩
      have aux2 := hw x (L2.wipe σ vs) H2 _ aux
      have ew : L2.wipe (L2.wipe σ vs) vs = L2.wipe σ vs := by
        have idem : ∀ (us : List Nat) (τ : L2.St), L2.wipe (L2.wipe τ us) us = L2.wipe τ us := by
          intro us
          induction us with
          | nil => intro τ; rfl
          | cons u us ih =>
            intro τ
            show (L2.wipe ((L2.wipe τ us).set u none) us).set u none = (L2.wipe τ us).set u none
            by_cases hu : u ∈ us
            · rw [wipe_set hu, ih]
            · have aux : ∀ (ws : List Nat) (τ : L2.St), u ∉ ws → L2.wipe (τ.set u none) ws = (L2.wipe τ ws).set u none := by
                intro ws
                induction ws with
                | nil => intro τ _; rfl
                | cons w ws ih =>
                  intro τ hw
                  rw [List.mem_cons, not_or] at hw
                  show (L2.wipe (τ.set u none) ws).set w none = ((L2.wipe τ ws).set w none).set u none
                  rw [ih τ hw.2, List.set_comm _ _ hw.1]
              rw [aux us _ hu, ih, List.set_set]
        exact idem vs σ
      rw [ew] at aux2
      exact aux2
    · have e : i = ds.length := by omega
      subst e
      rw [List.drop_length] at h'
      obtain ⟨gd, h'⟩ := h'
      exact .inl ⟨fd.stops F' H' M' g'.ext k' gd, hfin F1 H1 M1 F' H' M' Q R p acc ws hp g' k' hp' rw' hpF' hpM' c1 h'⟩
theorem sim_lc {wi : TI} {di : TDI} {g : TG} {dg : TDG} {tt : TT} {dt : TDT} {te : TE} {de : TD} {vs : List Nat} (hi : SimI K wi di) (hg : SimG K g dg) (hw : Wr vs g) (ht : SimT K tt dt) (he : SimE K te de) : SimE K (tLc wi g tt te vs) (dLc di dg dt de vs) :=
  lc_gen (fin := fun Q acc M => Q (.lst acc) M) hi hg hw ht he fun F0 H0 M0 F H M Q R p acc ws h0 g k hp r hF hM c h => by
    refine c (.ref p) (upd F p (.lst ws)) H M (.lst acc) ⟨g.ext.trans (Ex.new hF), fun a o h1 h2 h3 => ?_⟩ ⟨fun a u e => ?_, fun a u e => ?_⟩ (.lst upd_same (r.mono (Ex.new hF))) h
    · have q := g.fr a o h1 h2 h3
      exact ⟨q.1, by rw [upd_ne (ne_of_none h1 h0)]; exact q.2.1, q.2.2⟩
    · by_cases z : a = p
      · subst z; rw [upd_same] at e; cases e; exact hp
      · rw [upd_ne z] at e; exact k.sub a u e
    · have ne : a ≠ p := fun z => by rw [z, hM] at e; cases e
      obtain ⟨h1, h2⟩ := k.mem a u e
      exact ⟨by rw [upd_ne ne]; exact h1, h2.mono (Ex.new hF) rfl⟩
theorem sim_lcM {wi : TI} {di : TDI} {g : TG} {dg : TDG} {tt : TT} {dt : TDT} {te : TE} {de : TD} {vs : List Nat} (hi : SimI K wi di) (hg : SimG K g dg) (hw : Wr vs g) (ht : SimT K tt dt) (he : SimE K te de) : SimE K (tLc wi g tt te vs) (dLcM di dg dt de vs) :=
  lc_gen (fin := fun Q acc M => ∀ p, M p = none → Q (.ref p) (mput M p (.lst acc))) hi hg hw ht he fun F0 H0 M0 F H M Q R p acc ws h0 g k hp r hF hM c h => by
    refine c (.ref p) F H (mput M p (.lst acc)) (.ref p) ⟨g.ext, fun a o h1 h2 h3 => ?_⟩ ⟨k.sub, fun a u e => ?_⟩ (.ref p) (h p hM)
    · have q := g.fr a o h1 h2 h3
      exact ⟨q.1, q.2.1, by rw [mput_ne (ne_of_none h1 h0)]; exact q.2.2⟩
    · by_cases z : a = p
      · subst z; rw [mput_same] at e; cases e; exact ⟨hF, ws, hp, r⟩
      · rw [mput_ne z] at e; exact k.mem a u e
end
end DL

set_option Elab.async false
set_option linter.all false
set_option maxRecDepth 100000
set_option maxHeartbeats 4000000
namespace DL
open PySem PySem.Spec PyProof.Rows L2

section
variable {X : Cx}
theorem pd_lc {elt tg iter : Expr} {ifs : List Expr} {scope : Scope} {own : List (Str × Nat)} {vs : List Nat} {pos : Pos} {wi : TI} {di : TDI} {g : TG} {dg : TDG} {tt : TT} {dt : TDT} {te : TE} {de : TD} (hc : X.calm = true) (hN : X.N.Nodup) (hi : PDI X tg iter wi di) (ok : BlkOk X.N X.env.scope scope own) (hv : own.map (·.2) = vs)
    (hg : ∀ (s : Shared) (H : Hp) (C : Addr) (cl : List (Str × Addr)) (fp : List Addr), PDG (X.blk s H scope (compEnvC scope cl C X.env) fp) tg g dg) (hw : Wr vs g)
    (ht : ∀ (s : Shared) (H : Hp) (C : Addr) (cl : List (Str × Addr)) (fp : List Addr), PDTs (X.blk s H scope (compEnvC scope cl C X.env) fp) ifs tt dt)
    (he : ∀ (s : Shared) (H : Hp) (C : Addr) (cl : List (Str × Addr)) (fp : List Addr), PD (X.blk s H scope (compEnvC scope cl C X.env) fp) elt te de) (hs : ∀ x, foldedSetIterable iter X.env x = pure x := by intro _; rfl) :
    PD X (.ListComp elt [⟨tg, iter, ifs, 0⟩] scope pos) (tLc wi g tt te vs) (dLc di dg dt de vs) := by
  subst hv
  exact ⟨pe_lc hc hN hi.pe ok (fun s H C cl fp => (hg s H C cl fp).pe) (fun s H C cl fp => (ht s H C cl fp).pe) (fun s H C cl fp => (he s H C cl fp).pe) hs,
    sim_lc hi.sim (hg X.s_0 X.H_0 0 [] []).sim hw (ht X.s_0 X.H_0 0 [] []).sim (he X.s_0 X.H_0 0 [] []).sim⟩
theorem pd_lcM {elt tg iter : Expr} {ifs : List Expr} {scope : Scope} {own : List (Str × Nat)} {vs : List Nat} {pos : Pos} {wi : TI} {di : TDI} {g : TG} {dg : TDG} {tt : TT} {dt : TDT} {te : TE} {de : TD} (hc : X.calm = true) (hN : X.N.Nodup) (hi : PDI X tg iter wi di) (ok : BlkOk X.N X.env.scope scope own) (hv : own.map (·.2) = vs)
    (hg : ∀ (s : Shared) (H : Hp) (C : Addr) (cl : List (Str × Addr)) (fp : List Addr), PDG (X.blk s H scope (compEnvC scope cl C X.env) fp) tg g dg) (hw : Wr vs g)
    (ht : ∀ (s : Shared) (H : Hp) (C : Addr) (cl : List (Str × Addr)) (fp : List Addr), PDTs (X.blk s H scope (compEnvC scope cl C X.env) fp) ifs tt dt)
    (he : ∀ (s : Shared) (H : Hp) (C : Addr) (cl : List (Str × Addr)) (fp : List Addr), PD (X.blk s H scope (compEnvC scope cl C X.env) fp) elt te de) (hs : ∀ x, foldedSetIterable iter X.env x = pure x := by intro _; rfl) :
    PD X (.ListComp elt [⟨tg, iter, ifs, 0⟩] scope pos) (tLc wi g tt te vs) (dLcM di dg dt de vs) := by
  subst hv
  exact ⟨pe_lc hc hN hi.pe ok (fun s H C cl fp => (hg s H C cl fp).pe) (fun s H C cl fp => (ht s H C cl fp).pe) (fun s H C cl fp => (he s H C cl fp).pe) hs,
    sim_lcM hi.sim (hg X.s_0 X.H_0 0 [] []).sim hw (ht X.s_0 X.H_0 0 [] []).sim (he X.s_0 X.H_0 0 [] []).sim⟩
/-- name = [..] on one line -/
theorem pds_setLc {i : Nat} {y : Str} {py : Pos} {elt tg iter : Expr} {ifs : List Expr} {scope : Scope} {own : List (Str × Nat)} {vs : List Nat} {pos spos : Pos} {wi : TI} {di : TDI} {g : TG} {dg : TDG} {tt : TT} {dt : TDT} {te : TE} {de : TD} (hc : X.calm = true) (hN : X.N.Nodup) (hy : X.N[i]? = some y) (hyl : X.env.scope.names.lookup y = some .local)
    (hsw : swapsWith (.ListComp elt [⟨tg, iter, ifs, 0⟩] scope pos) (some (.Name y py)) spos.line X.env = pure true) (hi : PDI X tg iter wi di) (ok : BlkOk X.N X.env.scope scope own) (hv : own.map (·.2) = vs)
    (hg : ∀ (s : Shared) (H : Hp) (C : Addr) (cl : List (Str × Addr)) (fp : List Addr), PDG (X.blk s H scope (compEnvC scope cl C X.env) fp) tg g dg) (hw : Wr vs g)
    (ht : ∀ (s : Shared) (H : Hp) (C : Addr) (cl : List (Str × Addr)) (fp : List Addr), PDTs (X.blk s H scope (compEnvC scope cl C X.env) fp) ifs tt dt)
    (he : ∀ (s : Shared) (H : Hp) (C : Addr) (cl : List (Str × Addr)) (fp : List Addr), PD (X.blk s H scope (compEnvC scope cl C X.env) fp) elt te de) (hs : ∀ x, foldedSetIterable iter X.env x = pure x := by intro _; rfl) :
    PDS X (.Assign [.Name y py] (.ListComp elt [⟨tg, iter, ifs, 0⟩] scope pos) spos) (tAsg (tLc wi g tt te vs) (gName i)) (dAsg (dLc di dg dt de vs) (dgName i)) := by
  subst hv
  exact ⟨ps_setLc hc hN hy hyl hsw hi.pe ok (fun s H C cl fp => (hg s H C cl fp).pe) (fun s H C cl fp => (ht s H C cl fp).pe) (fun s H C cl fp => (he s H C cl fp).pe) hs,
    sim_asg (sim_lc hi.sim (hg X.s_0 X.H_0 0 [] []).sim hw (ht X.s_0 X.H_0 0 [] []).sim (he X.s_0 X.H_0 0 [] []).sim) sim_gName⟩
theorem pds_setLcM {i : Nat} {y : Str} {py : Pos} {elt tg iter : Expr} {ifs : List Expr} {scope : Scope} {own : List (Str × Nat)} {vs : List Nat} {pos spos : Pos} {wi : TI} {di : TDI} {g : TG} {dg : TDG} {tt : TT} {dt : TDT} {te : TE} {de : TD} (hc : X.calm = true) (hN : X.N.Nodup) (hy : X.N[i]? = some y) (hyl : X.env.scope.names.lookup y = some .local)
    (hsw : swapsWith (.ListComp elt [⟨tg, iter, ifs, 0⟩] scope pos) (some (.Name y py)) spos.line X.env = pure true) (hi : PDI X tg iter wi di) (ok : BlkOk X.N X.env.scope scope own) (hv : own.map (·.2) = vs)
    (hg : ∀ (s : Shared) (H : Hp) (C : Addr) (cl : List (Str × Addr)) (fp : List Addr), PDG (X.blk s H scope (compEnvC scope cl C X.env) fp) tg g dg) (hw : Wr vs g)
    (ht : ∀ (s : Shared) (H : Hp) (C : Addr) (cl : List (Str × Addr)) (fp : List Addr), PDTs (X.blk s H scope (compEnvC scope cl C X.env) fp) ifs tt dt)
    (he : ∀ (s : Shared) (H : Hp) (C : Addr) (cl : List (Str × Addr)) (fp : List Addr), PD (X.blk s H scope (compEnvC scope cl C X.env) fp) elt te de) (hs : ∀ x, foldedSetIterable iter X.env x = pure x := by intro _; rfl) :
    PDS X (.Assign [.Name y py] (.ListComp elt [⟨tg, iter, ifs, 0⟩] scope pos) spos) (tAsg (tLc wi g tt te vs) (gName i)) (dAsg (dLcM di dg dt de vs) (dgName i)) := by
  subst hv
  exact ⟨ps_setLc hc hN hy hyl hsw hi.pe ok (fun s H C cl fp => (hg s H C cl fp).pe) (fun s H C cl fp => (ht s H C cl fp).pe) (fun s H C cl fp => (he s H C cl fp).pe) hs,
    sim_asg (sim_lcM hi.sim (hg X.s_0 X.H_0 0 [] []).sim hw (ht X.s_0 X.H_0 0 [] []).sim (he X.s_0 X.H_0 0 [] []).sim) sim_gName⟩
end

/-! ### what a def is worth, over data -/
abbrev DSp := List D → Mem → QD → Prop
def spD (K : PySem.W.Frag) (S : DSp) : Sp := fun vs H Q _ => ∃ F M ds Q0, Ok K F H M ∧ RepL K F vs ds ∧ S ds M Q0 ∧ CV K F H M Q0 Q
def dCall (S : DSp) (dds : List D) (a : TDA) : TD := fun Γ M Q => a Γ M fun ds M1 => S (ds ++ dds) M1 Q
def pick {α : Type} (ix : List Nat) (xs : List α) : List α := ix.filterMap fun i => xs[i]?
def dCallN (S : DSp) (ix : List Nat) (n m : Nat) (dds : List D) (a b : TDA) : TD := fun Γ M Q => a Γ M fun ds M1 => b Γ M1 fun es M2 => ds.length = n ∧ es.length = m ∧ S (pick ix (ds ++ (es ++ dds))) M2 Q
/-- a new instance, done when __init__ is | one that goes on changing -/
def dMake (C : Addr) (S : DSp) (dds : List D) (a : TDA) : TD := fun Γ M Q => a Γ M fun ds M1 => ∀ p, M1 p = none → S (.ref p :: (ds ++ dds)) (mput M1 p (.ins C [] [])) fun r M2 => r = .non ∧ (match M2 p with
  | some (.ins C' ns es) => Q (.obj C' ns es) (mdel M2 p)
  | _ => False)
def dMakeM (C : Addr) (S : DSp) (dds : List D) (a : TDA) : TD := fun Γ M Q => a Γ M fun ds M1 => ∀ p, M1 p = none → S (.ref p :: (ds ++ dds)) (mput M1 p (.ins C [] [])) fun r M2 => r = .non ∧ Q (.ref p) M2
def dMeth (C : Addr) (S : DSp) (dds : List D) (o : TD) (a : TDA) : TD := fun Γ M Q => o Γ M fun x M1 => (match fldsD M1 x with
  | some (C', _, _) => C' = C
  | none => False) ∧ a Γ M1 fun ds M2 => S (x :: (ds ++ dds)) M2 Q
section
variable {K : PySem.W.Frag}
theorem sim_call {S : DSp} {dvs : List V} {dds : List D} {E : XK} {ta : TA} {da : TDA} (hd : ∀ F, RepL K F dvs dds) (ha : SimA K ta da) : SimE K (tCall (spD K S) dvs E ta) (dCall S dds da) := fun F H M σ Γ Q R k s h c =>
  ha F H M σ Γ _ _ k s h fun vs F1 H1 M1 ds g1 k1 r1 h1 => ⟨F1, M1, ds ++ dds, Q, k1, r1.append (hd F1), h1, c.go g1⟩
theorem RepL.pick {F : Hp} {vs : List V} {ds : List D} (r : RepL K F vs ds) : ∀ ix : List Nat, RepL K F (DL.pick ix vs) (DL.pick ix ds)
  | [] => .nil
  | i :: ix => by
    unfold DL.pick
    rw [List.filterMap_cons, List.filterMap_cons]
    cases e : ds[i]? with
    | none =>
      have e2 : vs[i]? = none := by
        rw [List.getElem?_eq_none_iff] at e ⊢
        rw [r.length]; exact e
      rw [e2]
      exact RepL.pick r ix
    | some d =>
      obtain ⟨v, e2, rv⟩ := r.get e
      rw [e2]
      exact .cons rv (RepL.pick r ix)
theorem Vals.pick {vs : List V} {us : List Value} (r : Vals vs us) : ∀ ix : List Nat, Vals (DL.pick ix vs) (DL.pick ix us)
  | [] => .nil
  | i :: ix => by
    unfold DL.pick
    rw [List.filterMap_cons, List.filterMap_cons]
    cases e : vs[i]? with
    | none =>
      have e2 : us[i]? = none := by
        rw [List.getElem?_eq_none_iff] at e ⊢
        rw [← r.length]; exact e
      rw [e2]
      exact Vals.pick r ix
    | some d =>
      obtain ⟨v, e2, rv⟩ := r.get e
      rw [e2]
      exact .cons rv (Vals.pick r ix)
theorem sim_callN {S : DSp} {ix : List Nat} {n m : Nat} {dvs : List V} {dds : List D} {E : XK} {ta tb : TA} {da db : TDA} (hd : ∀ F, RepL K F dvs dds) (ha : SimA K ta da) (hb : SimA K tb db) :
    SimE K (tCallN n m (spD K S) (fun vs zs => pick ix (vs ++ (zs ++ dvs))) E ta tb) (dCallN S ix n m dds da db) := fun F H M σ Γ Q R k s h c =>
  ha F H M σ Γ _ _ k s h fun vs F1 H1 M1 ds g1 k1 r1 h1 => hb F1 H1 M1 σ Γ _ _ k1 (s.mono g1.ext) h1 fun zs F2 H2 M2 es g2 k2 r2 h2 =>
    ⟨by rw [r1.length]; exact h2.1, by rw [r2.length]; exact h2.2.1, F2, M2, _, Q, k2, RepL.pick ((r1.mono g2.ext).append (r2.append (hd F2))) ix, h2.2.2, (c.go g1).go g2⟩
theorem sim_make {C : Addr} {S : DSp} {dvs : List V} {dds : List D} {E : XK} {ta : TA} {da : TDA} (hd : ∀ F, RepL K F dvs dds) (ha : SimA K ta da) : SimE K (tMake C (spD K S) dvs E ta) (dMake C S dds da) := fun F H M σ Γ Q R k s h c =>
  ha F H M σ Γ _ _ k s h fun vs F1 H1 M1 ds g1 k1 r1 h1 => fun x dx hx hdx hne => by
    obtain ⟨xF, xM⟩ := k1.free hx
    obtain ⟨dF, dM⟩ := k1.free hdx
    have k2 := k1.other dF dM (.own x)
    have hx2 : upd H1 dx (.own x) x = none := by rw [upd_ne hne.symm]; exact hx
    have k3 : Ok K F1 (upd (upd H1 dx (.own x)) x (.ins C dx [])) (mput M1 x (.ins C [] [])) := k2.newM (m := .ins C [] []) hx2 ⟨dx, [], upd_same, rfl, .nil⟩
    have g3 : Go F1 H1 M1 F1 (upd (upd H1 dx (.own x)) x (.ins C dx [])) (mput M1 x (.ins C [] [])) := ⟨Ex.refl _, fun a o h1 h2 h3 => ⟨by rw [upd_ne (ne_of_none h1 hx), upd_ne (ne_of_none h1 hdx)]; exact h1, h2, by rw [mput_ne (ne_of_none h1 hx)]; exact h3⟩⟩
    refine ⟨F1, _, _, _, k3, .cons (.ref x) (r1.append (hd F1)), h1 x xM, fun v F' H' M' r g k' rv q => ?_⟩
    obtain ⟨rfl, q⟩ := q
    cases rv
    refine ⟨rfl, ?_⟩
    cases e : M' x with
    | none => simp only [e] at q
    | some m =>
      cases m with
      | ins C' ns es =>
        simp only [e] at q
        obtain ⟨dx', fs, e1, k4, g4, r4⟩ := k'.freezeI e
        exact c _ _ _ _ _ (((g1.trans g3).trans g).trans g4) k4 r4 q
      | _ => simp only [e] at q
theorem sim_makeM {C : Addr} {S : DSp} {dvs : List V} {dds : List D} {E : XK} {ta : TA} {da : TDA} (hd : ∀ F, RepL K F dvs dds) (ha : SimA K ta da) : SimE K (tMake C (spD K S) dvs E ta) (dMakeM C S dds da) := fun F H M σ Γ Q R k s h c =>
  ha F H M σ Γ _ _ k s h fun vs F1 H1 M1 ds g1 k1 r1 h1 => fun x dx hx hdx hne => by
    obtain ⟨xF, xM⟩ := k1.free hx
    obtain ⟨dF, dM⟩ := k1.free hdx
    have k2 := k1.other dF dM (.own x)
    have hx2 : upd H1 dx (.own x) x = none := by rw [upd_ne hne.symm]; exact hx
    have k3 : Ok K F1 (upd (upd H1 dx (.own x)) x (.ins C dx [])) (mput M1 x (.ins C [] [])) := k2.newM (m := .ins C [] []) hx2 ⟨dx, [], upd_same, rfl, .nil⟩
    have g3 : Go F1 H1 M1 F1 (upd (upd H1 dx (.own x)) x (.ins C dx [])) (mput M1 x (.ins C [] [])) := ⟨Ex.refl _, fun a o h1 h2 h3 => ⟨by rw [upd_ne (ne_of_none h1 hx), upd_ne (ne_of_none h1 hdx)]; exact h1, h2, by rw [mput_ne (ne_of_none h1 hx)]; exact h3⟩⟩
    refine ⟨F1, _, _, _, k3, .cons (.ref x) (r1.append (hd F1)), h1 x xM, fun v F' H' M' r g k' rv q => ?_⟩
    obtain ⟨rfl, q⟩ := q
    cases rv
    exact ⟨rfl, c _ _ _ _ _ ((g1.trans g3).trans g) k' (.ref x) q⟩
variable {X : Cx} {k : Nat} {f C : Addr} {fd : FuncData} {ps ks : List Str} {S : DSp} {dvs : List V} {dds : List D} {ds : List Value} {x : Str} {p pos : Pos} {e : Expr} {es : List Expr} {kws : List Keyword} {t tk : TA} {d dk : TDA}
theorem pd_call (F : FnOk X.prog X.w X.K X.mg X.base CX0 k f fd ps (spD X.K S)) (hr : Room k X.A) (hg : Gl X x) (hm : X.mg x = some (.ref f)) (hk : PySem.W.keepIn X.K (.ref f) = true) (hb : Binds X.K fd ps ds) (hd : Vals dvs ds) (hdd : ∀ F, RepL X.K F dvs dds)
    (ha : PDA X (e :: es) t d) (hdb : (x == ("__debug__" : Str)) = false := by decide) (he : starEach (e :: es) X.env = (false, eval e X.env) :: starEach es X.env := by rfl) (hpl : (backTo pos (starEach es X.env)).any (·.1) = false := by rfl) :
    PD X (.Call (.Name x p) (e :: es) [] pos) (tCall (spD X.K S) dvs E0 t) (dCall S dds d) := ⟨pe_call F hr hg hm hk hb hd pass0 ha.pe hdb he hpl, sim_call hdd ha.sim⟩
theorem pd_call0 (F : FnOk X.prog X.w X.K X.mg X.base CX0 k f fd ps (spD X.K S)) (hr : Room k X.A) (hg : Gl X x) (hm : X.mg x = some (.ref f)) (hk : PySem.W.keepIn X.K (.ref f) = true) (hb : Binds X.K fd ps ds) (hd : Vals dvs ds) (hdd : ∀ F, RepL X.K F dvs dds)
    (hdb : (x == ("__debug__" : Str)) = false := by decide) : PD X (.Call (.Name x p) [] [] pos) (tCall (spD X.K S) dvs E0 tNil) (dCall S dds dNil) := ⟨pe_call0 F hr hg hm hk hb hd pass0 hdb, sim_call hdd sim_nil⟩
theorem pd_make (Mk0 : Mk X.K C f) (F : FnOk X.prog X.w X.K X.mg X.base CX0 k f fd ps (spD X.K S)) (hr : Room (k + 1) X.A) (hg : Gl X x) (hm : X.mg x = some (.ref C)) (hb : Binds X.K fd ps ds) (hd : Vals dvs ds) (hdd : ∀ F, RepL X.K F dvs dds)
    (ha : PDA X (e :: es) t d) (hdb : (x == ("__debug__" : Str)) = false := by decide) (he : starEach (e :: es) X.env = (false, eval e X.env) :: starEach es X.env := by rfl) (hpl : (backTo pos (starEach es X.env)).any (·.1) = false := by rfl) :
    PD X (.Call (.Name x p) (e :: es) [] pos) (tMake C (spD X.K S) dvs E0 t) (dMake C S dds d) := ⟨pe_make Mk0 F hr hg hm hb hd pass0 ha.pe hdb he hpl, sim_make hdd ha.sim⟩
theorem pd_makeM (Mk0 : Mk X.K C f) (F : FnOk X.prog X.w X.K X.mg X.base CX0 k f fd ps (spD X.K S)) (hr : Room (k + 1) X.A) (hg : Gl X x) (hm : X.mg x = some (.ref C)) (hb : Binds X.K fd ps ds) (hd : Vals dvs ds) (hdd : ∀ F, RepL X.K F dvs dds)
    (ha : PDA X (e :: es) t d) (hdb : (x == ("__debug__" : Str)) = false := by decide) (he : starEach (e :: es) X.env = (false, eval e X.env) :: starEach es X.env := by rfl) (hpl : (backTo pos (starEach es X.env)).any (·.1) = false := by rfl) :
    PD X (.Call (.Name x p) (e :: es) [] pos) (tMake C (spD X.K S) dvs E0 t) (dMakeM C S dds d) := ⟨pe_make Mk0 F hr hg hm hb hd pass0 ha.pe hdb he hpl, sim_makeM hdd ha.sim⟩
/-- keywords' values -/
structure PDK (X : Cx) (kws : List Keyword) (t : TA) (d : TDA) : Prop where
  pe : PK X kws t
  sim : SimA X.K t d
theorem pdk_nil : PDK X [] tNil dNil := ⟨pk_nil, sim_nil⟩
theorem pdk_cons {nm : Option Str} {kpos : Pos} {te : TE} {de : TD} (ha : PD X e te de) (hr : PDK X kws t d) : PDK X (⟨nm, e, kpos⟩ :: kws) (tCons te t) (dCons de d) := ⟨pk_cons ha.pe hr.pe, sim_cons ha.sim hr.sim⟩
theorem pe_callN0 {sp : Sp} {E : XK} {CX : CXT} {g : List Value → List Value → List Value} {gV : List V → List V → List V} (F : FnOk X.prog X.w X.K X.mg X.base CX k f fd ps sp) (hr : Room k X.A) (hg : Gl X x) (hm : X.mg x = some (.ref f)) (hk : PySem.W.keepIn X.K (.ref f) = true) (hb : KBn X.K fd ps 0 ks g gV) (hx : Passes CX X E)
    (hkw : PK X kws tk) (hall : (backToKw pos (keywordEach kws X.env)).all (·.1.isSome) = true := by rfl) (hks : (backToKw pos (keywordEach kws X.env)).filterMap (·.1) = ks := by rfl)
    (hdb : (x == ("__debug__" : Str)) = false := by decide)
    (hpl : ((backTo pos (starEach [] X.env)).any (·.1) || (backToKw pos (keywordEach kws X.env)).any (·.1.isNone)) = false := by rfl) :
    PE X (.Call (.Name x p) [] kws pos) (tCallN 0 ks.length sp gV E tNil tk) := by
  refine ⟨fun pins s σ H Q I h => ?_⟩
  refine wpAny_Call_Name_kw (ld_glob I hg hm ?_ hdb)
  refine PySem.W.callWith_KW0 (h₀ := X.base) I.ok.mod.kin hk hall (thn (hkw.run pos pins s σ H _ I h) fun ws s2 ⟨zs, H2, I2, rz, l1, l2, q2⟩ => ⟨I2.kIn, ?_⟩) hpl
  rw [hks]
  exact run_fnN (us := []) F hr hb hx I2 .nil rz l1 l2 q2
theorem pd_callN {n : Nat} {ix : List Nat} {its : List Value} (F : FnOk X.prog X.w X.K X.mg X.base CX0 k f fd ps (spD X.K S)) (hr : Room k X.A) (hg : Gl X x) (hm : X.mg x = some (.ref f)) (hk : PySem.W.keepIn X.K (.ref f) = true) (hb : KBn X.K fd ps n ks (fun us ws => pick ix (us ++ (ws ++ its))) (fun vs zs => pick ix (vs ++ (zs ++ dvs)))) (hdd : ∀ F, RepL X.K F dvs dds)
    (ha : PDA X (e :: es) t d) (hkw : PDK X kws tk dk) (hall : (backToKw pos (keywordEach kws X.env)).all (·.1.isSome) = true := by rfl) (hks : (backToKw pos (keywordEach kws X.env)).filterMap (·.1) = ks := by rfl)
    (hdb : (x == ("__debug__" : Str)) = false := by decide) (he : starEach (e :: es) X.env = (false, eval e X.env) :: starEach es X.env := by rfl)
    (hpl : ((backTo pos (starEach (e :: es) X.env)).any (·.1) || (backToKw pos (keywordEach kws X.env)).any (·.1.isNone)) = false := by rfl) :
    PD X (.Call (.Name x p) (e :: es) kws pos) (tCallN n ks.length (spD X.K S) (fun vs zs => pick ix (vs ++ (zs ++ dvs))) E0 t tk) (dCallN S ix n ks.length dds d dk) :=
  ⟨pe_callN F hr hg hm hk hb pass0 ha.pe hkw.pe hall hks hdb he hpl, sim_callN hdd ha.sim hkw.sim⟩
theorem pd_callN0 {ix : List Nat} {its : List Value} (F : FnOk X.prog X.w X.K X.mg X.base CX0 k f fd ps (spD X.K S)) (hr : Room k X.A) (hg : Gl X x) (hm : X.mg x = some (.ref f)) (hk : PySem.W.keepIn X.K (.ref f) = true) (hb : KBn X.K fd ps 0 ks (fun us ws => pick ix (us ++ (ws ++ its))) (fun vs zs => pick ix (vs ++ (zs ++ dvs)))) (hdd : ∀ F, RepL X.K F dvs dds)
    (hkw : PDK X kws tk dk) (hall : (backToKw pos (keywordEach kws X.env)).all (·.1.isSome) = true := by rfl) (hks : (backToKw pos (keywordEach kws X.env)).filterMap (·.1) = ks := by rfl)
    (hdb : (x == ("__debug__" : Str)) = false := by decide)
    (hpl : ((backTo pos (starEach [] X.env)).any (·.1) || (backToKw pos (keywordEach kws X.env)).any (·.1.isNone)) = false := by rfl) :
    PD X (.Call (.Name x p) [] kws pos) (tCallN 0 ks.length (spD X.K S) (fun vs zs => pick ix (vs ++ (zs ++ dvs))) E0 tNil tk) (dCallN S ix 0 ks.length dds dNil dk) :=
  ⟨pe_callN0 F hr hg hm hk hb pass0 hkw.pe hall hks hdb hpl, sim_callN hdd sim_nil hkw.sim⟩
end

/-! ### a def, by its body over data -/
section
variable {P : Program} {w : World} {K : PySem.W.Frag} {mg : Str → Option Value} {base : Heap} {x qual : Str} {pa : Arguments} {body : List Stmt} {scope : Scope} {dvs : List V} {kws : List (Str × V)} {f : Addr} {fd : FuncData}
theorem fn_d {N ps : List Str} {k : Nat} {S : DSp} {d : TDS} (F : FunD K x qual pa body scope dvs kws f fd) (Sc : FnScope N ps scope) (len : ∀ ds M Q, S ds M Q → ds.length = ps.length)
    (hbody : ∀ (cdv : Value) (A : Around) (outer : List Env) (s : Shared) (H : Hp) (E : XK), Room k (A.deeper (envOfC qual scope s.heap.objs.size f cdv)) → ∃ t, PDSs (cxOf CX0 P w K mg base N qual scope f cdv A outer s H E).nox body t d)
    (hsem : ∀ ds M Q, S ds M Q → d { nx := fun _ M => Q .non M, rt := Q } (startD N ds) M) : FnOk P w K mg base CX0 (k + 1) f fd ps (spD K S) := by
  refine F.ok Sc (fun vs H Q E h => ?_) (fun cdv A outer s H vs Q E hr h => ?_)
  · obtain ⟨F, M, ds, Q0, _, r, h, _⟩ := h
    rw [r.length]
    exact len ds M Q0 h
  · obtain ⟨t, q⟩ := hbody cdv A outer s H E hr
    refine ⟨t, q.pe.nox, ?_⟩
    obtain ⟨F, M, ds, Q0, k, r, h, c⟩ := h
    exact q.sim F H M (L2.start N vs) (startD N ds) _ _ k (SRel.start r) (hsem ds M Q0 h) (fun σ F' H' M' Γ g k' s h => c .non F' H' M' .non g k' .non h) c
      (fun σ F' H' M' Γ g k' s h => h.elim) (fun σ F' H' M' Γ g k' s h => h.elim)
/-- how arguments come to parameters: all written; the defaults from the j-th on fill up -/
theorem bind_all {ps : List Str} (F : FunD K x qual pa body scope [] [] f fd)
    (h : ∀ (kV doc pm : Value) (an : Option Addr) (cdv ct : Value) (us : List Value), us.length = ps.length → bindArgs (PySem.W.fnOf x qual pa body scope .none kV doc pm an cdv ct) ⟨us, []⟩ = pure (ps.zip us)) : Binds K fd ps [] := F.bindsN h
/-- by keywords, no defaults: ix tells for each parameter its place among the values written -/
theorem kbind_all {ps ks : List Str} {n : Nat} {ix : List Nat} (F : FunD K x qual pa body scope [] [] f fd)
    (h : ∀ (kV doc pm : Value) (an : Option Addr) (cdv ct : Value) (us ws : List Value), us.length = n → ws.length = ks.length → bindArgs (PySem.W.fnOf x qual pa body scope .none kV doc pm an cdv ct) ⟨us, ks.zip ws⟩ = pure (ps.zip (pick ix (us ++ (ws ++ []))))) :
    KBn K fd ps n ks (fun us ws => pick ix (us ++ (ws ++ ([] : List Value)))) (fun vs zs => pick ix (vs ++ (zs ++ ([] : List V)))) := by
  obtain ⟨oc, od, dV, kV, doc, pm, an, cdv, ct, osl, rfl, lk, hcd, hD, hK⟩ := F.ex
  rcases hD with ⟨_, rfl⟩ | ⟨e, _⟩
  · exact ⟨fun s us ws X l1 l2 => .of_eq (h kV doc pm an cdv ct us ws l1 l2), fun r1 r2 => Vals.pick (r1.append (r2.append .nil)) ix⟩
  · exact absurd rfl e
/-- by keywords, with defaults -/
theorem kbind_dfl {ps ks : List Str} {n : Nat} {ix : List Nat} (F : FunD K x qual pa body scope dvs [] f fd) (hd : dvs ≠ [])
    (h : ∀ (T : Addr) (kV doc pm : Value) (an : Option Addr) (cdv ct : Value) (us ws its : List Value), us.length = n → ws.length = ks.length → its.length = dvs.length →
      ∃ k, bindArgs (PySem.W.fnOf x qual pa body scope (.ref T) kV doc pm an cdv ct) ⟨us, ks.zip ws⟩ = seqItems? (.ref T) >>= k ∧ k (some its.toArray) = pure (ps.zip (pick ix (us ++ (ws ++ its))))) :
    ∃ its, KBn K fd ps n ks (fun us ws => pick ix (us ++ (ws ++ its))) (fun vs zs => pick ix (vs ++ (zs ++ dvs))) := by
  obtain ⟨oc, od, dV, kV, doc, pm, an, cdv, ct, osl, rfl, lk, hcd, hD, hK⟩ := F.ex
  rcases hD with ⟨e, _⟩ | ⟨_, T, o, its, m, rfl, lT, oT, rT⟩
  · exact absurd e hd
  · refine ⟨its, fun s us ws X l1 l2 => ?_, fun r1 r2 => Vals.pick (r1.append (r2.append rT)) ix⟩
    obtain ⟨k, e1, e2⟩ := h T kV doc pm an cdv ct us ws its l1 l2 rT.length.symm
    refine BindsTo.of_looks fun M => ?_
    rw [e1]
    exact looks_items X lT oT (.of_pure e2)
end

/-! ### isinstance, tuple(range(..)), list(range(..)) -/
def tyNm : D → Option String
  | .non => some "NoneType"
  | .bl _ => some "bool"
  | .int _ => some "int"
  | .str _ => some "str"
  | .tup _ => some "tuple"
  | .lst _ => some "list"
  | .scr _ => some "list"
  | _ => none
/-- whether a built-in type is below another one, of those that stand here -/
def isA (a b : String) : Bool := a == b || (a == "bool" && b == "int")
def isiD : RCD := fun xs M Q => match xs with
  | [x, .ty n] => (match tyNm (view M x) with
    | some a => kitB a n = some (isA a n) ∧ Q (.bl (isA a n)) M
    | none => False)
  | _ => False
section
variable {K : PySem.W.Frag}
theorem rep_ty {F H : Hp} {M : Mem} (k : Ok K F H M) {v : V} {x : D} (r : Rep K F v x) {a : String} (e : tyNm (view M x) = some a) : TyX K H v (.type a) := by
  have q := k.view r
  cases h : view M x with
  | non => rw [h] at e q; cases e; cases q; exact .base .non
  | bl b => rw [h] at e q; cases e; cases q; exact .base (.bl b)
  | int i => rw [h] at e q; cases e; cases q; exact .base (.int i)
  | str z => rw [h] at e q; cases e; cases q; exact .base (.str z)
  | lst xs =>
    rw [h] at e q; cases e
    cases q with
    | lst h1 h2 => exact .base (.lst h1)
  | tup xs =>
    rw [h] at e q; cases e
    cases q with
    | tup h1 h2 =>
      rcases h1 with (h1 | ⟨o, h1⟩) | ⟨o, its, n, h1, h2, _⟩
      · exact .base (.tup h1)
      · exact .fTuple h1
      · exact .kTuple h1 h2
  | scr xs =>
    rw [h] at e q; cases e
    cases q with
    | scr h1 h2 =>
      rcases h1 with (h1 | ⟨o, h1⟩) | ⟨o, its, n, h1, h2, _⟩
      · exact .base (.lst h1)
      · exact .base (.frz h1)
      · exact .kList h1 h2
  | ty n => rw [h] at e; cases e
  | obj C ns ds => rw [h] at e; cases e
  | ref a => rw [h] at e; cases e
theorem sc_isi : SimC K (rIsi K) isiD := by
  intro F H M vs xs Q R k r h c
  match xs, r, h with
  | [], _, h => exact h.elim
  | [x], _, h => exact h.elim
  | [x, y], r, h =>
    obtain ⟨v, w, rfl, q1, q2⟩ := repL2 r
    unfold isiD at h
    cases y with
    | ty n =>
      cases q2
      cases e : tyNm (view M x) with
      | none => simp only [e] at h
      | some a =>
        simp only [e] at h
        exact ⟨v, .ty n, .type a, .type n, isA a n, rfl, .ty n, rep_ty k q1 e, kit_ty h.1, c _ F H M _ Go.refl k (.bl _) h.2⟩
    | _ => exact h.elim
  | _ :: y :: _ :: _, _, h => cases y <;> exact h.elim
/-- isinstance(x, (T1, T2)) -/
def dIsi2 (n1 n2 : String) (a : TD) : TD := fun Γ M Q => a Γ M fun x M1 => match tyNm (view M1 x) with
  | some t => kitB t n1 = some (isA t n1) ∧ kitB t n2 = some (isA t n2) ∧ Q (.bl (isA t n1 || isA t n2)) M1
  | none => False
theorem sim_isi2 {n1 n2 : String} {ta : TE} {da : TD} (ha : SimE K ta da) : SimE K (tCB (rIsiT K) (tCons ta (tCons (tTup (tCons (tC (.ty n1)) (tCons (tC (.ty n2)) tNil))) tNil))) (dIsi2 n1 n2 da) := fun F H M σ Γ Q R k s h c =>
  ha F H M σ Γ _ _ k s h fun v F1 H1 M1 x g1 k1 r1 h1 => by
    cases e : tyNm (view M1 x) with
    | none => simp only [e] at h1
    | some t =>
      simp only [e] at h1
      refine ⟨by show 2 ≤ sizeLine; decide, fun p hp => ?_⟩
      have k2 := k1.newF hp (.tup [.ty n1, .ty n2])
      have g2 := k1.goF hp (.tup [.ty n1, .ty n2])
      refine ⟨v, p, [.ty n1, .ty n2], .type t, [.type n1, .type n2], isA t n1 || isA t n2, rfl, upd_same, .cons (.ty n1) (.cons (.ty n2) .nil), rep_ty k2 (r1.mono g2.ext) e, ?_, c _ _ _ _ _ (g1.trans g2) k2 (.bl _) h1.2.2⟩
      refine kitAny_cons (kit_ty h1.1) (fun e1 => ?_) (fun e1 => by rw [e1]; rfl)
      rw [e1, Bool.false_or]
      refine kitAny_cons (kit_ty h1.2.1) (fun e2 => ?_) (fun e2 => e2)
      rw [e2]
      rfl
def dTupRg1 (a : TD) : TD := fun Γ M Q => a Γ M fun x M1 => match x with
  | .int n => RgOk 0 n ∧ Q (.tup (rngD 0 n.toNat)) M1
  | _ => False
def dTupRg2 (a b : TD) : TD := fun Γ M Q => a Γ M fun x M1 => b Γ M1 fun y M2 => match x, y with
  | .int i, .int j => RgOk i j ∧ Q (.tup (rngD i (j - i).toNat)) M2
  | _, _ => False
def dLstRg1 (a : TD) : TD := fun Γ M Q => a Γ M fun x M1 => match x with
  | .int n => RgOk 0 n ∧ Q (.lst (rngD 0 n.toNat)) M1
  | _ => False
def dLstRg2 (a b : TD) : TD := fun Γ M Q => a Γ M fun x M1 => b Γ M1 fun y M2 => match x, y with
  | .int i, .int j => RgOk i j ∧ Q (.lst (rngD i (j - i).toNat)) M2
  | _, _ => False
theorem repL_rng {F : Hp} {i j : Int} : RepL K F (rgV i j) (rngD i (j - i).toNat) := by
  unfold rgV rngD
  generalize (List.range (j - i).toNat) = l
  induction l with
  | nil => exact .nil
  | cons a l ih => exact .cons (.int _) ih
theorem sim_tupRg1 {ta : TE} {da : TD} (ha : SimE K ta da) : SimE K (tTupRg (tRg1 ta)) (dTupRg1 da) := fun F H M σ Γ Q R k s h c =>
  ha F H M σ Γ _ _ k s h fun v F1 H1 M1 x g1 k1 r1 h1 => by
    cases x with
    | int n =>
      cases r1
      refine ⟨n, rfl, h1.1, new_tup k1 (repL_rng (i := 0)) ?_ (c.go g1)⟩
      rw [Int.sub_zero]
      exact h1.2
    | _ => exact h1.elim
theorem sim_tupRg2 {ta tb : TE} {da db : TD} (ha : SimE K ta da) (hb : SimE K tb db) : SimE K (tTupRg (tRg2 ta tb)) (dTupRg2 da db) := fun F H M σ Γ Q R k s h c =>
  ha F H M σ Γ _ _ k s h fun v F1 H1 M1 x g1 k1 r1 h1 => hb F1 H1 M1 σ Γ _ _ k1 (s.mono g1.ext) h1 fun w F2 H2 M2 y g2 k2 r2 h2 => by
    cases x with
    | int i =>
      cases y with
      | int j => cases r1; cases r2; exact ⟨i, j, rfl, rfl, h2.1, new_tup k2 repL_rng h2.2 ((c.go g1).go g2)⟩
      | _ => exact h2.elim
    | _ => exact h2.elim
theorem sim_lstRg1 {ta : TE} {da : TD} (ha : SimE K ta da) : SimE K (tLstRg (tRg1 ta)) (dLstRg1 da) := fun F H M σ Γ Q R k s h c =>
  ha F H M σ Γ _ _ k s h fun v F1 H1 M1 x g1 k1 r1 h1 => by
    cases x with
    | int n =>
      cases r1
      refine ⟨n, rfl, h1.1, new_lst k1 (repL_rng (i := 0)) ?_ (c.go g1)⟩
      rw [Int.sub_zero]
      exact h1.2
    | _ => exact h1.elim
theorem sim_lstRg2 {ta tb : TE} {da db : TD} (ha : SimE K ta da) (hb : SimE K tb db) : SimE K (tLstRg (tRg2 ta tb)) (dLstRg2 da db) := fun F H M σ Γ Q R k s h c =>
  ha F H M σ Γ _ _ k s h fun v F1 H1 M1 x g1 k1 r1 h1 => hb F1 H1 M1 σ Γ _ _ k1 (s.mono g1.ext) h1 fun w F2 H2 M2 y g2 k2 r2 h2 => by
    cases x with
    | int i =>
      cases y with
      | int j => cases r1; cases r2; exact ⟨i, j, rfl, rfl, h2.1, new_lst k2 repL_rng h2.2 ((c.go g1).go g2)⟩
      | _ => exact h2.elim
    | _ => exact h2.elim
end
end DL

set_option Elab.async false
set_option linter.all false
set_option maxRecDepth 100000
set_option maxHeartbeats 4000000
namespace DL
open PySem PySem.Spec PyProof.Rows L2

theorem hu64 {A : Around} {k : Nat} (hr : Room k A) : A.units + 64 < cLine := by have := hr.un; omega
def iaddD : R2D := fun x y M Q => match x, y with
  | .int i, .int j => Q (.int (i + j)) M
  | _, _ => False
section
variable {X : Cx}
theorem oop_lt : OpR X (compareOp .Lt) (rI0 fun i j => .bl (decide (i < j))) := op_lt
theorem oop_le : OpR X (compareOp .LtE) (rI0 fun i j => .bl (decide (i ≤ j))) := op_le
theorem oop_gt : OpR X (compareOp .Gt) (rI0 fun i j => .bl (decide (j < i))) := op_gt
theorem oop_ge : OpR X (compareOp .GtE) (rI0 fun i j => .bl (decide (j ≤ i))) := op_ge
/-! the shapes that the printer writes -/
variable {o e a b c : Expr} {es : List Expr} {to te ta tb tc : TE} {do_ de da db dc : TD} {t : TA} {d : TDA} {apos cpos pos p : Pos}
theorem pd_app' (ho : PD X o to do_) (ha : PDA X (e :: es) t d) (hbase : attributeBase o "append" X.env (eval o X.env) = eval o X.env := by rfl)
    (hfew : ((backTo cpos (starEach (e :: es) X.env)).all (fun x => !x.1) && (backToKw cpos (keywordEach [] X.env)).all (fun x => x.1.isSome)
      && decide ((e :: es).length + ([] : List Keyword).length + (if ([] : List Keyword).isEmpty then 0 else 1) < 30)) = true := by rfl) (hline : (apos.endLine == cpos.line) = true := by rfl)
    (he : starEach (e :: es) X.env = (false, eval e X.env) :: starEach es X.env := by rfl) (hpl : (backTo cpos (starEach es X.env)).any (·.1) = false := by rfl) :
    PD X (.Call (.Attribute o "append" apos) (e :: es) [] cpos) (tBM X.K "list" rAppend to t) (dBM appD do_ d) :=
  pd_app (pe_bm PySem.F.plainAttrs_list PySem.F.slot_list_append PySem.F.type_list_append mt_append ho.pe ha.pe hbase hfew hline he hpl) ho.sim ha.sim
theorem pd_popAt' (ho : PD X o to do_) (ha : PDA X (e :: es) t d) (hbase : attributeBase o "pop" X.env (eval o X.env) = eval o X.env := by rfl)
    (hfew : ((backTo cpos (starEach (e :: es) X.env)).all (fun x => !x.1) && (backToKw cpos (keywordEach [] X.env)).all (fun x => x.1.isSome)
      && decide ((e :: es).length + ([] : List Keyword).length + (if ([] : List Keyword).isEmpty then 0 else 1) < 30)) = true := by rfl) (hline : (apos.endLine == cpos.line) = true := by rfl)
    (he : starEach (e :: es) X.env = (false, eval e X.env) :: starEach es X.env := by rfl) (hpl : (backTo cpos (starEach es X.env)).any (·.1) = false := by rfl) :
    PD X (.Call (.Attribute o "pop" apos) (e :: es) [] cpos) (tBM X.K "list" rPopAt to t) (dBM popAtD do_ d) :=
  pd_popAt (pe_bm PySem.F.plainAttrs_list PySem.F.slot_list_pop PySem.F.type_list_pop mt_popAt ho.pe ha.pe hbase hfew hline he hpl) ho.sim ha.sim
theorem pd_pop' (ho : PD X o to do_) (hbase : attributeBase o "pop" X.env (eval o X.env) = eval o X.env := by rfl) (hline : (apos.endLine == cpos.line) = true := by rfl) :
    PD X (.Call (.Attribute o "pop" apos) [] [] cpos) (tBM0 X.K "list" rPop to) (dBM0 popD do_) :=
  pd_pop (pe_bm0 PySem.F.plainAttrs_list PySem.F.slot_list_pop PySem.F.type_list_pop mt_pop ho.pe hbase hline) ho.sim
theorem sim_aug {K : PySem.W.Frag} {i : Nat} {f : Int → Int → Int} {dr : R2D} (hr : ∀ x y M Q, dr x y M Q → ∃ i j, x = .int i ∧ y = .int j ∧ Q (.int (f i j)) M) (he : SimE K te de) : SimS K (tAug i te (ipI f)) (dAug i dr de) := fun F H M σ Γ E D k s h n r b c => by
  obtain ⟨x, e1, h⟩ := look_of h
  obtain ⟨v, e2, rv⟩ := s.get i x e1
  refine ⟨v, e2, he F H M σ Γ _ _ k s h fun w F1 H1 M1 y g1 k1 r1 h1 => ?_⟩
  obtain ⟨a, b, rfl, rfl, h2⟩ := hr _ _ _ _ h1
  cases rv
  cases r1
  exact ⟨a, b, rfl, rfl, n _ F1 H1 M1 _ g1 k1 ((s.mono g1.ext).set i (.int _)) h2⟩
theorem iadd_of (x y : D) (M : Mem) (Q : QD) (h : iaddD x y M Q) : ∃ i j, x = .int i ∧ y = .int j ∧ Q (.int (i + j)) M := by
  cases x with
  | int i =>
    cases y with
    | int j => exact ⟨i, j, rfl, rfl, h⟩
    | _ => exact h.elim
  | _ => exact h.elim
theorem isub_of (x y : D) (M : Mem) (Q : QD) (h : subD x y M Q) : ∃ i j, x = .int i ∧ y = .int j ∧ Q (.int (i - j)) M := by
  cases x with
  | int i =>
    cases y with
    | int j => exact ⟨i, j, rfl, rfl, h⟩
    | _ => exact h.elim
  | _ => exact h.elim
theorem pds_augAdd {i : Nat} {x : Str} {pos' : Pos} (hN : X.N.Nodup) (hi : X.N[i]? = some x) (hx : Loc X.env.scope x) (he : PD X e te de) (hf : X.fn x = true ∨ X.env.scope.names.lookup x = some .local := by first | exact .inl rfl | exact .inr rfl | assumption) :
    PDS X (.AugAssign (.Name x pos') .Add e pos) (tAug i te (ipI fun i j => i + j)) (dAug i iaddD de) := ⟨ps_aug hN hi hx he.pe ip_add hf, sim_aug iadd_of he.sim⟩
theorem pds_augSub {i : Nat} {x : Str} {pos' : Pos} (hN : X.N.Nodup) (hi : X.N[i]? = some x) (hx : Loc X.env.scope x) (he : PD X e te de) (hf : X.fn x = true ∨ X.env.scope.names.lookup x = some .local := by first | exact .inl rfl | exact .inr rfl | assumption) :
    PDS X (.AugAssign (.Name x pos') .Sub e pos) (tAug i te (ipI fun i j => i - j)) (dAug i subD de) := ⟨ps_aug hN hi hx he.pe ip_sub hf, sim_aug isub_of he.sim⟩
theorem sim_chain {K : PySem.W.Frag} {r r' : R2} {dr dr' : R2D} (hr : Sim2 K r dr) (hr' : Sim2 K r' dr') (ha : SimE K ta da) (hb : SimE K tb db) (hc : SimE K tc dc) : SimE K (tChain r r' ta tb tc) (dChain dr dr' da db dc) := fun F H M σ Γ Q R k s h c =>
  ha F H M σ Γ _ _ k s h fun v F1 H1 M1 x g1 k1 r1 h1 => hb F1 H1 M1 σ Γ _ _ k1 (s.mono g1.ext) h1 fun w F2 H2 M2 y g2 k2 r2 h2 =>
    hr F2 H2 M2 v w x y _ _ k2 (r1.mono g2.ext) r2 h2 fun z F3 H3 M3 dz g3 k3 r3 h3 => by
      have g := (g1.trans g2).trans g3
      cases dz with
      | bl b =>
        cases r3
        refine ⟨b, rfl, ?_⟩
        cases b with
        | true =>
          simp only [if_true] at h3 ⊢
          refine hc F3 H3 M3 σ Γ _ _ k3 (s.mono g.ext) h3 fun u F4 H4 M4 du g4 k4 r4 h4 => ?_
          refine hr' F4 H4 M4 w u y du _ R k4 ((r2.mono g3.ext).mono g4.ext) r4 h4 fun z2 F5 H5 M5 dz2 g5 k5 r5 h5 => ?_
          cases dz2 with
          | bl b2 => exact c z2 F5 H5 M5 _ ((g.trans g4).trans g5) k5 r5 h5
          | _ => exact h5.elim
        | false =>
          simp only [Bool.false_eq_true, if_false] at h3 ⊢
          exact c _ F3 H3 M3 _ g k3 (.bl false) h3
      | _ => exact h3.elim
theorem pd_chain {op op' : CmpOp} {r r' : R2} {dr dr' : R2D} (ho : OpR X (compareOp op) r) (hs : Sim2 X.K r dr) (ho' : OpR X (compareOp op') r') (hs' : Sim2 X.K r' dr') (ha : PD X a ta da) (hb : PD X b tb db) (hc : PD X c tc dc)
    (hm : lastMarks [op, op'] [b, c] = false := by with_unfolding_all rfl) : PD X (.Compare a [op, op'] [b, c] pos) (tChain r r' ta tb tc) (dChain dr dr' da db dc) := ⟨pe_chain ho ho' ha.pe hb.pe hc.pe hm, sim_chain hs hs' ha.sim hb.sim hc.sim⟩
theorem pdt_chain {op op' : CmpOp} {r r' : R2} {dr dr' : R2D} (ho : OpR X (compareOp op) r) (hs : Sim2 X.K r dr) (ho' : OpR X (compareOp op') r') (hs' : Sim2 X.K r' dr') (ha : PD X a ta da) (hb : PD X b tb db) (hc : PD X c tc dc)
    (hm : lastMarks [op, op'] [b, c] = false := by with_unfolding_all rfl) : PDT X (.Compare a [op, op'] [b, c] pos) (tTest (tChain r r' ta tb tc)) (dTest (dChain dr dr' da db dc)) := ⟨pt_chain ho ho' ha.pe hb.pe hc.pe hm, sim_test (sim_chain hs hs' ha.sim hb.sim hc.sim)⟩
theorem pds_par' {i j : Nat} {x y : Str} {px py pt : Pos} {kt k2 pt2} (hc : X.calm = true) (hN : X.N.Nodup) (hi : X.N[i]? = some x) (hj : X.N[j]? = some y) (hij : i ≠ j)
    (hx : X.env.scope.names.lookup x = some .local) (hy : X.env.scope.names.lookup y = some .local) (ha : PDA X [a, b] t d)
    (hw : swappedStores [.Tuple [.Name x px, .Name y py] kt pt] (.Tuple [a, b] k2 pt2) X.env = pure (some [x, y]))
    (hs : swapsWithSole [.Tuple [.Name x px, .Name y py] kt pt] (.Tuple [a, b] k2 pt2) pos.line X.env = pure false := by rfl) :
    PDS X (.Assign [.Tuple [.Name x px, .Name y py] kt pt] (.Tuple [a, b] k2 pt2) pos) (tPar i j t) (dPar [i, j] d) := pds_par (ps_par hc hN hi hj hij hx hy ha.pe hw hs) ha.sim
theorem pds_par3' {i j l : Nat} {x y z : Str} {px py pz pt : Pos} {kt k2 pt2} (hc : X.calm = true) (hN : X.N.Nodup) (hi : X.N[i]? = some x) (hj : X.N[j]? = some y) (hl : X.N[l]? = some z) (hij : i ≠ j) (hil : i ≠ l) (hjl : j ≠ l)
    (hx : X.env.scope.names.lookup x = some .local) (hy : X.env.scope.names.lookup y = some .local) (hz : X.env.scope.names.lookup z = some .local) (ha : PDA X [a, b, c] t d)
    (hw : swappedStores [.Tuple [.Name x px, .Name y py, .Name z pz] kt pt] (.Tuple [a, b, c] k2 pt2) X.env = pure (some [x, y, z]))
    (hs : swapsWithSole [.Tuple [.Name x px, .Name y py, .Name z pz] kt pt] (.Tuple [a, b, c] k2 pt2) pos.line X.env = pure false := by rfl) :
    PDS X (.Assign [.Tuple [.Name x px, .Name y py, .Name z pz] kt pt] (.Tuple [a, b, c] k2 pt2) pos) (tPar3 i j l t) (dPar [i, j, l] d) := pds_par3 (ps_par3 hc hN hi hj hl hij hil hjl hx hy hz ha.pe hw hs) ha.sim
theorem pd_tupRg1 {p2 : Pos} (hm : X.mg "tuple" = none) (hm2 : X.mg "range" = none) (ha : PD X a ta da) (hc : X.calm = true := by rfl) (hg : Gl X "tuple" := by rfl) (hg2 : Gl X "range" := by rfl) (na : starEach [a] X.env = (false, eval a X.env) :: starEach [] X.env := by rfl)
    (na2 : starEach [Expr.Call (.Name "range" p2) [a] [] cpos] X.env = (false, eval (Expr.Call (.Name "range" p2) [a] [] cpos) X.env) :: starEach [] X.env := by rfl) :
    PD X (.Call (.Name "tuple" p) [.Call (.Name "range" p2) [a] [] cpos] [] pos) (tTupRg (tRg1 ta)) (dTupRg1 da) := ⟨pe_tupRg hc hg hm (prg_1 hg2 hm2 ha.pe na) na2, sim_tupRg1 ha.sim⟩
theorem pd_lstRg1 {p2 : Pos} (hm : X.mg "list" = none) (hm2 : X.mg "range" = none) (ha : PD X a ta da) (hc : X.calm = true := by rfl) (hg : Gl X "list" := by rfl) (hg2 : Gl X "range" := by rfl) (na : starEach [a] X.env = (false, eval a X.env) :: starEach [] X.env := by rfl)
    (na2 : starEach [Expr.Call (.Name "range" p2) [a] [] cpos] X.env = (false, eval (Expr.Call (.Name "range" p2) [a] [] cpos) X.env) :: starEach [] X.env := by rfl) :
    PD X (.Call (.Name "list" p) [.Call (.Name "range" p2) [a] [] cpos] [] pos) (tLstRg (tRg1 ta)) (dLstRg1 da) := ⟨pe_listRg hc hg hm (prg_1 hg2 hm2 ha.pe na) na2, sim_lstRg1 ha.sim⟩
theorem pd_tupRg2 {p2 : Pos} (hm : X.mg "tuple" = none) (hm2 : X.mg "range" = none) (ha : PD X a ta da) (hb : PD X b tb db) (hc : X.calm = true := by rfl) (hg : Gl X "tuple" := by rfl) (hg2 : Gl X "range" := by rfl)
    (na : starEach [a, b] X.env = (false, eval a X.env) :: starEach [b] X.env := by rfl) (nb : starEach [b] X.env = (false, eval b X.env) :: starEach [] X.env := by rfl) (hp : (backTo cpos (starEach [b] X.env)).any (·.1) = false := by rfl)
    (na2 : starEach [Expr.Call (.Name "range" p2) [a, b] [] cpos] X.env = (false, eval (Expr.Call (.Name "range" p2) [a, b] [] cpos) X.env) :: starEach [] X.env := by rfl) :
    PD X (.Call (.Name "tuple" p) [.Call (.Name "range" p2) [a, b] [] cpos] [] pos) (tTupRg (tRg2 ta tb)) (dTupRg2 da db) := ⟨pe_tupRg hc hg hm (prg_2 hg2 hm2 ha.pe hb.pe na nb hp) na2, sim_tupRg2 ha.sim hb.sim⟩
theorem pd_lstRg2 {p2 : Pos} (hm : X.mg "list" = none) (hm2 : X.mg "range" = none) (ha : PD X a ta da) (hb : PD X b tb db) (hc : X.calm = true := by rfl) (hg : Gl X "list" := by rfl) (hg2 : Gl X "range" := by rfl)
    (na : starEach [a, b] X.env = (false, eval a X.env) :: starEach [b] X.env := by rfl) (nb : starEach [b] X.env = (false, eval b X.env) :: starEach [] X.env := by rfl) (hp : (backTo cpos (starEach [b] X.env)).any (·.1) = false := by rfl)
    (na2 : starEach [Expr.Call (.Name "range" p2) [a, b] [] cpos] X.env = (false, eval (Expr.Call (.Name "range" p2) [a, b] [] cpos) X.env) :: starEach [] X.env := by rfl) :
    PD X (.Call (.Name "list" p) [.Call (.Name "range" p2) [a, b] [] cpos] [] pos) (tLstRg (tRg2 ta tb)) (dLstRg2 da db) := ⟨pe_listRg hc hg hm (prg_2 hg2 hm2 ha.pe hb.pe na nb hp) na2, sim_lstRg2 ha.sim hb.sim⟩
theorem pd_isi2 {x1 x2 : Str} {n1 n2 : String} {p1 p2 tpos : Pos} {kk : Nat} (hm : X.mg "isinstance" = none) (h1 : X.mg x1 = none) (h2 : X.mg x2 = none) (hv1 : bootBuiltins x1 = some (.type n1)) (hv2 : bootBuiltins x2 = some (.type n2)) (ha : PD X a ta da)
    (hg : Gl X "isinstance" := by rfl) (hg1 : Gl X x1 := by rfl) (hg2 : Gl X x2 := by rfl) (hv : bootBuiltins "isinstance" = some (.builtin "isinstance") := by decide +kernel) (hn1 : x1 ≠ "__name__" := by decide) (hd1 : (x1 == ("__debug__" : Str)) = false := by decide) (hn2 : x2 ≠ "__name__" := by decide) (hd2 : (x2 == ("__debug__" : Str)) = false := by decide)
    (s1 : starEach [Expr.Name x1 p1, Expr.Name x2 p2] X.env = (false, eval (Expr.Name x1 p1) X.env) :: starEach [Expr.Name x2 p2] X.env := by rfl) (s2 : starEach [Expr.Name x2 p2] X.env = (false, eval (Expr.Name x2 p2) X.env) :: starEach [] X.env := by rfl)
    (s3 : starEach [Expr.Tuple [.Name x1 p1, .Name x2 p2] kk tpos] X.env = (false, eval (Expr.Tuple [.Name x1 p1, .Name x2 p2] kk tpos) X.env) :: starEach [] X.env := by rfl)
    (s4 : starEach [a, Expr.Tuple [.Name x1 p1, .Name x2 p2] kk tpos] X.env = (false, eval a X.env) :: starEach [Expr.Tuple [.Name x1 p1, .Name x2 p2] kk tpos] X.env := by rfl)
    (hpl : (backTo pos (starEach [Expr.Tuple [.Name x1 p1, .Name x2 p2] kk tpos] X.env)).any (·.1) = false := by rfl) :
    PD X (.Call (.Name "isinstance" p) [a, .Tuple [.Name x1 p1, .Name x2 p2] kk tpos] [] pos) (tCB (rIsiT X.K) (tCons ta (tCons (tTup (tCons (tC (.ty n1)) (tCons (tC (.ty n2)) tNil))) tNil))) (dIsi2 n1 n2 da) :=
  ⟨pe_callB call_isiT hg hm hv (pa_cons ha.pe (pa_cons (pe_tup (pa_cons (pe_bltn hg1 h1 hv1 rfl hn1 hd1) (pa_cons (pe_bltn hg2 h2 hv2 rfl hn2 hd2) pa_nil s2) s1)) pa_nil s3) s4) (by decide) (by decide) s4 hpl, sim_isi2 ha.sim⟩
end

/-! ### what a caller has of a def -/
/-- a constant of the module -/
def GC (K : PySem.W.Frag) (mg : Str → Option Value) (x : Str) (d : D) : Prop := ∃ u v, mg x = some u ∧ RelV v u ∧ ∀ F, Rep K F v d
theorem gc_int {K : PySem.W.Frag} {mg : Str → Option Value} {x : Str} {i : Int} {t : Tok} (h : mg x = some (.int i t)) : GC K mg x (.int i) := ⟨_, .int i, h, ⟨t, rfl⟩, fun _ => .int i⟩
theorem gc_str {K : PySem.W.Frag} {mg : Str → Option Value} {x z : Str} {t : Tok} (h : mg x = some (.str z t)) : GC K mg x (.str z) := ⟨_, .str z, h, ⟨t, rfl⟩, fun _ => .str z⟩
theorem sqT_static {K : PySem.W.Frag} {F : Hp} {a : Addr} {dd : Option Addr} {its : List Value} {n : Nat} {sl : Array (Option Value)} {vs : List V} (h : K.lookup a = some ⟨.type "tuple", dd, .seq its.toArray n, sl⟩) (r : Vals vs its) (hz : its.length ≤ sizeLine) : SqT K F a vs :=
  .inr ⟨_, its.toArray, n, h, rfl, rfl, by simpa using hz, by simpa using r⟩
theorem gc_tup {K : PySem.W.Frag} {mg : Str → Option Value} {x : Str} {a : Addr} {vs : List V} {ds : List D} (h : mg x = some (.ref a)) (hs : ∀ F, SqT K F a vs) (hr : ∀ F, RepL K F vs ds) : GC K mg x (.tup ds) := ⟨_, .ref a, h, rfl, fun F => .tup (hs F) (hr F)⟩
structure Callee (P : Program) (w : World) (K : PySem.W.Frag) (mg : Str → Option Value) (base : Heap) (k : Nat) (x : Str) (ps : List Str) (S : DSp) (dds : List D) : Prop where
  ex : ∃ (f : Addr) (fd : FuncData) (ds : List Value) (dvs : List V), FnOk P w K mg base CX0 k f fd ps (spD K S) ∧ mg x = some (.ref f) ∧ PySem.W.keepIn K (.ref f) = true ∧ Binds K fd ps ds ∧ Vals dvs ds ∧ ∀ F, RepL K F dvs dds
structure CalleeC (P : Program) (w : World) (K : PySem.W.Frag) (mg : Str → Option Value) (base : Heap) (k : Nat) (x : Str) (C : Addr) (ps : List Str) (S : DSp) (dds : List D) : Prop where
  ex : ∃ (f : Addr) (fd : FuncData) (ds : List Value) (dvs : List V), Mk K C f ∧ FnOk P w K mg base CX0 k f fd ps (spD K S) ∧ mg x = some (.ref C) ∧ Binds K fd ps ds ∧ Vals dvs ds ∧ ∀ F, RepL K F dvs dds
structure CalleeN (P : Program) (w : World) (K : PySem.W.Frag) (mg : Str → Option Value) (base : Heap) (k : Nat) (x : Str) (ps : List Str) (S : DSp) (n : Nat) (ks : List Str) (ix : List Nat) (dds : List D) : Prop where
  ex : ∃ (f : Addr) (fd : FuncData) (its : List Value) (dvs : List V), FnOk P w K mg base CX0 k f fd ps (spD K S) ∧ mg x = some (.ref f) ∧ PySem.W.keepIn K (.ref f) = true ∧ KBn K fd ps n ks (fun us ws => pick ix (us ++ (ws ++ its))) (fun vs zs => pick ix (vs ++ (zs ++ dvs))) ∧ ∀ F, RepL K F dvs dds
end DL

set_option Elab.async false
set_option linter.all false
set_option maxRecDepth 100000
set_option maxHeartbeats 4000000
/-! The same rules with the written part K as a letter of its own (a block's X.K is not its outer X's to the sign). -/
namespace DL
open PySem PySem.Spec PyProof.Rows L2
section
variable {X : Cx} {K : PySem.W.Frag}
theorem ko_add (hK : X.K = K) : OpR X (binaryOp .Add) (rAddAny K) := by subst hK; exact oop_add
theorem ko_eq (hK : X.K = K) (hu : X.A.units + 64 < cLine) : OpR X (compareOp .Eq) (rEqAny K) := by subst hK; exact oop_eq hu
theorem ko_ne (hK : X.K = K) (hu : X.A.units + 64 < cLine) : OpR X (compareOp .NotEq) (rNeAny K) := by subst hK; exact oop_ne hu
theorem ko_in (hK : X.K = K) : OpR X (compareOp .In) (rIn K false) := by subst hK; exact op_in_seq
theorem ko_notIn (hK : X.K = K) : OpR X (compareOp .NotIn) (rIn K true) := by subst hK; exact op_notIn_seq
theorem kix (hK : X.K = K) : IxR X (rIxAny K) := by subst hK; exact oix
def rLenA (K : PySem.W.Frag) : List V → Hp → VK → Prop := fun xs H Q => ∃ x n, xs = [x] ∧ LenV K x H n ∧ Q (.int n) H
theorem kc_len (hK : X.K = K) : CallR X (.builtin "len") (rLenA K) := by subst hK; exact call_len
theorem ks_len : SimC K (rLenA K) lenD := sc_len
def rTupA (K : PySem.W.Frag) : List V → Hp → VK → Prop := fun xs H Q => ∃ p ys, xs = [.ref p] ∧ ((SqL K H p ys ∧ ∀ l, H l = none → Q (.ref l) (upd H l (.tup ys))) ∨ (SqT K H p ys ∧ Q (.ref p) H))
theorem kc_tuple (hK : X.K = K) : CallR X (.type "tuple") (rTupA K) := by subst hK; exact call_tuple_of
theorem ks_tuple : SimC K (rTupA K) tupleD := sc_tuple
def rLstA (K : PySem.W.Frag) : List V → Hp → VK → Prop := fun xs H Q => ∃ p ys, xs = [.ref p] ∧ (SqL K H p ys ∨ SqT K H p ys) ∧ ∀ l, H l = none → Q (.ref l) (upd H l (.lst ys))
theorem kc_list (hK : X.K = K) : CallR X (.type "list") (rLstA K) := by subst hK; exact call_list_of
theorem ks_list : SimC K (rLstA K) listD := sc_list
theorem ks_listM : SimC K (rLstA K) listMD := sc_listM
theorem kc_isi (hK : X.K = K) : CallR X (.builtin "isinstance") (rIsi K) := by subst hK; exact call_isi
theorem kc_min (hK : X.K = K) (hc : X.calm = true) : CallR X (.builtin "min") (rMin K) := by subst hK; exact cr_min hc
theorem kc_max (hK : X.K = K) (hc : X.calm = true) : CallR X (.builtin "max") (rMax K) := by subst hK; exact cr_max hc
theorem kc_sum (hK : X.K = K) (hc : X.calm = true) : CallR X (.builtin "sum") (rSum K) := by subst hK; exact cr_sum hc
theorem kc_all (hK : X.K = K) (hc : X.calm = true) : CallR X (.builtin "all") (rAll K) := by subst hK; exact cr_all hc
theorem kc_any (hK : X.K = K) (hc : X.calm = true) : CallR X (.builtin "any") (rAny K) := by subst hK; exact cr_any hc
variable {o e e2 a b c : Expr} {es : List Expr} {to te ta tb tc tl : TE} {do_ de da db dc dl : TD} {t : TA} {d : TDA} {apos cpos pos p p1 p2 p3 : Pos}
theorem kd_app (hK : X.K = K) (ho : PD X o to do_) (ha : PDA X (e :: es) t d) (hbase : attributeBase o "append" X.env (eval o X.env) = eval o X.env := by rfl)
    (hfew : ((backTo cpos (starEach (e :: es) X.env)).all (fun x => !x.1) && (backToKw cpos (keywordEach [] X.env)).all (fun x => x.1.isSome)
      && decide ((e :: es).length + ([] : List Keyword).length + (if ([] : List Keyword).isEmpty then 0 else 1) < 30)) = true := by rfl) (hline : (apos.endLine == cpos.line) = true := by rfl)
    (he : starEach (e :: es) X.env = (false, eval e X.env) :: starEach es X.env := by rfl) (hpl : (backTo cpos (starEach es X.env)).any (·.1) = false := by rfl) :
    PD X (.Call (.Attribute o "append" apos) (e :: es) [] cpos) (tBM K "list" rAppend to t) (dBM appD do_ d) := by subst hK; exact pd_app' ho ha hbase hfew hline he hpl
theorem kd_popAt (hK : X.K = K) (ho : PD X o to do_) (ha : PDA X (e :: es) t d) (hbase : attributeBase o "pop" X.env (eval o X.env) = eval o X.env := by rfl)
    (hfew : ((backTo cpos (starEach (e :: es) X.env)).all (fun x => !x.1) && (backToKw cpos (keywordEach [] X.env)).all (fun x => x.1.isSome)
      && decide ((e :: es).length + ([] : List Keyword).length + (if ([] : List Keyword).isEmpty then 0 else 1) < 30)) = true := by rfl) (hline : (apos.endLine == cpos.line) = true := by rfl)
    (he : starEach (e :: es) X.env = (false, eval e X.env) :: starEach es X.env := by rfl) (hpl : (backTo cpos (starEach es X.env)).any (·.1) = false := by rfl) :
    PD X (.Call (.Attribute o "pop" apos) (e :: es) [] cpos) (tBM K "list" rPopAt to t) (dBM popAtD do_ d) := by subst hK; exact pd_popAt' ho ha hbase hfew hline he hpl
theorem kd_pop (hK : X.K = K) (ho : PD X o to do_) (hbase : attributeBase o "pop" X.env (eval o X.env) = eval o X.env := by rfl) (hline : (apos.endLine == cpos.line) = true := by rfl) :
    PD X (.Call (.Attribute o "pop" apos) [] [] cpos) (tBM0 K "list" rPop to) (dBM0 popD do_) := by subst hK; exact pd_pop' ho hbase hline
theorem kd_slice (hK : X.K = K) {lo hi : Option Expr} {tl th : TO} {dl dh : TDO} (he : PD X e te de) (hl : PDO X lo tl dl) (hh : PDO X hi th dh) : PD X (.Subscript e (.Slice lo hi none p2) pos) (tSl (rSlAny K) te tl th) (dSl de dl dh) := by subst hK; exact pd_slice he hl hh
theorem kd_rev (hK : X.K = K) {n : Nat} (he : PD X e te de) : PD X (.Subscript e (.Slice none none (some (.UnaryOp .USub (.Constant (.int 1) n p1) p2)) p3) pos) (tRevL K te) (dRev de) := by subst hK; exact pd_rev he
theorem kd_revM (hK : X.K = K) {n : Nat} (he : PD X e te de) : PD X (.Subscript e (.Slice none none (some (.UnaryOp .USub (.Constant (.int 1) n p1) p2)) p3) pos) (tRevL K te) (dRevM de) := by subst hK; exact pd_revM he
theorem kd_fld (hK : X.K = K) {C : Addr} {ns : List Str} {i : Nat} {f : Str} (cl : Cls K C) (na : NoAttr K C f) (hi : ns.idxOf? f = some i) (ha : PD X e ta da) (hb : attributeBase e f X.env (eval e X.env) = eval e X.env := by rfl) :
    PD X (.Attribute e f pos) (tFld K ta f) (dFld C ns i da) := by subst hK; exact pd_fld cl na hi ha hb
theorem kds_setNew (hK : X.K = K) {C : Addr} {f : Str} {pos' : Pos} (cl : Cls K C) (na : NoAttr K C f) (ho : PD X o to do_) (ha : PD X e ta da) (hs : swapsWith e (some (.Attribute o f pos')) pos.line X.env = pure false := by rfl) :
    PDS X (.Assign [.Attribute o f pos'] e pos) (sFld K to ta f) (dSetNew C f do_ da) := by subst hK; exact pds_setNew cl na ho ha hs
theorem kds_setOld (hK : X.K = K) {C : Addr} {ns0 : List Str} {i : Nat} {f : Str} {pos' : Pos} (cl : Cls K C) (na : NoAttr K C f) (hi : ns0.idxOf? f = some i) (hlen : ns0.length < 1000) (ho : PD X o to do_) (ha : PD X e ta da) (hs : swapsWith e (some (.Attribute o f pos')) pos.line X.env = pure false := by rfl) :
    PDS X (.Assign [.Attribute o f pos'] e pos) (sFld K to ta f) (dSetOld C ns0 i do_ da) := by subst hK; exact pds_setOld cl na hi hlen ho ha hs
theorem kdg_tup (hK : X.K = K) {k : Nat} {w : TGs} {dw : TDGs} {n : Nat} (hc : X.calm = true) (h : PDGs X es w dw) (hn : (assignEach es X.env).length = n := by rfl) (hst : (assignEach es X.env).findIdx? (·.1) = none := by rfl) : PDG X (.Tuple es k pos) (gTup K n w) (dgTup n dw) := by subst hK; exact pdg_tup hc h hn hst
theorem kdi_any (hK : X.K = K) {tg l : Expr} (hl : PD X l tl dl) : PDI X tg l (iAny K tl) (diAny dl) := by subst hK; exact pdi_any hl
theorem kdi_enum (hK : X.K = K) {elts : List Expr} {kk : Nat} {tpos : Pos} (hg : Gl X "enumerate") (hm : X.mg "enumerate" = none) (ha : PDA X [e] t d) (hs : starEach [e] X.env = [(false, eval e X.env)] := by rfl) : PDI X (.Tuple elts kk tpos) (.Call (.Name "enumerate" p) [e] [] pos) (iEnumA K t) (diEnum d) := by subst hK; exact pdi_enum hg hm ha hs
theorem kdi_zip (hK : X.K = K) {elts : List Expr} {kk : Nat} {tpos : Pos} (hg : Gl X "zip") (hm : X.mg "zip" = none) (ha : PDA X [e, e2] t d) (hs : starEach [e, e2] X.env = (false, eval e X.env) :: starEach [e2] X.env := by rfl) (hpl : (backTo pos (starEach [e2] X.env)).any (·.1) = false := by rfl) :
    PDI X (.Tuple elts kk tpos) (.Call (.Name "zip" p) [e, e2] [] pos) (RZ.iZipA K t) (diZip d) := by subst hK; exact pdi_zip hg hm ha hs hpl
theorem kd_isi2 (hK : X.K = K) {x1 x2 : Str} {n1 n2 : String} {tpos : Pos} {kk : Nat} (hm : X.mg "isinstance" = none) (h1 : X.mg x1 = none) (h2 : X.mg x2 = none) (hv1 : bootBuiltins x1 = some (.type n1)) (hv2 : bootBuiltins x2 = some (.type n2)) (ha : PD X a ta da)
    (hg : Gl X "isinstance" := by rfl) (hg1 : Gl X x1 := by rfl) (hg2 : Gl X x2 := by rfl) (hv : bootBuiltins "isinstance" = some (.builtin "isinstance") := by decide +kernel) (hn1 : x1 ≠ "__name__" := by decide) (hd1 : (x1 == ("__debug__" : Str)) = false := by decide) (hn2 : x2 ≠ "__name__" := by decide) (hd2 : (x2 == ("__debug__" : Str)) = false := by decide)
    (s1 : starEach [Expr.Name x1 p1, Expr.Name x2 p2] X.env = (false, eval (Expr.Name x1 p1) X.env) :: starEach [Expr.Name x2 p2] X.env := by rfl) (s2 : starEach [Expr.Name x2 p2] X.env = (false, eval (Expr.Name x2 p2) X.env) :: starEach [] X.env := by rfl)
    (s3 : starEach [Expr.Tuple [.Name x1 p1, .Name x2 p2] kk tpos] X.env = (false, eval (Expr.Tuple [.Name x1 p1, .Name x2 p2] kk tpos) X.env) :: starEach [] X.env := by rfl)
    (s4 : starEach [a, Expr.Tuple [.Name x1 p1, .Name x2 p2] kk tpos] X.env = (false, eval a X.env) :: starEach [Expr.Tuple [.Name x1 p1, .Name x2 p2] kk tpos] X.env := by rfl)
    (hpl : (backTo pos (starEach [Expr.Tuple [.Name x1 p1, .Name x2 p2] kk tpos] X.env)).any (·.1) = false := by rfl) :
    PD X (.Call (.Name "isinstance" p) [a, .Tuple [.Name x1 p1, .Name x2 p2] kk tpos] [] pos) (tCB (rIsiT K) (tCons ta (tCons (tTup (tCons (tC (.ty n1)) (tCons (tC (.ty n2)) tNil))) tNil))) (dIsi2 n1 n2 da) := by
  subst hK; exact pd_isi2 hm h1 h2 hv1 hv2 ha hg hg1 hg2 hv hn1 hd1 hn2 hd2 s1 s2 s3 s4 hpl
variable {k : Nat} {f C : Addr} {fd : FuncData} {ps ks : List Str} {S : DSp} {dvs : List V} {dds : List D} {ds : List Value} {x : Str} {kws : List Keyword} {tk : TA} {dk : TDA}
theorem kd_call (hK : X.K = K) (F : FnOk X.prog X.w K X.mg X.base CX0 k f fd ps (spD K S)) (hr : Room k X.A) (hg : Gl X x) (hm : X.mg x = some (.ref f)) (hk : PySem.W.keepIn K (.ref f) = true) (hb : Binds K fd ps ds) (hd : Vals dvs ds) (hdd : ∀ F, RepL K F dvs dds)
    (ha : PDA X (e :: es) t d) (hdb : (x == ("__debug__" : Str)) = false := by decide) (he : starEach (e :: es) X.env = (false, eval e X.env) :: starEach es X.env := by rfl) (hpl : (backTo pos (starEach es X.env)).any (·.1) = false := by rfl) :
    PD X (.Call (.Name x p) (e :: es) [] pos) (tCall (spD K S) dvs E0 t) (dCall S dds d) := by subst hK; exact pd_call F hr hg hm hk hb hd hdd ha hdb he hpl
theorem kd_call0 (hK : X.K = K) (F : FnOk X.prog X.w K X.mg X.base CX0 k f fd ps (spD K S)) (hr : Room k X.A) (hg : Gl X x) (hm : X.mg x = some (.ref f)) (hk : PySem.W.keepIn K (.ref f) = true) (hb : Binds K fd ps ds) (hd : Vals dvs ds) (hdd : ∀ F, RepL K F dvs dds)
    (hdb : (x == ("__debug__" : Str)) = false := by decide) : PD X (.Call (.Name x p) [] [] pos) (tCall (spD K S) dvs E0 tNil) (dCall S dds dNil) := by subst hK; exact pd_call0 F hr hg hm hk hb hd hdd hdb
theorem kd_make (hK : X.K = K) (Mk0 : Mk K C f) (F : FnOk X.prog X.w K X.mg X.base CX0 k f fd ps (spD K S)) (hr : Room (k + 1) X.A) (hg : Gl X x) (hm : X.mg x = some (.ref C)) (hb : Binds K fd ps ds) (hd : Vals dvs ds) (hdd : ∀ F, RepL K F dvs dds)
    (ha : PDA X (e :: es) t d) (hdb : (x == ("__debug__" : Str)) = false := by decide) (he : starEach (e :: es) X.env = (false, eval e X.env) :: starEach es X.env := by rfl) (hpl : (backTo pos (starEach es X.env)).any (·.1) = false := by rfl) :
    PD X (.Call (.Name x p) (e :: es) [] pos) (tMake C (spD K S) dvs E0 t) (dMake C S dds d) := by subst hK; exact pd_make Mk0 F hr hg hm hb hd hdd ha hdb he hpl
theorem kd_makeM (hK : X.K = K) (Mk0 : Mk K C f) (F : FnOk X.prog X.w K X.mg X.base CX0 k f fd ps (spD K S)) (hr : Room (k + 1) X.A) (hg : Gl X x) (hm : X.mg x = some (.ref C)) (hb : Binds K fd ps ds) (hd : Vals dvs ds) (hdd : ∀ F, RepL K F dvs dds)
    (ha : PDA X (e :: es) t d) (hdb : (x == ("__debug__" : Str)) = false := by decide) (he : starEach (e :: es) X.env = (false, eval e X.env) :: starEach es X.env := by rfl) (hpl : (backTo pos (starEach es X.env)).any (·.1) = false := by rfl) :
    PD X (.Call (.Name x p) (e :: es) [] pos) (tMake C (spD K S) dvs E0 t) (dMakeM C S dds d) := by subst hK; exact pd_makeM Mk0 F hr hg hm hb hd hdd ha hdb he hpl
theorem kd_callN (hK : X.K = K) {n : Nat} {ix : List Nat} {its : List Value} (F : FnOk X.prog X.w K X.mg X.base CX0 k f fd ps (spD K S)) (hr : Room k X.A) (hg : Gl X x) (hm : X.mg x = some (.ref f)) (hk : PySem.W.keepIn K (.ref f) = true) (hb : KBn K fd ps n ks (fun us ws => pick ix (us ++ (ws ++ its))) (fun vs zs => pick ix (vs ++ (zs ++ dvs)))) (hdd : ∀ F, RepL K F dvs dds)
    (ha : PDA X (e :: es) t d) (hkw : PDK X kws tk dk) (hall : (backToKw pos (keywordEach kws X.env)).all (·.1.isSome) = true := by rfl) (hks : (backToKw pos (keywordEach kws X.env)).filterMap (·.1) = ks := by rfl)
    (hdb : (x == ("__debug__" : Str)) = false := by decide) (he : starEach (e :: es) X.env = (false, eval e X.env) :: starEach es X.env := by rfl)
    (hpl : ((backTo pos (starEach (e :: es) X.env)).any (·.1) || (backToKw pos (keywordEach kws X.env)).any (·.1.isNone)) = false := by rfl) :
    PD X (.Call (.Name x p) (e :: es) kws pos) (tCallN n ks.length (spD K S) (fun vs zs => pick ix (vs ++ (zs ++ dvs))) E0 t tk) (dCallN S ix n ks.length dds d dk) := by subst hK; exact pd_callN F hr hg hm hk hb hdd ha hkw hall hks hdb he hpl
theorem kd_callN0 (hK : X.K = K) {ix : List Nat} {its : List Value} (F : FnOk X.prog X.w K X.mg X.base CX0 k f fd ps (spD K S)) (hr : Room k X.A) (hg : Gl X x) (hm : X.mg x = some (.ref f)) (hk : PySem.W.keepIn K (.ref f) = true) (hb : KBn K fd ps 0 ks (fun us ws => pick ix (us ++ (ws ++ its))) (fun vs zs => pick ix (vs ++ (zs ++ dvs)))) (hdd : ∀ F, RepL K F dvs dds)
    (hkw : PDK X kws tk dk) (hall : (backToKw pos (keywordEach kws X.env)).all (·.1.isSome) = true := by rfl) (hks : (backToKw pos (keywordEach kws X.env)).filterMap (·.1) = ks := by rfl)
    (hdb : (x == ("__debug__" : Str)) = false := by decide)
    (hpl : ((backTo pos (starEach [] X.env)).any (·.1) || (backToKw pos (keywordEach kws X.env)).any (·.1.isNone)) = false := by rfl) :
    PD X (.Call (.Name x p) [] kws pos) (tCallN 0 ks.length (spD K S) (fun vs zs => pick ix (vs ++ (zs ++ dvs))) E0 tNil tk) (dCallN S ix 0 ks.length dds dNil dk) := by subst hK; exact pd_callN0 F hr hg hm hk hb hdd hkw hall hks hdb hpl
end
end DL

set_option Elab.async false
set_option linter.all false
set_option maxRecDepth 100000
set_option maxHeartbeats 4000000
/-! A law's source of draws: a list of great cells and a number, hidden. -/
namespace DL
open PySem PySem.Spec PyProof.Rows L2

/-- one turn of reading: what the letters of a body over data say -/
theorem ite_tt {A B : Prop} : (if true = true then A else B) = A := if_pos rfl
theorem ite_ff {A B : Prop} : (if false = true then A else B) = B := if_neg Bool.false_ne_true
theorem ite_tt' {α : Type} {a b : α} : (if true = true then a else b) = a := if_pos rfl
theorem ite_ff' {α : Type} {a b : α} : (if false = true then a else b) = b := if_neg Bool.false_ne_true

theorem pyL_ints (ns : List Int) : pyL (ns.map D.int) = ns.map PyData.int := by
  induction ns with
  | nil => rfl
  | cons n ns ih => rw [List.map_cons, pyL, ih, List.map_cons]; rfl
theorem isPyL_ints (ns : List Int) : isPyL (ns.map D.int) = true := by
  induction ns with
  | nil => rfl
  | cons n ns ih => rw [List.map_cons, isPyL, ih]; rfl
theorem canLay_ints (ns : List Int) : PyData.canLayAll0 (ns.map PyData.int) = true := by
  induction ns with
  | nil => rfl
  | cons n ns ih => rw [List.map_cons, PyData.canLayAll0, ih]; rfl
theorem depth_ints (ns : List Int) : PyData.depthAll (ns.map PyData.int) = 0 := by
  induction ns with
  | nil => rfl
  | cons n ns ih => rw [List.map_cons, PyData.depthAll, ih]; rfl
theorem shaped_ints (ns : List Int) : SeqAt.shaped (.list (ns.map PyData.int)) = true := by
  show (PyData.canLay0 (.list (ns.map PyData.int)) && decide (PyData.depth (.list (ns.map PyData.int)) ≤ 64)) = true
  rw [Bool.and_eq_true]
  refine ⟨by rw [PyData.canLay0]; exact canLay_ints ns, decide_eq_true ?_⟩
  rw [PyData.depth, depth_ints]
  decide
theorem shaped_intsT (ns : List Int) : SeqAt.shaped (.tuple (ns.map PyData.int)) = true := by
  show (PyData.canLay0 (.tuple (ns.map PyData.int)) && decide (PyData.depth (.tuple (ns.map PyData.int)) ≤ 64)) = true
  rw [Bool.and_eq_true]
  refine ⟨by rw [PyData.canLay0]; exact canLay_ints ns, decide_eq_true ?_⟩
  rw [PyData.depth, depth_ints]
  decide
/-- a list of numbers against the empty one -/
theorem deepEq_nil {ns : List Int} {k : Bool → Prop} (h : k ns.isEmpty) : deepEq (.lst (ns.map D.int)) (.lst []) k := by
  refine ⟨by rw [isPy]; exact isPyL_ints ns, rfl, by rw [py, pyL_ints]; exact shaped_ints ns, by decide, ?_⟩
  rw [py, py, pyL_ints, pyL]
  cases ns with
  | nil => exact h
  | cons n ns => exact h


/-! ### what an operation is on data that stands there: to rewrite by -/
section
variable {M : Mem} {Q : QD} {i j : Int} {a b : Bool} {s z : Str} {xs ys : List D} {x y : D} {k : D → Prop}
theorem addD_int : addD (.int i) (.int j) M Q = Q (.int (i + j)) M := rfl
theorem addD_lst : addD (.lst xs) (.lst ys) M Q = (xs.length + ys.length ≤ sizeLine ∧ Q (.lst (xs ++ ys)) M) := rfl
theorem addD_tup : addD (.tup xs) (.tup ys) M Q = (xs.length + ys.length ≤ sizeLine ∧ Q (.tup (xs ++ ys)) M) := rfl
theorem addD_str : addD (.str s) (.str z) M Q = (s.length + z.length ≤ sizeLine ∧ Q (.str (s ++ z)) M) := rfl
theorem iaddD_int : iaddD (.int i) (.int j) M Q = Q (.int (i + j)) M := rfl
theorem subD_int : subD (.int i) (.int j) M Q = Q (.int (i - j)) M := rfl
theorem mulD_int : mulD (.int i) (.int j) M Q = (((-(2 ^ 64) < i ∧ i < 2 ^ 64) ∨ (-(2 ^ 64) < j ∧ j < 2 ^ 64)) ∧ Q (.int (i * j)) M) := rfl
theorem mulD_lst : mulD (.lst xs) (.int j) M Q = (-(2 ^ 63) ≤ j ∧ j < 2 ^ 63 ∧ xs.length * j.toNat ≤ sizeLine ∧ Q (.lst (List.replicate j.toNat xs).flatten) M) := rfl
theorem fdivD_int : fdivD (.int i) (.int j) M Q = ((0 < j ∧ j < 1073741824) ∧ Q (.int (i / j)) M) := rfl
theorem modD_int : modD (.int i) (.int j) M Q = (0 < j ∧ Q (.int (i % j)) M) := rfl
theorem powD_int : powD (.int i) (.int j) M Q = ((0 ≤ j ∧ j ≤ 1000000 ∧ i.natAbs < 2 ^ 64) ∧ Q (.int (i ^ j.toNat)) M) := rfl
theorem negD_int : negD (.int i) M Q = Q (.int (-i)) M := rfl
theorem ltD_int : ltD (.int i) (.int j) M Q = Q (.bl (decide (i < j))) M := rfl
theorem leD_int : leD (.int i) (.int j) M Q = Q (.bl (decide (i ≤ j))) M := rfl
theorem gtD_int : gtD (.int i) (.int j) M Q = Q (.bl (decide (j < i))) M := rfl
theorem geD_int : geD (.int i) (.int j) M Q = Q (.bl (decide (j ≤ i))) M := rfl
theorem eqD_int : eqD (.int i) (.int j) M Q = Q (.bl (decide (i = j))) M := rfl
theorem eqD_bl : eqD (.bl a) (.bl b) M Q = Q (.bl (decide (a = b))) M := rfl
theorem eqD_str : eqD (.str s) (.str z) M Q = Q (.bl (decide (s = z))) M := rfl
theorem eqD_tup : eqD (.tup xs) (.tup ys) M Q = deepEq (.tup xs) (.tup ys) fun b => Q (.bl b) M := rfl
theorem eqD_lst : eqD (.lst xs) (.lst ys) M Q = deepEq (.lst xs) (.lst ys) fun b => Q (.bl b) M := rfl
theorem neD_int : neD (.int i) (.int j) M Q = Q (.bl (!decide (i = j))) M := rfl
theorem neD_bl : neD (.bl a) (.bl b) M Q = Q (.bl (!decide (a = b))) M := rfl
theorem neD_str : neD (.str s) (.str z) M Q = Q (.bl (!decide (s = z))) M := rfl
theorem neD_tup : neD (.tup xs) (.tup ys) M Q = deepEq (.tup xs) (.tup ys) fun b => Q (.bl (!b)) M := rfl
theorem neD_lst : neD (.lst xs) (.lst ys) M Q = deepEq (.lst xs) (.lst ys) fun b => Q (.bl (!b)) M := rfl
theorem isD_non : isD x .non M Q = Q (.bl (isNonD x)) M := rfl
theorem isD_bl : isD (.bl a) (.bl b) M Q = Q (.bl (decide (a = b))) M := rfl
theorem notD_non : notD x .non M Q = Q (.bl (!isNonD x)) M := rfl
theorem notD_bl : notD (.bl a) (.bl b) M Q = Q (.bl (!decide (a = b))) M := rfl
theorem isNon_non : isNonD .non = true := rfl
theorem isNon_int : isNonD (.int i) = false := rfl
theorem isNon_bl : isNonD (.bl a) = false := rfl
theorem isNon_str : isNonD (.str s) = false := rfl
theorem isNon_tup : isNonD (.tup xs) = false := rfl
theorem isNon_lst : isNonD (.lst xs) = false := rfl
theorem intD_int : intD [.int i] M Q = Q (.int i) M := rfl
theorem intD_bl : intD [.bl a] M Q = Q (.int (if a then 1 else 0)) M := rfl
theorem absD_int : absD [.int i] M Q = Q (.int (if i < 0 then -i else i)) M := rfl
theorem max2D_int : max2D [.int i, .int j] M Q = Q (.int (max i j)) M := by
  have e : (if j > i then j else i) = max i j := by split <;> omega
  rw [← e]; rfl
theorem min2D_int : min2D [.int i, .int j] M Q = Q (.int (min i j)) M := by
  have e : (if j < i then j else i) = min i j := by split <;> omega
  rw [← e]; rfl
theorem lenD_lst : lenD [.lst xs] M Q = Q (.int (xs.length : Nat)) M := rfl
theorem lenD_tup : lenD [.tup xs] M Q = Q (.int (xs.length : Nat)) M := rfl
theorem lenD_scr : lenD [.scr xs] M Q = Q (.int (xs.length : Nat)) M := rfl
theorem tupleD_lst : tupleD [.lst xs] M Q = Q (.tup xs) M := rfl
theorem tupleD_tup : tupleD [.tup xs] M Q = Q (.tup xs) M := rfl
theorem listD_lst : listD [.lst xs] M Q = Q (.lst xs) M := rfl
theorem listD_tup : listD [.tup xs] M Q = Q (.lst xs) M := rfl
theorem listMD_lst : listMD [.lst xs] M Q = ∀ p, M p = none → Q (.ref p) (mput M p (.lst xs)) := rfl
theorem listMD_tup : listMD [.tup xs] M Q = ∀ p, M p = none → Q (.ref p) (mput M p (.lst xs)) := rfl
theorem ixD_tup : ixD (.tup xs) (.int i) M Q = nth xs i fun d => Q d M := rfl
theorem ixD_lst : ixD (.lst xs) (.int i) M Q = nth xs i fun d => Q d M := rfl
theorem ixD_scr : ixD (.scr xs) (.int i) M Q = nth xs i fun d => Q d M := rfl
theorem inD_lst : inD x (.lst ys) M Q = (flatD x = true ∧ ys.all flatD = true ∧ Q (.bl (ys.any fun z => eqF z x)) M) := rfl
theorem inD_tup : inD x (.tup ys) M Q = (flatD x = true ∧ ys.all flatD = true ∧ Q (.bl (ys.any fun z => eqF z x)) M) := rfl
theorem notInD_lst : notInD x (.lst ys) M Q = (flatD x = true ∧ ys.all flatD = true ∧ Q (.bl (!ys.any fun z => eqF z x)) M) := rfl
theorem notInD_tup : notInD x (.tup ys) M Q = (flatD x = true ∧ ys.all flatD = true ∧ Q (.bl (!ys.any fun z => eqF z x)) M) := rfl
theorem slD_lst {lo hi : Option Int} : slD (.lst xs) lo hi M Q = Q (.lst (cutD xs lo hi)) M := rfl
theorem slD_scr {lo hi : Option Int} : slD (.scr xs) lo hi M Q = Q (.lst (cutD xs lo hi)) M := rfl
theorem slD_tup {lo hi : Option Int} : slD (.tup xs) lo hi M Q = Q (.tup (cutD xs lo hi)) M := rfl
theorem revD_lst : revD (.lst xs) M Q = Q (.lst xs.reverse) M := rfl
theorem revMD_lst : revMD (.lst xs) M Q = ∀ p, M p = none → Q (.ref p) (mput M p (.lst xs.reverse)) := rfl
variable {d0 d1 d2 d3 d4 d5 d6 d7 : D}
theorem nth_0 : nth (d0 :: xs) 0 k = k d0 := by
  unfold nth L2.atI ixN
  rw [if_pos (by decide), if_pos (by simp <;> omega)]
  rfl
theorem nth_s {n : Nat} (h : nth xs (n : Int) k = k x) : nth (d0 :: xs) ((n : Int) + 1) k = k x := by
  unfold nth L2.atI ixN at *
  rw [if_pos (by omega)] at *
  by_cases hn : (n : Int) < (xs.length : Int)
  · rw [if_pos hn] at h
    rw [if_pos (by simp; omega)]
    have e : ((n : Int) + 1).toNat = ((n : Int)).toNat + 1 := by omega
    rw [e]
    exact h
  · rw [if_neg hn] at h
    rw [if_neg (by simp <;> omega)]
    exact h
theorem nth_1 : nth (d0 :: d1 :: xs) 1 k = k d1 := nth_s (n := 0) nth_0
theorem nth_2 : nth (d0 :: d1 :: d2 :: xs) 2 k = k d2 := nth_s (n := 1) nth_1
theorem nth_3 : nth (d0 :: d1 :: d2 :: d3 :: xs) 3 k = k d3 := nth_s (n := 2) nth_2
theorem nth_4 : nth (d0 :: d1 :: d2 :: d3 :: d4 :: xs) 4 k = k d4 := nth_s (n := 3) nth_3
theorem nth_5 : nth (d0 :: d1 :: d2 :: d3 :: d4 :: d5 :: xs) 5 k = k d5 := nth_s (n := 4) nth_4
theorem nth_6 : nth (d0 :: d1 :: d2 :: d3 :: d4 :: d5 :: d6 :: xs) 6 k = k d6 := nth_s (n := 5) nth_5
theorem nth_7 : nth (d0 :: d1 :: d2 :: d3 :: d4 :: d5 :: d6 :: d7 :: xs) 7 k = k d7 := nth_s (n := 6) nth_6
theorem nthN_0 : nthN (d0 :: xs) 0 k = k d0 := rfl
theorem nthN_1 : nthN (d0 :: d1 :: xs) 1 k = k d1 := rfl
theorem nthN_2 : nthN (d0 :: d1 :: d2 :: xs) 2 k = k d2 := rfl
theorem nthN_3 : nthN (d0 :: d1 :: d2 :: d3 :: xs) 3 k = k d3 := rfl
theorem nthN_4 : nthN (d0 :: d1 :: d2 :: d3 :: d4 :: xs) 4 k = k d4 := rfl
theorem nthN_5 : nthN (d0 :: d1 :: d2 :: d3 :: d4 :: d5 :: xs) 5 k = k d5 := rfl
theorem nthN_6 : nthN (d0 :: d1 :: d2 :: d3 :: d4 :: d5 :: d6 :: xs) 6 k = k d6 := rfl
theorem srcD_lst {P : List D → (Mem → Prop) → Mem → Prop} : srcD (.lst xs) M P = P xs noGrd M := rfl
theorem srcD_scr {P : List D → (Mem → Prop) → Mem → Prop} : srcD (.scr xs) M P = P xs noGrd M := rfl
theorem srcD_tup {P : List D → (Mem → Prop) → Mem → Prop} : srcD (.tup xs) M P = P xs noGrd M := rfl
theorem fldsD_obj {C : Addr} {ns : List Str} {ds : List D} : fldsD M (.obj C ns ds) = some (C, ns, ds) := rfl
/-- isinstance of what stands there -/
theorem isiD_of {t n : String} {r : Bool} (e : tyNm (view M x) = some t) (h : kitB t n = some (isA t n)) (hr : isA t n = r) : isiD [x, .ty n] M Q = Q (.bl r) M := by
  subst hr
  show (match tyNm (view M x) with | some a => kitB a n = some (isA a n) ∧ Q (.bl (isA a n)) M | none => False) = _
  rw [e]
  exact propext ⟨fun q => q.2, fun q => ⟨h, q⟩⟩
end
section
variable {M : Mem} {Q : QD} {i : Int} {a : Bool} {s : Str} {xs : List D}
theorem isi_non_bool : isiD [.non, .ty "bool"] M Q = Q (.bl false) M := isiD_of (t := "NoneType") rfl (by decide +kernel) (by decide +kernel)
theorem isi_non_int : isiD [.non, .ty "int"] M Q = Q (.bl false) M := isiD_of (t := "NoneType") rfl (by decide +kernel) (by decide +kernel)
theorem isi_non_str : isiD [.non, .ty "str"] M Q = Q (.bl false) M := isiD_of (t := "NoneType") rfl (by decide +kernel) (by decide +kernel)
theorem isi_non_tuple : isiD [.non, .ty "tuple"] M Q = Q (.bl false) M := isiD_of (t := "NoneType") rfl (by decide +kernel) (by decide +kernel)
theorem isi_non_list : isiD [.non, .ty "list"] M Q = Q (.bl false) M := isiD_of (t := "NoneType") rfl (by decide +kernel) (by decide +kernel)
theorem isi_bl_bool : isiD [(.bl a), .ty "bool"] M Q = Q (.bl true) M := isiD_of (t := "bool") rfl (by decide +kernel) (by decide +kernel)
theorem isi_bl_int : isiD [(.bl a), .ty "int"] M Q = Q (.bl true) M := isiD_of (t := "bool") rfl (by decide +kernel) (by decide +kernel)
theorem isi_bl_str : isiD [(.bl a), .ty "str"] M Q = Q (.bl false) M := isiD_of (t := "bool") rfl (by decide +kernel) (by decide +kernel)
theorem isi_bl_tuple : isiD [(.bl a), .ty "tuple"] M Q = Q (.bl false) M := isiD_of (t := "bool") rfl (by decide +kernel) (by decide +kernel)
theorem isi_bl_list : isiD [(.bl a), .ty "list"] M Q = Q (.bl false) M := isiD_of (t := "bool") rfl (by decide +kernel) (by decide +kernel)
theorem isi_int_bool : isiD [(.int i), .ty "bool"] M Q = Q (.bl false) M := isiD_of (t := "int") rfl (by decide +kernel) (by decide +kernel)
theorem isi_int_int : isiD [(.int i), .ty "int"] M Q = Q (.bl true) M := isiD_of (t := "int") rfl (by decide +kernel) (by decide +kernel)
theorem isi_int_str : isiD [(.int i), .ty "str"] M Q = Q (.bl false) M := isiD_of (t := "int") rfl (by decide +kernel) (by decide +kernel)
theorem isi_int_tuple : isiD [(.int i), .ty "tuple"] M Q = Q (.bl false) M := isiD_of (t := "int") rfl (by decide +kernel) (by decide +kernel)
theorem isi_int_list : isiD [(.int i), .ty "list"] M Q = Q (.bl false) M := isiD_of (t := "int") rfl (by decide +kernel) (by decide +kernel)
theorem isi_str_bool : isiD [(.str s), .ty "bool"] M Q = Q (.bl false) M := isiD_of (t := "str") rfl (by decide +kernel) (by decide +kernel)
theorem isi_str_int : isiD [(.str s), .ty "int"] M Q = Q (.bl false) M := isiD_of (t := "str") rfl (by decide +kernel) (by decide +kernel)
theorem isi_str_str : isiD [(.str s), .ty "str"] M Q = Q (.bl true) M := isiD_of (t := "str") rfl (by decide +kernel) (by decide +kernel)
theorem isi_str_tuple : isiD [(.str s), .ty "tuple"] M Q = Q (.bl false) M := isiD_of (t := "str") rfl (by decide +kernel) (by decide +kernel)
theorem isi_str_list : isiD [(.str s), .ty "list"] M Q = Q (.bl false) M := isiD_of (t := "str") rfl (by decide +kernel) (by decide +kernel)
theorem isi_tup_bool : isiD [(.tup xs), .ty "bool"] M Q = Q (.bl false) M := isiD_of (t := "tuple") rfl (by decide +kernel) (by decide +kernel)
theorem isi_tup_int : isiD [(.tup xs), .ty "int"] M Q = Q (.bl false) M := isiD_of (t := "tuple") rfl (by decide +kernel) (by decide +kernel)
theorem isi_tup_str : isiD [(.tup xs), .ty "str"] M Q = Q (.bl false) M := isiD_of (t := "tuple") rfl (by decide +kernel) (by decide +kernel)
theorem isi_tup_tuple : isiD [(.tup xs), .ty "tuple"] M Q = Q (.bl true) M := isiD_of (t := "tuple") rfl (by decide +kernel) (by decide +kernel)
theorem isi_tup_list : isiD [(.tup xs), .ty "list"] M Q = Q (.bl false) M := isiD_of (t := "tuple") rfl (by decide +kernel) (by decide +kernel)
theorem isi_lst_bool : isiD [(.lst xs), .ty "bool"] M Q = Q (.bl false) M := isiD_of (t := "list") rfl (by decide +kernel) (by decide +kernel)
theorem isi_lst_int : isiD [(.lst xs), .ty "int"] M Q = Q (.bl false) M := isiD_of (t := "list") rfl (by decide +kernel) (by decide +kernel)
theorem isi_lst_str : isiD [(.lst xs), .ty "str"] M Q = Q (.bl false) M := isiD_of (t := "list") rfl (by decide +kernel) (by decide +kernel)
theorem isi_lst_tuple : isiD [(.lst xs), .ty "tuple"] M Q = Q (.bl false) M := isiD_of (t := "list") rfl (by decide +kernel) (by decide +kernel)
theorem isi_lst_list : isiD [(.lst xs), .ty "list"] M Q = Q (.bl true) M := isiD_of (t := "list") rfl (by decide +kernel) (by decide +kernel)
end
/-! the letters of a reading are spelled out -/
local macro_rules | `(tactic| walk_at "dl") => `(tactic| simp only [dSeq, dIfS, dTest, dOp, dUn, dVar, dC, look, dAnd, dOr, dNot, dAndV, dOrV, dNotV, dIf, dNil, dCons, dTup, dLst, dLstM, dCB, dNext, dBreak, dCont, dDrop, dRet, dRetN, dAsg, dgName, dgTup, dgCons, dgNil, dgSub, dPar, setMany, dAug, dBM, dBM0, dFld, dCall, dCallN, dSl, dRev, dRevM, dPart, dNoPart, diAny, diRng1, diRng2, diEnum, diZip, dLc, dLcM, dYes, dFor, List.set, List.nil_append, List.cons_append, List.append_nil, List.length_cons, List.length_nil, if_true, if_false, true_and, Bool.false_eq_true, Bool.not_true, Bool.not_false, List.isEmpty_nil])
local macro_rules | `(tactic| walk_at "leaf") => `(tactic| simp only [addD_int, addD_lst, addD_tup, addD_str, iaddD_int, subD_int, mulD_int, mulD_lst, fdivD_int, modD_int, powD_int, negD_int, ltD_int, leD_int, gtD_int, geD_int, eqD_int, eqD_bl, eqD_str, eqD_tup, eqD_lst, neD_int, neD_bl, neD_str, neD_tup, neD_lst, isD_non, isD_bl, notD_non, notD_bl, isNon_non, isNon_int, isNon_bl, isNon_str, isNon_tup, isNon_lst, intD_int, intD_bl, absD_int, max2D_int, min2D_int, lenD_lst, lenD_tup, lenD_scr, tupleD_lst, tupleD_tup, listD_lst, listD_tup, listMD_lst, listMD_tup, ixD_tup, ixD_lst, ixD_scr, inD_lst, inD_tup, notInD_lst, notInD_tup, slD_lst, slD_scr, slD_tup, revD_lst, revMD_lst, nth_0, nth_1, nth_2, nth_3, nth_4, nth_5, nth_6, nth_7, nthN_0, nthN_1, nthN_2, nthN_3, nthN_4, nthN_5, nthN_6, srcD_lst, srcD_scr, srcD_tup, fldsD_obj, isi_non_bool, isi_non_int, isi_non_str, isi_non_tuple, isi_non_list, isi_bl_bool, isi_bl_int, isi_bl_str, isi_bl_tuple, isi_bl_list, isi_int_bool, isi_int_int, isi_int_str, isi_int_tuple, isi_int_list, isi_str_bool, isi_str_int, isi_str_str, isi_str_tuple, isi_str_list, isi_tup_bool, isi_tup_int, isi_tup_str, isi_tup_tuple, isi_tup_list, isi_lst_bool, isi_lst_int, isi_lst_str, isi_lst_tuple, isi_lst_list, if_true, if_false, true_and, Bool.false_eq_true, Bool.not_true, Bool.not_false, List.isEmpty_nil])
local macro_rules | `(tactic| walk_at "all") => `(tactic| simp only [dSeq, dIfS, dTest, dOp, dUn, dVar, dC, look, dAnd, dOr, dNot, dAndV, dOrV, dNotV, dIf, dNil, dCons, dTup, dLst, dLstM, dCB, dNext, dBreak, dCont, dDrop, dRet, dRetN, dAsg, dgName, dgTup, dgCons, dgNil, dgSub, dPar, setMany, dAug, dBM, dBM0, dFld, dCall, dCallN, dSl, dRev, dRevM, dPart, dNoPart, diAny, diRng1, diRng2, diEnum, diZip, dLc, dLcM, dYes, dFor, List.set, List.nil_append, List.cons_append, List.append_nil, List.length_cons, List.length_nil, addD_int, addD_lst, addD_tup, addD_str, iaddD_int, subD_int, mulD_int, mulD_lst, fdivD_int, modD_int, powD_int, negD_int, ltD_int, leD_int, gtD_int, geD_int, eqD_int, eqD_bl, eqD_str, eqD_tup, eqD_lst, neD_int, neD_bl, neD_str, neD_tup, neD_lst, isD_non, isD_bl, notD_non, notD_bl, isNon_non, isNon_int, isNon_bl, isNon_str, isNon_tup, isNon_lst, intD_int, intD_bl, absD_int, max2D_int, min2D_int, lenD_lst, lenD_tup, lenD_scr, tupleD_lst, tupleD_tup, listD_lst, listD_tup, listMD_lst, listMD_tup, ixD_tup, ixD_lst, ixD_scr, inD_lst, inD_tup, notInD_lst, notInD_tup, slD_lst, slD_scr, slD_tup, revD_lst, revMD_lst, nth_0, nth_1, nth_2, nth_3, nth_4, nth_5, nth_6, nth_7, nthN_0, nthN_1, nthN_2, nthN_3, nthN_4, nthN_5, nthN_6, srcD_lst, srcD_scr, srcD_tup, fldsD_obj, isi_non_bool, isi_non_int, isi_non_str, isi_non_tuple, isi_non_list, isi_bl_bool, isi_bl_int, isi_bl_str, isi_bl_tuple, isi_bl_list, isi_int_bool, isi_int_int, isi_int_str, isi_int_tuple, isi_int_list, isi_str_bool, isi_str_int, isi_str_str, isi_str_tuple, isi_str_list, isi_tup_bool, isi_tup_int, isi_tup_str, isi_tup_tuple, isi_tup_list, isi_lst_bool, isi_lst_int, isi_lst_str, isi_lst_tuple, isi_lst_list, if_true, if_false, true_and, Bool.false_eq_true, Bool.not_true, Bool.not_false, List.isEmpty_nil])
/-- x is a source -/
def IsSrc (M : Mem) (x : D) : Prop := ∃ h c, x = .ref h ∧ M h = some (.srcH c) ∧ M c = some .srcC
def S_draw : DSp := fun ds M Q => ∃ x many, ds = [x, .int many] ∧ IsSrc M x ∧ 0 < many ∧ many < 1073741824 ∧ ∀ r, 0 ≤ r → r < many → Q (.int r) M
def S_drawRaw : DSp := fun ds M Q => ∃ h c i ns many, ds = [.ref h, .int many] ∧ h ≠ c ∧ M h = some (.lst [.ref c, .int i]) ∧ M c = some (.lst ((ns : List Int).map D.int)) ∧ 0 ≤ i ∧ (∀ n ∈ ns, 0 ≤ n) ∧ ns.length ≤ 1000 ∧ 0 < many ∧ many < 1073741824 ∧
  ∀ (r i' : Int) (ns' : List Int), 0 ≤ r → r < many → 0 ≤ i' → (∀ n ∈ ns', 0 ≤ n) → ns'.length ≤ 1000 → Q (.int r) (mput (mput M h (.lst [.ref c, .int i'])) c (.lst (ns'.map D.int)))
/-- the body -/
def bDraw (mul add : Int) : TDS :=
  (dSeq (dWhile (dAnd (dTest (dOp neD (dOp ixD (dVar 0) (dC (.int 0))) (dLst dNil))) (dTest (dOp eqD (dOp ixD (dOp ixD (dVar 0) (dC (.int 0))) (dUn negD (dC (.int 1)))) (dC (.int 0)))))
    (dDrop (dBM0 popD (dOp ixD (dVar 0) (dC (.int 0))))))
    (dSeq (dIfS (dTest (dOp neD (dOp ixD (dVar 0) (dC (.int 0))) (dLst dNil)))
    (dSeq (dAsg (dBM0 popD (dOp ixD (dVar 0) (dC (.int 0)))) (dgName 2))
    (dSeq (dDrop (dBM appD (dOp ixD (dVar 0) (dC (.int 0))) (dCons (dOp fdivD (dVar 2) (dVar 1)) dNil)))
    (dRet (dOp modD (dCB intD (dCons (dVar 2) dNil)) (dVar 1)))))
    dNext)
    (dSeq (dAsg (dOp modD (dCB intD (dCons (dOp addD (dOp mulD (dOp ixD (dVar 0) (dC (.int 1))) (dC (.int mul))) (dC (.int add))) dNil)) (dC (.int 2147483647))) (dgSub (dVar 0) (dC (.int 1))))
    (dRet (dOp modD (dCB intD (dCons (dOp fdivD (dOp ixD (dVar 0) (dC (.int 1))) (dC (.int 32))) dNil)) (dVar 1))))))

theorem items_of {M : Mem} {a : Addr} {ds : List D} (h : M a = some (.lst ds)) : itemsD M (.ref a) = some ds := by
  unfold itemsD; rw [view_of h]
theorem isLst_ref {M : Mem} {a : Addr} {ds : List D} (h : M a = some (.lst ds)) : isLstD M (.ref a) := by
  unfold isLstD; rw [view_of h]; trivial
theorem ixr {M : Mem} {a : Addr} {ds : List D} {i : Int} {d : D} {Q : QD} (e : M a = some (.lst ds)) (h : L2.atI ds i = some d) (q : Q d M) : ixD (.ref a) (.int i) M Q := by
  unfold ixD nth
  simp only [items_of e, h]
  exact q
theorem pop_r {M : Mem} {a : Addr} {ds : List D} {d : D} {Q : QD} (e : M a = some (.lst (ds ++ [d]))) (q : Q d (mput M a (.lst ds))) : popD (.ref a) [] M Q := by
  unfold popD nthN
  simp only [e]
  have e1 : (ds ++ [d])[(ds ++ [d]).length - 1]? = some d := by simp
  simp only [e1, List.dropLast_concat]
  exact q
theorem app_r {M : Mem} {a : Addr} {ds : List D} {d : D} {Q : QD} (e : M a = some (.lst ds)) (h : ds.length < sizeLine) (q : Q .non (mput M a (.lst (ds ++ [d])))) : appD (.ref a) [d] M Q := by
  unfold appD
  simp only [e]
  exact ⟨h, q⟩
/-- heap[0], heap[1] of a source -/
theorem ix0 {M : Mem} {h c : Addr} {i : Int} {Q : QD} (e : M h = some (.lst [.ref c, .int i])) (q : Q (.ref c) M) : ixD (.ref h) (.int 0) M Q := by
  unfold ixD
  simp only [items_of e]
  exact q
theorem ix1 {M : Mem} {h c : Addr} {i : Int} {Q : QD} (e : M h = some (.lst [.ref c, .int i])) (q : Q (.int i) M) : ixD (.ref h) (.int 1) M Q := by
  unfold ixD
  simp only [items_of e]
  exact q
theorem ne_nil {M : Mem} {c : Addr} {ns : List Int} {Q : QD} (e : M c = some (.lst (ns.map D.int))) (q : Q (.bl (!ns.isEmpty)) M) : neD (.ref c) (.lst []) M Q := by
  show deepEq (view M (.ref c)) (view M (.lst [])) fun b => Q (.bl (!b)) M
  rw [view_of e]
  exact deepEq_nil q
theorem atI_last {α : Type} {xs : List α} {x : α} : L2.atI (xs ++ [x]) (-1) = some x := by
  unfold L2.atI ixN
  rw [if_neg (by decide), if_pos (by simp; omega)]
  show (xs ++ [x])[(-1 + ((xs ++ [x]).length : Int)).toNat]? = some x
  have e : (-1 + ((xs ++ [x]).length : Int)).toNat = xs.length := by simp; omega
  rw [e]
  simp
theorem sem_drawRaw {mul add : Int} (hm : 0 ≤ mul ∧ mul < 2 ^ 64) (ha : 0 ≤ add) : ∀ ds M Q, S_drawRaw ds M Q → bDraw mul add { nx := fun _ M => Q .non M, rt := Q } (startD ["heap", "many", "rest"] ds) M := by
  rintro ds M Q ⟨h, c, i, ns, many, rfl, hne, eh, ec, hi, hns, hl, h0, hmany, q⟩
  unfold bDraw
  show dWhile _ _ _ [some (.ref h), some (.int many), none] M
  have hcne : h ≠ c := hne
  -- the cells fall
  refine ⟨fun m Γ M' => Γ = [some (.ref h), some (.int many), none] ∧ ∃ ns' : List Int, m = ns'.length ∧ M' = mput M c (.lst (ns'.map D.int)) ∧ (∀ n ∈ ns', 0 ≤ n) ∧ ns'.length ≤ 1000,
    ⟨_, rfl, ns, rfl, (mput_eq ec).symm, hns, hl⟩, ?_⟩
  rintro m Γ M' ⟨rfl, ns', rfl, rfl, hns', hl'⟩
  have eh' : mput M c (.lst (ns'.map D.int)) h = some (.lst [.ref c, .int i]) := by rw [mput_ne hne]; exact eh
  have ec' : mput M c (.lst (ns'.map D.int)) c = some (.lst (ns'.map D.int)) := mput_same
  have rest : dSeq (dIfS (dTest (dOp neD (dOp ixD (dVar 0) (dC (.int 0))) (dLst dNil)))
    (dSeq (dAsg (dBM0 popD (dOp ixD (dVar 0) (dC (.int 0)))) (dgName 2))
    (dSeq (dDrop (dBM appD (dOp ixD (dVar 0) (dC (.int 0))) (dCons (dOp fdivD (dVar 2) (dVar 1)) dNil)))
    (dRet (dOp modD (dCB intD (dCons (dVar 2) dNil)) (dVar 1)))))
    dNext)
    (dSeq (dAsg (dOp modD (dCB intD (dCons (dOp addD (dOp mulD (dOp ixD (dVar 0) (dC (.int 1))) (dC (.int mul))) (dC (.int add))) dNil)) (dC (.int 2147483647))) (dgSub (dVar 0) (dC (.int 1))))
    (dRet (dOp modD (dCB intD (dCons (dOp fdivD (dOp ixD (dVar 0) (dC (.int 1))) (dC (.int 32))) dNil)) (dVar 1)))) { nx := fun _ M => Q .non M, rt := Q } [some (.ref h), some (.int many), none] (mput M c (.lst (ns'.map D.int))) := by
    walk_at "dl"
    refine ix0 eh' ?_
    refine ⟨Nat.zero_le _, ?_⟩
    refine ne_nil ec' ?_
    by_cases hempty : ns' = []
    · subst hempty
      walk_at "dl"
      refine ix1 eh' ?_
      walk_at "leaf"
      refine ⟨.inr ⟨by omega, by omega⟩, by decide, ?_⟩
      unfold setLD
      simp only [eh']
      have hpos : 0 ≤ (i * mul + add) % 2147483647 := Int.emod_nonneg _ (by decide)
      refine ix1 (c := c) (i := (i * mul + add) % 2147483647) mput_same ?_
      walk_at "leaf"
      refine ⟨by decide, h0, ?_⟩
      have e1 : mput (mput M c (.lst (([] : List Int).map D.int))) h (.lst [.ref c, .int ((i * mul + add) % 2147483647)]) = mput (mput M h (.lst [.ref c, .int ((i * mul + add) % 2147483647)])) c (.lst (([] : List Int).map D.int)) := by
        funext b
        by_cases b1 : b = h
        · subst b1; rw [mput_same, mput_ne hne, mput_same]
        · rw [mput_ne b1]
          by_cases b2 : b = c
          · subst b2; rw [mput_same, mput_same]
          · rw [mput_ne b2, mput_ne b2, mput_ne b1]
      have e2 := q ((i * mul + add) % 2147483647 / 32 % many) ((i * mul + add) % 2147483647) [] (Int.emod_nonneg _ (by omega)) (Int.emod_lt_of_pos _ h0) hpos (by simp) (by simp)
      rw [← e1] at e2
      exact e2
    · obtain ⟨ms, x, rfl⟩ : ∃ ms x, ns' = ms ++ [x] := ⟨ns'.dropLast, ns'.getLast hempty, (List.dropLast_concat_getLast hempty).symm⟩
      have e0 : (!(ms ++ [x]).isEmpty) = true := by simp
      rw [e0]
      walk_at "dl"
      refine ix0 eh' ⟨isLst_ref ec', ?_⟩
      unfold popD
      simp only [ec']
      have el : (List.map D.int (ms ++ [x]))[(List.map D.int (ms ++ [x])).length - 1]? = some (.int x) := by simp
      unfold nthN
      simp only [el]
      have ed : (List.map D.int (ms ++ [x])).dropLast = ms.map D.int := by rw [List.map_append]; exact List.dropLast_concat
      rw [ed, mput_mput]
      have eh2 : mput M c (.lst (ms.map D.int)) h = some (.lst [.ref c, .int i]) := by rw [mput_ne hne]; exact eh
      refine ix0 eh2 ⟨isLst_ref mput_same, ?_⟩
      walk_at "leaf"
      refine ⟨⟨h0, hmany⟩, ?_⟩
      unfold appD
      simp only [mput_same]
      refine ⟨by rw [List.length_map, sizeLine_eq]; simp at hl'; omega, h0, ?_⟩
      rw [mput_mput]
      have hx : 0 ≤ x := hns' x (by simp)
      have hd : 0 ≤ x / many := Int.ediv_nonneg hx (by omega)
      have e1 : mput M c (.lst (ms.map D.int ++ [.int (x / many)])) = mput (mput M h (.lst [.ref c, .int i])) c (.lst ((ms ++ [x / many]).map D.int)) := by rw [mput_eq eh, List.map_append]; rfl
      show Q (.int (x % many)) _
      rw [e1]
      exact q (x % many) i (ms ++ [x / many]) (Int.emod_nonneg _ (by omega)) (Int.emod_lt_of_pos _ h0) hi (fun n hn => by
        rcases List.mem_append.mp hn with z | z
        · exact hns' n (by simp [z])
        · rw [List.mem_singleton] at z; rw [z]; exact hd) (by simp at hl' ⊢; exact hl')
  -- the test
  walk_at "dl"
  refine ix0 eh' ⟨Nat.zero_le _, ?_⟩
  refine ne_nil ec' ?_
  by_cases hempty : ns' = []
  · subst hempty
    exact rest
  · obtain ⟨ms, x, rfl⟩ : ∃ ms x, ns' = ms ++ [x] := ⟨ns'.dropLast, ns'.getLast hempty, (List.dropLast_concat_getLast hempty).symm⟩
    have e0 : (!(ms ++ [x]).isEmpty) = true := by simp
    rw [e0]
    walk_at "dl"
    refine ix0 eh' ?_
    walk_at "leaf"
    refine ixr ec' (by rw [List.map_append]; exact atI_last) ?_
    walk_at "leaf"
    by_cases hx : x = 0
    · rw [decide_eq_true hx, if_pos rfl]
      refine ⟨fun Γ M'' => Γ = [some (.ref h), some (.int many), none] ∧ M'' = mput M c (.lst (ms.map D.int)), ?_, ?_⟩
      · rintro Γ' M'' ⟨rfl, rfl⟩
        exact ⟨ms.length, by simp, rfl, ms, rfl, rfl, fun n hn => hns' n (by simp [hn]), by simp at hl'; omega⟩
      · refine ix0 eh' ⟨isLst_ref ec', ?_⟩
        unfold popD
        simp only [ec']
        have el : (List.map D.int (ms ++ [x]))[(List.map D.int (ms ++ [x])).length - 1]? = some (.int x) := by simp
        unfold nthN
        simp only [el]
        have ed : (List.map D.int (ms ++ [x])).dropLast = ms.map D.int := by rw [List.map_append]; exact List.dropLast_concat
        rw [ed, mput_mput]
        exact ⟨trivial, rfl⟩
    · rw [decide_eq_false hx, if_neg Bool.false_ne_true]
      exact rest
end DL

set_option Elab.async false
set_option linter.all false
set_option maxRecDepth 100000
set_option maxHeartbeats 4000000
namespace DL
open PySem PySem.Spec PyProof.Rows L2
local macro_rules | `(tactic| walk_at "dl") => `(tactic| simp only [dSeq, dIfS, dTest, dOp, dUn, dVar, dC, look, dAnd, dOr, dNot, dAndV, dOrV, dNotV, dIf, dNil, dCons, dTup, dLst, dLstM, dCB, dNext, dBreak, dCont, dDrop, dRet, dRetN, dAsg, dgName, dgTup, dgCons, dgNil, dgSub, dPar, setMany, dAug, dBM, dBM0, dFld, dCall, dCallN, dSl, dRev, dRevM, dPart, dNoPart, diAny, diRng1, diRng2, diEnum, diZip, dLc, dLcM, dYes, dFor, List.set, List.nil_append, List.cons_append, List.append_nil, List.length_cons, List.length_nil, if_true, if_false, true_and, Bool.false_eq_true, Bool.not_true, Bool.not_false, List.isEmpty_nil])
local macro_rules | `(tactic| walk_at "leaf") => `(tactic| simp only [addD_int, addD_lst, addD_tup, addD_str, iaddD_int, subD_int, mulD_int, mulD_lst, fdivD_int, modD_int, powD_int, negD_int, ltD_int, leD_int, gtD_int, geD_int, eqD_int, eqD_bl, eqD_str, eqD_tup, eqD_lst, neD_int, neD_bl, neD_str, neD_tup, neD_lst, isD_non, isD_bl, notD_non, notD_bl, isNon_non, isNon_int, isNon_bl, isNon_str, isNon_tup, isNon_lst, intD_int, intD_bl, absD_int, max2D_int, min2D_int, lenD_lst, lenD_tup, lenD_scr, tupleD_lst, tupleD_tup, listD_lst, listD_tup, listMD_lst, listMD_tup, ixD_tup, ixD_lst, ixD_scr, inD_lst, inD_tup, notInD_lst, notInD_tup, slD_lst, slD_scr, slD_tup, revD_lst, revMD_lst, nth_0, nth_1, nth_2, nth_3, nth_4, nth_5, nth_6, nth_7, nthN_0, nthN_1, nthN_2, nthN_3, nthN_4, nthN_5, nthN_6, srcD_lst, srcD_scr, srcD_tup, fldsD_obj, isi_non_bool, isi_non_int, isi_non_str, isi_non_tuple, isi_non_list, isi_bl_bool, isi_bl_int, isi_bl_str, isi_bl_tuple, isi_bl_list, isi_int_bool, isi_int_int, isi_int_str, isi_int_tuple, isi_int_list, isi_str_bool, isi_str_int, isi_str_str, isi_str_tuple, isi_str_list, isi_tup_bool, isi_tup_int, isi_tup_str, isi_tup_tuple, isi_tup_list, isi_lst_bool, isi_lst_int, isi_lst_str, isi_lst_tuple, isi_lst_list, if_true, if_false, true_and, Bool.false_eq_true, Bool.not_true, Bool.not_false, List.isEmpty_nil])
local macro_rules | `(tactic| walk_at "all") => `(tactic| simp only [dSeq, dIfS, dTest, dOp, dUn, dVar, dC, look, dAnd, dOr, dNot, dAndV, dOrV, dNotV, dIf, dNil, dCons, dTup, dLst, dLstM, dCB, dNext, dBreak, dCont, dDrop, dRet, dRetN, dAsg, dgName, dgTup, dgCons, dgNil, dgSub, dPar, setMany, dAug, dBM, dBM0, dFld, dCall, dCallN, dSl, dRev, dRevM, dPart, dNoPart, diAny, diRng1, diRng2, diEnum, diZip, dLc, dLcM, dYes, dFor, List.set, List.nil_append, List.cons_append, List.append_nil, List.length_cons, List.length_nil, addD_int, addD_lst, addD_tup, addD_str, iaddD_int, subD_int, mulD_int, mulD_lst, fdivD_int, modD_int, powD_int, negD_int, ltD_int, leD_int, gtD_int, geD_int, eqD_int, eqD_bl, eqD_str, eqD_tup, eqD_lst, neD_int, neD_bl, neD_str, neD_tup, neD_lst, isD_non, isD_bl, notD_non, notD_bl, isNon_non, isNon_int, isNon_bl, isNon_str, isNon_tup, isNon_lst, intD_int, intD_bl, absD_int, max2D_int, min2D_int, lenD_lst, lenD_tup, lenD_scr, tupleD_lst, tupleD_tup, listD_lst, listD_tup, listMD_lst, listMD_tup, ixD_tup, ixD_lst, ixD_scr, inD_lst, inD_tup, notInD_lst, notInD_tup, slD_lst, slD_scr, slD_tup, revD_lst, revMD_lst, nth_0, nth_1, nth_2, nth_3, nth_4, nth_5, nth_6, nth_7, nthN_0, nthN_1, nthN_2, nthN_3, nthN_4, nthN_5, nthN_6, srcD_lst, srcD_scr, srcD_tup, fldsD_obj, isi_non_bool, isi_non_int, isi_non_str, isi_non_tuple, isi_non_list, isi_bl_bool, isi_bl_int, isi_bl_str, isi_bl_tuple, isi_bl_list, isi_int_bool, isi_int_int, isi_int_str, isi_int_tuple, isi_int_list, isi_str_bool, isi_str_int, isi_str_str, isi_str_tuple, isi_str_list, isi_tup_bool, isi_tup_int, isi_tup_str, isi_tup_tuple, isi_tup_list, isi_lst_bool, isi_lst_int, isi_lst_str, isi_lst_tuple, isi_lst_list, if_true, if_false, true_and, Bool.false_eq_true, Bool.not_true, Bool.not_false, List.isEmpty_nil])
/-! ### comprehensions and loops whose turns are told -/
theorem lc_map {α : Type} {grd : Mem → Prop} {g : TDG} {t : TDT} {e : TD} {Γ : DE} {fin : List D → Mem → Prop} {M : Mem} (enc : α → D) (f : α → Bool) (v : α → D) (hg : grd M) :
    ∀ (xs : List α) (acc : List D), (∀ x ∈ xs, ∀ (Y : QD) (N : Mem → Prop), (f x = true → Y (v x) M) → (f x = false → N M) → g (enc x) Γ M fun Γ1 M1 => t Γ1 M1 fun b M2 => if b = true then e Γ1 M2 Y else N M2) →
      acc.length + xs.length ≤ sizeLine → fin (acc ++ (xs.filter f).map v) M → lcL grd g t e Γ fin (xs.map enc) acc M
  | [], acc, _, _, h => ⟨hg, by simpa using h⟩
  | x :: xs, acc, hs, hl, h => by
    refine ⟨hg, hs x (by simp) _ _ (fun hf => ⟨by simp at hl; omega, ?_⟩) (fun hf => ?_)⟩
    · refine lc_map enc f v hg xs (acc ++ [v x]) (fun y hy => hs y (by simp [hy])) (by simp at hl ⊢; omega) ?_
      rw [List.filter_cons, if_pos hf] at h
      simpa using h
    · refine lc_map enc f v hg xs acc (fun y hy => hs y (by simp [hy])) (by simp at hl ⊢; omega) ?_
      rw [List.filter_cons, if_neg (by rw [hf]; decide)] at h
      exact h
/-- the same where every turn gives -/
theorem lc_all {α : Type} {grd : Mem → Prop} {g : TDG} {t : TDT} {e : TD} {Γ : DE} {fin : List D → Mem → Prop} {M : Mem} (enc : α → D) (v : α → D) (hg : grd M) (xs : List α)
    (hs : ∀ x ∈ xs, ∀ (Y : QD) (N : Mem → Prop), Y (v x) M → g (enc x) Γ M fun Γ1 M1 => t Γ1 M1 fun b M2 => if b = true then e Γ1 M2 Y else N M2) (hl : xs.length ≤ sizeLine) (h : fin (xs.map v) M) : lcL grd g t e Γ fin (xs.map enc) [] M := by
  refine lc_map enc (fun _ => true) v hg xs [] (fun x hx Y N h1 _ => hs x hx Y N (h1 rfl)) (by simpa using hl) ?_
  rw [List.filter_eq_self.mpr (fun _ _ => rfl), List.nil_append]
  exact h

/-- a and b, as values -/
theorem andV_of {p q : Prop} [Decidable p] [Decidable q] {R : Bool → Prop} (h : R (decide (p ∧ q))) : if decide p = true then R (decide q) else R false := by
  by_cases hp : p
  · rw [if_pos (decide_eq_true hp)]
    have e : decide (p ∧ q) = decide q := by simp [hp]
    rw [← e]; exact h
  · rw [if_neg (by simpa using hp)]
    have e : decide (p ∧ q) = false := by simp [hp]
    rw [← e]; exact h
/-! ### opening and closing a source -/
section
variable {K : PySem.W.Frag} {F H : Hp} {M : Mem}
theorem Ok.reput (k : Ok K F H M) {a : Addr} {m0 m : MO} (h : M a = some m0) (q : MOk K F H a m) : Ok K F H (mput M a m) := by
  refine ⟨k.sub, fun b o e => ?_⟩
  by_cases z : b = a
  · subst z; rw [mput_same] at e; cases e; exact ⟨(k.mem b _ h).1, q⟩
  · rw [mput_ne z] at e; exact k.mem b o e
theorem repL_src {vs : List V} {c : Addr} {i : Int} (r : RepL K F vs [.ref c, .int i]) : vs = [.ref c, .int i] := by
  obtain ⟨v, w, rfl, q1, q2⟩ := repL2 r
  cases q1; cases q2; rfl
theorem Ok.closeSrc {M' : Mem} {h c : Addr} {i : Int} {ns : List Int} (k : Ok K F H M') (e1 : M' h = some (.lst [.ref c, .int i])) (e2 : M' c = some (.lst (ns.map D.int))) (hi : 0 ≤ i) (hn : ∀ n ∈ ns, 0 ≤ n) (hl : ns.length ≤ 1000) :
    MOk K F H h (.srcH c) ∧ MOk K F H c .srcC := by
  obtain ⟨_, vs, h1, r1⟩ := k.mem h _ e1
  obtain ⟨_, ws, h2, r2⟩ := k.mem c _ e2
  cases repL_src r1
  cases r2.ints
  exact ⟨⟨i, h1, hi⟩, ns, h2, hn, hl⟩
end
section
variable {P : Program} {w : World} {K : PySem.W.Frag} {mg : Str → Option Value} {base : Heap} {k : Nat} {f : Addr} {fd : FuncData} {ps : List Str}
theorem draw_open (G : FnOk P w K mg base CX0 k f fd ps (spD K S_drawRaw)) : FnOk P w K mg base CX0 k f fd ps (spD K S_draw) := by
  refine G.imp fun vs H Q E h => ?_
  obtain ⟨F, M, ds, Q0, k, r, ⟨x, many, rfl, ⟨hh, c, rfl, eh, ec⟩, h0, h1, q⟩, cv⟩ := h
  obtain ⟨_, i, hH, hi⟩ := k.mem hh _ eh
  obtain ⟨_, ns, hC, hns, hl⟩ := k.mem c _ ec
  have hne : hh ≠ c := fun z => by rw [z, ec] at eh; cases eh
  have k1 := (k.reput eh (m := .lst [.ref c, .int i]) ⟨_, hH, .cons (.ref c) (.cons (.int i) .nil)⟩).reput (a := c) (m0 := .srcC) (m := .lst (ns.map D.int)) (by rw [mput_ne hne.symm]; exact ec) ⟨_, hC, RepL.ofInts ns⟩
  have a1 : mput (mput M hh (.lst [.ref c, .int i])) c (.lst (ns.map D.int)) hh = some (.lst [.ref c, .int i]) := by rw [mput_ne hne, mput_same]
  have a2 : mput (mput M hh (.lst [.ref c, .int i])) c (.lst (ns.map D.int)) c = some (.lst (ns.map D.int)) := mput_same
  refine ⟨F, _, _, fun x M' => ∃ (i' : Int) (ns' : List Int), 0 ≤ i' ∧ (∀ n ∈ ns', 0 ≤ n) ∧ ns'.length ≤ 1000 ∧ M' = mput (mput (mput (mput M hh (.lst [.ref c, .int i])) c (.lst (ns.map D.int))) hh (.lst [.ref c, .int i'])) c (.lst (ns'.map D.int)) ∧ Q0 x M, k1, r,
    ⟨hh, c, i, ns, many, rfl, hne, a1, a2, hi, hns, hl, h0, h1, fun r i' ns' r0 r1 hi' hns' hl' => ⟨i', ns', hi', hns', hl', rfl, q r r0 r1⟩⟩, ?_⟩
  rintro v F' H' M' y g k' rv ⟨i', ns', hi', hns', hl', rfl, hq⟩
  have b1 : mput (mput (mput (mput M hh (.lst [.ref c, .int i])) c (.lst (ns.map D.int))) hh (.lst [.ref c, .int i'])) c (.lst (ns'.map D.int)) hh = some (.lst [.ref c, .int i']) := by rw [mput_ne hne, mput_same]
  have b2 : mput (mput (mput (mput M hh (.lst [.ref c, .int i])) c (.lst (ns.map D.int))) hh (.lst [.ref c, .int i'])) c (.lst (ns'.map D.int)) c = some (.lst (ns'.map D.int)) := mput_same
  obtain ⟨m1, m2⟩ := k'.closeSrc b1 b2 hi' hns' hl'
  have oth : ∀ b, b ≠ hh → b ≠ c → mput (mput (mput (mput M hh (.lst [.ref c, .int i])) c (.lst (ns.map D.int))) hh (.lst [.ref c, .int i'])) c (.lst (ns'.map D.int)) b = M b := fun b z1 z2 => by
    rw [mput_ne z2, mput_ne z1, mput_ne z2, mput_ne z1]
  refine cv v F' H' M y ⟨g.ext, fun b o g1 g2 g3 => ?_⟩ ⟨k'.sub, fun b o e => ?_⟩ rv hq
  · have z1 : b ≠ hh := fun z => by rw [z, eh] at g3; cases g3
    have z2 : b ≠ c := fun z => by rw [z, ec] at g3; cases g3
    have q := g.fr b o g1 g2 (by rw [mput_ne z2, mput_ne z1]; exact g3)
    exact ⟨q.1, q.2.1, g3⟩
  · by_cases z1 : b = hh
    · subst z1; rw [eh] at e; cases e; exact ⟨(k'.mem b _ b1).1, m1⟩
    · by_cases z2 : b = c
      · subst z2; rw [ec] at e; cases e; exact ⟨(k'.mem b _ b2).1, m2⟩
      · exact k'.mem b o (by rw [oth b z1 z2]; exact e)
end

/-! ### where it comes from -/
def S_heapRaw : DSp := fun ds M Q => ∃ ns : List Int, ds = [.scr (ns.map D.int)] ∧ ns.length ≤ 63 ∧ ∀ (h c : Addr) (i : Int) (ns' : List Int), M c = none → mput M c (.lst (ns'.map D.int)) h = none → 0 ≤ i → (∀ n ∈ ns', 0 ≤ n) → ns'.length ≤ 1000 →
  Q (.ref h) (mput (mput M c (.lst (ns'.map D.int))) h (.lst [.ref c, .int i]))
def S_heap : DSp := fun ds M Q => ∃ ns : List Int, ds = [.scr (ns.map D.int)] ∧ ns.length ≤ 63 ∧ ∀ (h c : Addr), M h = none → M c = none → h ≠ c → Q (.ref h) (mput (mput M c .srcC) h (.srcH c))
section
variable {P : Program} {w : World} {K : PySem.W.Frag} {mg : Str → Option Value} {base : Heap} {k : Nat} {f : Addr} {fd : FuncData} {ps : List Str}
theorem heap_open (G : FnOk P w K mg base CX0 k f fd ps (spD K S_heapRaw)) : FnOk P w K mg base CX0 k f fd ps (spD K S_heap) := by
  refine G.imp fun vs H Q E h => ?_
  obtain ⟨F, M, ds, Q0, k, r, ⟨ns, rfl, hl, q⟩, cv⟩ := h
  refine ⟨F, M, _, fun x M' => ∃ (hh c : Addr) (i : Int) (ns' : List Int), x = .ref hh ∧ M hh = none ∧ M c = none ∧ hh ≠ c ∧ 0 ≤ i ∧ (∀ n ∈ ns', 0 ≤ n) ∧ ns'.length ≤ 1000 ∧ M' = mput (mput M c (.lst (ns'.map D.int))) hh (.lst [.ref c, .int i]) ∧ Q0 x (mput (mput M c .srcC) hh (.srcH c)), k, r,
    ⟨ns, rfl, hl, fun hh c i ns' hc hh0 hi hns' hl' => ?_⟩, ?_⟩
  · have hne : hh ≠ c := fun z => by rw [z, mput_same] at hh0; cases hh0
    have hm : M hh = none := by rw [mput_ne hne] at hh0; exact hh0
    exact ⟨hh, c, i, ns', rfl, hm, hc, hne, hi, hns', hl', rfl, q hh c hm hc hne⟩
  · rintro v F' H' M' y g k' rv ⟨hh, c, i, ns', rfl, hm, hc, hne, hi, hns', hl', rfl, hq⟩
    have b1 : mput (mput M c (.lst (ns'.map D.int))) hh (.lst [.ref c, .int i]) hh = some (.lst [.ref c, .int i]) := mput_same
    have b2 : mput (mput M c (.lst (ns'.map D.int))) hh (.lst [.ref c, .int i]) c = some (.lst (ns'.map D.int)) := by rw [mput_ne hne.symm, mput_same]
    obtain ⟨m1, m2⟩ := k'.closeSrc b1 b2 hi hns' hl'
    refine cv v F' H' _ _ ⟨g.ext, fun b o g1 g2 g3 => ?_⟩ ⟨k'.sub, fun b o e => ?_⟩ rv hq
    · have q := g.fr b o g1 g2 g3
      refine ⟨q.1, q.2.1, ?_⟩
      have z1 : b ≠ hh := fun z => by have z3 := q.2.2; rw [z, b1] at z3; cases z3
      have z2 : b ≠ c := fun z => by have z3 := q.2.2; rw [z, b2] at z3; cases z3
      rw [mput_ne z1, mput_ne z2]; exact g3
    · by_cases z1 : b = hh
      · subst z1; rw [mput_same] at e; cases e; exact ⟨(k'.mem b _ b1).1, m1⟩
      · by_cases z2 : b = c
        · subst z2; rw [mput_ne z1, mput_same] at e; cases e; exact ⟨(k'.mem b _ b2).1, m2⟩
        · exact k'.mem b o (by rw [mput_ne z1, mput_ne z2] at e ⊢; exact e)
end
def bHeap (seed mul add : Int) : TDS :=
  (dSeq (dPar [2, 3] (dCons (dLc (diAny (dSl (dVar 0) dNoPart (dPart (dC (.int 60))))) (dgName 1) dYes (dOp addD (dOp mulD (dC (.int 2)) (dCB absD (dCons (dVar 1) dNil))) (dCB intD (dCons (dOp ltD (dVar 1) (dC (.int 0))) dNil))) [1]) (dCons (dC (.int seed)) dNil)))
    (dSeq (dFor (diAny (dVar 2)) (dgName 1)
    (dAsg (dOp modD (dCB intD (dCons (dOp addD (dOp addD (dOp mulD (dVar 3) (dC (.int mul))) (dOp modD (dCB intD (dCons (dVar 1) dNil)) (dC (.int 2147483563)))) (dC (.int add))) dNil)) (dC (.int 2147483647))) (dgName 3)))
    (dRet (dLstM (dCons (dRevM (dLc (diAny (dVar 2)) (dgName 1) (dTest (dOp geD (dVar 1) (dOp powD (dC (.int 10)) (dC (.int 18))))) (dVar 1) [1])) (dCons (dVar 3) dNil))))))
def cellN (x : Int) : Int := 2 * (if x < 0 then -x else x) + (if decide (x < 0) = true then 1 else 0)
theorem cellN_pos (x : Int) : 0 ≤ cellN x := by unfold cellN; split <;> simp_all <;> omega
theorem sem_heapRaw {seed mul add : Int} (h1 : 0 ≤ seed) (h2 : 0 ≤ mul ∧ mul < 2 ^ 64) (h3 : 0 ≤ add) : ∀ ds M Q, S_heapRaw ds M Q → bHeap seed mul add { nx := fun _ M => Q .non M, rt := Q } (startD ["script", "cell", "cells", "stir"] ds) M := by
  rintro ds M Q ⟨ns, rfl, hl, q⟩
  unfold bHeap
  show dSeq _ _ _ [some (.scr (ns.map D.int)), none, none, none] M
  walk_at "all"
  have e1 : cutD (ns.map D.int) none (some 60) = (ns.take (min 60 ns.length)).map D.int := by
    unfold cutD
    simp only [HT.sIx, List.length_map, List.drop_zero, Nat.sub_zero]
    rw [if_neg (by decide), List.map_take]
    rfl
  rw [e1]
  refine lc_all D.int (fun x => .int (cellN x)) trivial _ (fun x _ Y N hY => ?_) (by rw [sizeLine_eq]; simp; omega) ?_
  · simp only [wipeD]
    walk_at "all"
    exact ⟨.inl (by decide), hY⟩
  · have e2 : (ns.take (min 60 ns.length)).map (fun x => D.int (cellN x)) = ((ns.take (min 60 ns.length)).map cellN).map D.int := by rw [List.map_map]; rfl
    rw [e2]
    have hpos : ∀ n ∈ (ns.take (min 60 ns.length)).map cellN, 0 ≤ n := fun n hn => by
      obtain ⟨x, _, rfl⟩ := List.mem_map.mp hn
      exact cellN_pos x
    have hlen : ((ns.take (min 60 ns.length)).map cellN).length ≤ 60 := by simp; omega
    generalize (ns.take (min 60 ns.length)).map cellN = cs at hpos hlen
    -- behind the loop
    have fin : ∀ (o : Option D) (stir : Int), 0 ≤ stir → dRet (dLstM (dCons (dRevM (dLc (diAny (dVar 2)) (dgName 1) (dTest (dOp geD (dVar 1) (dOp powD (dC (.int 10)) (dC (.int 18))))) (dVar 1) [1])) (dCons (dVar 3) dNil))) { nx := fun _ M => Q .non M, rt := Q } [some (.scr (ns.map D.int)), o, some (.lst (cs.map D.int)), some (.int stir)] M := by
      intro o stir hs
      walk_at "all"
      have e3 : ∀ Q' : List D → Mem → Prop, (∀ ms : List Int, (∀ n ∈ ms, 0 ≤ n) → ms.length ≤ 60 → Q' (ms.map D.int) M) → lcL noGrd (dgName 1) (dTest (dOp geD (dVar 1) (dOp powD (dC (.int 10)) (dC (.int 18))))) (dVar 1) (wipeD [some (.scr (ns.map D.int)), o, some (.lst (cs.map D.int)), some (.int stir)] [1]) Q' (cs.map D.int) [] M := by
        intro Q' hQ'
        refine lc_map D.int (fun x => decide ((10 : Int) ^ (18 : Int).toNat ≤ x)) D.int trivial cs [] (fun x _ Y N hY hN => ?_) (by rw [sizeLine_eq]; simp; omega) ?_
        · simp only [wipeD]
          walk_at "all"
          refine ⟨by decide, ?_⟩
          split
          · rename_i hx; exact hY hx
          · rename_i hx; exact hN (Bool.eq_false_iff.mpr hx)
        · rw [List.nil_append]
          refine hQ' (cs.filter _) (fun n hn => hpos n (List.mem_filter.mp hn).1) (Nat.le_trans (List.length_filter_le _ _) hlen)
      refine e3 _ fun ms hms hml => ?_
      intro c hc
      refine ⟨by decide, fun h hh => ?_⟩
      rw [← List.map_reverse] at hh ⊢
      exact q h c stir ms.reverse hc hh hs (fun n hn => hms n (by simpa using hn)) (by simp; omega)
    have loop : ∀ (ms : List Int) (o : Option D) (stir : Int), 0 ≤ stir → forL noGrd (dgName 1) (dAsg (dOp modD (dCB intD (dCons (dOp addD (dOp addD (dOp mulD (dVar 3) (dC (.int mul))) (dOp modD (dCB intD (dCons (dVar 1) dNil)) (dC (.int 2147483563)))) (dC (.int add))) dNil)) (dC (.int 2147483647))) (dgName 3))
        { nx := dRet (dLstM (dCons (dRevM (dLc (diAny (dVar 2)) (dgName 1) (dTest (dOp geD (dVar 1) (dOp powD (dC (.int 10)) (dC (.int 18))))) (dVar 1) [1])) (dCons (dVar 3) dNil))) { nx := fun _ M => Q .non M, rt := Q }, rt := Q } (ms.map D.int) [some (.scr (ns.map D.int)), o, some (.lst (cs.map D.int)), some (.int stir)] M := by
      intro ms
      induction ms with
      | nil => intro o stir hs; exact ⟨trivial, fin o stir hs⟩
      | cons x ms ih =>
        intro o stir hs
        refine ⟨trivial, ?_⟩
        walk_at "all"
        refine ⟨.inr ⟨by omega, by omega⟩, by decide, by decide, ?_⟩
        exact ih _ _ (Int.emod_nonneg _ (by decide))
    have z := loop cs none seed h1
    exact z
/-- one of some things -/
def S_pick : DSp := fun ds M Q => ∃ x y some_, ds = [x, y] ∧ IsSrc M x ∧ itemsD M y = some some_ ∧ 0 < some_.length ∧ some_.length < 1073741824 ∧ ∀ d ∈ some_, Q d M
end DL

set_option Elab.async false
set_option linter.all false
set_option maxRecDepth 100000
set_option maxHeartbeats 4000000
/-! Steps of reading, one at a time. -/
namespace DL
open PySem PySem.Spec PyProof.Rows L2
local macro_rules | `(tactic| walk_at "dl") => `(tactic| simp only [dSeq, dIfS, dTest, dOp, dUn, dVar, dC, look, dAnd, dOr, dNot, dAndV, dOrV, dNotV, dIf, dNil, dCons, dTup, dLst, dLstM, dCB, dNext, dBreak, dCont, dDrop, dRet, dRetN, dAsg, dgName, dgTup, dgCons, dgNil, dgSub, dPar, setMany, dAug, dBM, dBM0, dFld, dCall, dCallN, dSl, dRev, dRevM, dPart, dNoPart, diAny, diRng1, diRng2, diEnum, diZip, dLc, dLcM, dYes, dFor, List.set, List.nil_append, List.cons_append, List.append_nil, List.length_cons, List.length_nil, if_true, if_false, true_and, Bool.false_eq_true, Bool.not_true, Bool.not_false, List.isEmpty_nil])
local macro_rules | `(tactic| walk_at "leaf") => `(tactic| simp only [addD_int, addD_lst, addD_tup, addD_str, iaddD_int, subD_int, mulD_int, mulD_lst, fdivD_int, modD_int, powD_int, negD_int, ltD_int, leD_int, gtD_int, geD_int, eqD_int, eqD_bl, eqD_str, eqD_tup, eqD_lst, neD_int, neD_bl, neD_str, neD_tup, neD_lst, isD_non, isD_bl, notD_non, notD_bl, isNon_non, isNon_int, isNon_bl, isNon_str, isNon_tup, isNon_lst, intD_int, intD_bl, absD_int, max2D_int, min2D_int, lenD_lst, lenD_tup, lenD_scr, tupleD_lst, tupleD_tup, listD_lst, listD_tup, listMD_lst, listMD_tup, ixD_tup, ixD_lst, ixD_scr, inD_lst, inD_tup, notInD_lst, notInD_tup, slD_lst, slD_scr, slD_tup, revD_lst, revMD_lst, nth_0, nth_1, nth_2, nth_3, nth_4, nth_5, nth_6, nth_7, nthN_0, nthN_1, nthN_2, nthN_3, nthN_4, nthN_5, nthN_6, srcD_lst, srcD_scr, srcD_tup, fldsD_obj, isi_non_bool, isi_non_int, isi_non_str, isi_non_tuple, isi_non_list, isi_bl_bool, isi_bl_int, isi_bl_str, isi_bl_tuple, isi_bl_list, isi_int_bool, isi_int_int, isi_int_str, isi_int_tuple, isi_int_list, isi_str_bool, isi_str_int, isi_str_str, isi_str_tuple, isi_str_list, isi_tup_bool, isi_tup_int, isi_tup_str, isi_tup_tuple, isi_tup_list, isi_lst_bool, isi_lst_int, isi_lst_str, isi_lst_tuple, isi_lst_list, if_true, if_false, true_and, Bool.false_eq_true, Bool.not_true, Bool.not_false, List.isEmpty_nil])
local macro_rules | `(tactic| walk_at "all") => `(tactic| simp only [dSeq, dIfS, dTest, dOp, dUn, dVar, dC, look, dAnd, dOr, dNot, dAndV, dOrV, dNotV, dIf, dNil, dCons, dTup, dLst, dLstM, dCB, dNext, dBreak, dCont, dDrop, dRet, dRetN, dAsg, dgName, dgTup, dgCons, dgNil, dgSub, dPar, setMany, dAug, dBM, dBM0, dFld, dCall, dCallN, dSl, dRev, dRevM, dPart, dNoPart, diAny, diRng1, diRng2, diEnum, diZip, dLc, dLcM, dYes, dFor, List.set, List.nil_append, List.cons_append, List.append_nil, List.length_cons, List.length_nil, addD_int, addD_lst, addD_tup, addD_str, iaddD_int, subD_int, mulD_int, mulD_lst, fdivD_int, modD_int, powD_int, negD_int, ltD_int, leD_int, gtD_int, geD_int, eqD_int, eqD_bl, eqD_str, eqD_tup, eqD_lst, neD_int, neD_bl, neD_str, neD_tup, neD_lst, isD_non, isD_bl, notD_non, notD_bl, isNon_non, isNon_int, isNon_bl, isNon_str, isNon_tup, isNon_lst, intD_int, intD_bl, absD_int, max2D_int, min2D_int, lenD_lst, lenD_tup, lenD_scr, tupleD_lst, tupleD_tup, listD_lst, listD_tup, listMD_lst, listMD_tup, ixD_tup, ixD_lst, ixD_scr, inD_lst, inD_tup, notInD_lst, notInD_tup, slD_lst, slD_scr, slD_tup, revD_lst, revMD_lst, nth_0, nth_1, nth_2, nth_3, nth_4, nth_5, nth_6, nth_7, nthN_0, nthN_1, nthN_2, nthN_3, nthN_4, nthN_5, nthN_6, srcD_lst, srcD_scr, srcD_tup, fldsD_obj, isi_non_bool, isi_non_int, isi_non_str, isi_non_tuple, isi_non_list, isi_bl_bool, isi_bl_int, isi_bl_str, isi_bl_tuple, isi_bl_list, isi_int_bool, isi_int_int, isi_int_str, isi_int_tuple, isi_int_list, isi_str_bool, isi_str_int, isi_str_str, isi_str_tuple, isi_str_list, isi_tup_bool, isi_tup_int, isi_tup_str, isi_tup_tuple, isi_tup_list, isi_lst_bool, isi_lst_int, isi_lst_str, isi_lst_tuple, isi_lst_list, if_true, if_false, true_and, Bool.false_eq_true, Bool.not_true, Bool.not_false, List.isEmpty_nil])
local macro_rules | `(tactic| walk_at "one") => `(tactic| simp only [dIfS, dTest, dOp, dUn, dVar, dC, look, dAnd, dOr, dNot, dAndV, dOrV, dNotV, dIf, dNil, dCons, dTup, dLst, dLstM, dCB, dNext, dBreak, dCont, dDrop, dRet, dRetN, dAsg, dgName, dgTup, dgCons, dgNil, dgSub, dPar, setMany, dAug, dBM, dBM0, dFld, dCall, dCallN, dSl, dRev, dRevM, dPart, dNoPart, diAny, diRng1, diRng2, diEnum, diZip, dLc, dLcM, dYes, dFor, List.set, List.nil_append, List.cons_append, List.append_nil, List.length_cons, List.length_nil, addD_int, addD_lst, addD_tup, addD_str, iaddD_int, subD_int, mulD_int, mulD_lst, fdivD_int, modD_int, powD_int, negD_int, ltD_int, leD_int, gtD_int, geD_int, eqD_int, eqD_bl, eqD_str, eqD_tup, eqD_lst, neD_int, neD_bl, neD_str, neD_tup, neD_lst, isD_non, isD_bl, notD_non, notD_bl, isNon_non, isNon_int, isNon_bl, isNon_str, isNon_tup, isNon_lst, intD_int, intD_bl, absD_int, max2D_int, min2D_int, lenD_lst, lenD_tup, lenD_scr, tupleD_lst, tupleD_tup, listD_lst, listD_tup, listMD_lst, listMD_tup, ixD_tup, ixD_lst, ixD_scr, inD_lst, inD_tup, notInD_lst, notInD_tup, slD_lst, slD_scr, slD_tup, revD_lst, revMD_lst, nth_0, nth_1, nth_2, nth_3, nth_4, nth_5, nth_6, nth_7, nthN_0, nthN_1, nthN_2, nthN_3, nthN_4, nthN_5, nthN_6, srcD_lst, srcD_scr, srcD_tup, fldsD_obj, isi_non_bool, isi_non_int, isi_non_str, isi_non_tuple, isi_non_list, isi_bl_bool, isi_bl_int, isi_bl_str, isi_bl_tuple, isi_bl_list, isi_int_bool, isi_int_int, isi_int_str, isi_int_tuple, isi_int_list, isi_str_bool, isi_str_int, isi_str_str, isi_str_tuple, isi_str_list, isi_tup_bool, isi_tup_int, isi_tup_str, isi_tup_tuple, isi_tup_list, isi_lst_bool, isi_lst_int, isi_lst_str, isi_lst_tuple, isi_lst_list, if_true, if_false, true_and, Bool.false_eq_true, Bool.not_true, Bool.not_false, List.isEmpty_nil])
theorem ite_dec {p A B : Prop} [Decidable p] (h1 : p → A) (h2 : ¬p → B) : if decide p = true then A else B := by
  by_cases h : p
  · rw [if_pos (decide_eq_true h)]; exact h1 h
  · rw [if_neg (by simpa using h)]; exact h2 h
theorem ite_nodec {p A B : Prop} [Decidable p] (h1 : p → B) (h2 : ¬p → A) : if (!decide p) = true then A else B := by
  by_cases h : p
  · rw [if_neg (by simpa using h)]; exact h1 h
  · rw [if_pos (by simpa using h)]; exact h2 h
theorem ite_bool {b : Bool} {A B : Prop} (h1 : b = true → A) (h2 : b = false → B) : if b = true then A else B := by
  cases b with
  | false => rw [if_neg (by decide)]; exact h2 rfl
  | true => rw [if_pos rfl]; exact h1 rfl
theorem dSeq_ {a b : TDS} {E : DEnds} {Γ : DE} {M : Mem} (h : a { E with nx := b E } Γ M) : dSeq a b E Γ M := h
theorem setNew_ {C : Addr} {f : Str} {o a : TD} {E : DEnds} {Γ : DE} {M : Mem} {p : Addr} {y : D} {ns : List Str} {ds : List D} (ha : ∀ Q : QD, Q y M → a Γ M Q) (ho : ∀ Q : QD, Q (.ref p) M → o Γ M Q) (hp : M p = some (.ins C ns ds)) (hl : ns.length < 1000) (hf : ns.contains f = false)
    (h : E.nx Γ (mput M p (.ins C (ns ++ [f]) (ds ++ [y])))) : dSetNew C f o a E Γ M := by
  refine ha _ (ho _ ?_)
  show match M p with
    | some (.ins C' ns ds) => C' = C ∧ ns.length < 1000 ∧ ns.contains f = false ∧ E.nx Γ (mput M p (.ins C (ns ++ [f]) (ds ++ [y])))
    | _ => False
  rw [hp]
  exact ⟨rfl, hl, hf, h⟩
theorem seqNew_ {C : Addr} {f : Str} {o a : TD} {T : TDS} {E : DEnds} {Γ : DE} {M : Mem} {p : Addr} {y : D} {ns : List Str} {ds : List D} (ha : ∀ Q : QD, Q y M → a Γ M Q) (ho : ∀ Q : QD, Q (.ref p) M → o Γ M Q) (hp : M p = some (.ins C ns ds)) (hl : ns.length < 1000) (hf : ns.contains f = false)
    (h : T E Γ (mput M p (.ins C (ns ++ [f]) (ds ++ [y])))) : dSeq (dSetNew C f o a) T E Γ M := dSeq_ (setNew_ ha ho hp hl hf h)
section
variable {a b c d e f : D}
theorem enumD_0 : enumD [] = [] := rfl
theorem enumD_1 : enumD [a] = [.tup [.int 0, a]] := rfl
theorem enumD_2 : enumD [a, b] = [.tup [.int 0, a], .tup [.int 1, b]] := rfl
theorem enumD_3 : enumD [a, b, c] = [.tup [.int 0, a], .tup [.int 1, b], .tup [.int 2, c]] := rfl
theorem enumD_4 : enumD [a, b, c, d] = [.tup [.int 0, a], .tup [.int 1, b], .tup [.int 2, c], .tup [.int 3, d]] := rfl
theorem enumD_5 : enumD [a, b, c, d, e] = [.tup [.int 0, a], .tup [.int 1, b], .tup [.int 2, c], .tup [.int 3, d], .tup [.int 4, e]] := rfl
end
end DL

set_option Elab.async false
set_option linter.all false
set_option maxRecDepth 100000
set_option maxHeartbeats 4000000
/-! One of some, and two answers that are one. -/
namespace DL
open PySem PySem.Spec PyProof.Rows L2
local macro_rules | `(tactic| walk_at "dl") => `(tactic| simp only [dSeq, dIfS, dTest, dOp, dUn, dVar, dC, look, dAnd, dOr, dNot, dAndV, dOrV, dNotV, dIf, dNil, dCons, dTup, dLst, dLstM, dCB, dNext, dBreak, dCont, dDrop, dRet, dRetN, dAsg, dgName, dgTup, dgCons, dgNil, dgSub, dPar, setMany, dAug, dBM, dBM0, dFld, dCall, dCallN, dSl, dRev, dRevM, dPart, dNoPart, diAny, diRng1, diRng2, diEnum, diZip, dLc, dLcM, dYes, dFor, List.set, List.nil_append, List.cons_append, List.append_nil, List.length_cons, List.length_nil, if_true, if_false, true_and, Bool.false_eq_true, Bool.not_true, Bool.not_false, List.isEmpty_nil])
local macro_rules | `(tactic| walk_at "leaf") => `(tactic| simp only [addD_int, addD_lst, addD_tup, addD_str, iaddD_int, subD_int, mulD_int, mulD_lst, fdivD_int, modD_int, powD_int, negD_int, ltD_int, leD_int, gtD_int, geD_int, eqD_int, eqD_bl, eqD_str, eqD_tup, eqD_lst, neD_int, neD_bl, neD_str, neD_tup, neD_lst, isD_non, isD_bl, notD_non, notD_bl, isNon_non, isNon_int, isNon_bl, isNon_str, isNon_tup, isNon_lst, intD_int, intD_bl, absD_int, max2D_int, min2D_int, lenD_lst, lenD_tup, lenD_scr, tupleD_lst, tupleD_tup, listD_lst, listD_tup, listMD_lst, listMD_tup, ixD_tup, ixD_lst, ixD_scr, inD_lst, inD_tup, notInD_lst, notInD_tup, slD_lst, slD_scr, slD_tup, revD_lst, revMD_lst, nth_0, nth_1, nth_2, nth_3, nth_4, nth_5, nth_6, nth_7, nthN_0, nthN_1, nthN_2, nthN_3, nthN_4, nthN_5, nthN_6, srcD_lst, srcD_scr, srcD_tup, fldsD_obj, isi_non_bool, isi_non_int, isi_non_str, isi_non_tuple, isi_non_list, isi_bl_bool, isi_bl_int, isi_bl_str, isi_bl_tuple, isi_bl_list, isi_int_bool, isi_int_int, isi_int_str, isi_int_tuple, isi_int_list, isi_str_bool, isi_str_int, isi_str_str, isi_str_tuple, isi_str_list, isi_tup_bool, isi_tup_int, isi_tup_str, isi_tup_tuple, isi_tup_list, isi_lst_bool, isi_lst_int, isi_lst_str, isi_lst_tuple, isi_lst_list, if_true, if_false, true_and, Bool.false_eq_true, Bool.not_true, Bool.not_false, List.isEmpty_nil])
local macro_rules | `(tactic| walk_at "all") => `(tactic| simp only [dSeq, dIfS, dTest, dOp, dUn, dVar, dC, look, dAnd, dOr, dNot, dAndV, dOrV, dNotV, dIf, dNil, dCons, dTup, dLst, dLstM, dCB, dNext, dBreak, dCont, dDrop, dRet, dRetN, dAsg, dgName, dgTup, dgCons, dgNil, dgSub, dPar, setMany, dAug, dBM, dBM0, dFld, dCall, dCallN, dSl, dRev, dRevM, dPart, dNoPart, diAny, diRng1, diRng2, diEnum, diZip, dLc, dLcM, dYes, dFor, List.set, List.nil_append, List.cons_append, List.append_nil, List.length_cons, List.length_nil, addD_int, addD_lst, addD_tup, addD_str, iaddD_int, subD_int, mulD_int, mulD_lst, fdivD_int, modD_int, powD_int, negD_int, ltD_int, leD_int, gtD_int, geD_int, eqD_int, eqD_bl, eqD_str, eqD_tup, eqD_lst, neD_int, neD_bl, neD_str, neD_tup, neD_lst, isD_non, isD_bl, notD_non, notD_bl, isNon_non, isNon_int, isNon_bl, isNon_str, isNon_tup, isNon_lst, intD_int, intD_bl, absD_int, max2D_int, min2D_int, lenD_lst, lenD_tup, lenD_scr, tupleD_lst, tupleD_tup, listD_lst, listD_tup, listMD_lst, listMD_tup, ixD_tup, ixD_lst, ixD_scr, inD_lst, inD_tup, notInD_lst, notInD_tup, slD_lst, slD_scr, slD_tup, revD_lst, revMD_lst, nth_0, nth_1, nth_2, nth_3, nth_4, nth_5, nth_6, nth_7, nthN_0, nthN_1, nthN_2, nthN_3, nthN_4, nthN_5, nthN_6, srcD_lst, srcD_scr, srcD_tup, fldsD_obj, isi_non_bool, isi_non_int, isi_non_str, isi_non_tuple, isi_non_list, isi_bl_bool, isi_bl_int, isi_bl_str, isi_bl_tuple, isi_bl_list, isi_int_bool, isi_int_int, isi_int_str, isi_int_tuple, isi_int_list, isi_str_bool, isi_str_int, isi_str_str, isi_str_tuple, isi_str_list, isi_tup_bool, isi_tup_int, isi_tup_str, isi_tup_tuple, isi_tup_list, isi_lst_bool, isi_lst_int, isi_lst_str, isi_lst_tuple, isi_lst_list, if_true, if_false, true_and, Bool.false_eq_true, Bool.not_true, Bool.not_false, List.isEmpty_nil])
local macro_rules | `(tactic| walk_at "one") => `(tactic| simp only [dIfS, dTest, dOp, dUn, dVar, dC, look, dAnd, dOr, dNot, dAndV, dOrV, dNotV, dIf, dNil, dCons, dTup, dLst, dLstM, dCB, dNext, dBreak, dCont, dDrop, dRet, dRetN, dAsg, dgName, dgTup, dgCons, dgNil, dgSub, dPar, setMany, dAug, dBM, dBM0, dFld, dCall, dCallN, dSl, dRev, dRevM, dPart, dNoPart, diAny, diRng1, diRng2, diEnum, diZip, dLc, dLcM, dYes, dFor, List.set, List.nil_append, List.cons_append, List.append_nil, List.length_cons, List.length_nil, addD_int, addD_lst, addD_tup, addD_str, iaddD_int, subD_int, mulD_int, mulD_lst, fdivD_int, modD_int, powD_int, negD_int, ltD_int, leD_int, gtD_int, geD_int, eqD_int, eqD_bl, eqD_str, eqD_tup, eqD_lst, neD_int, neD_bl, neD_str, neD_tup, neD_lst, isD_non, isD_bl, notD_non, notD_bl, isNon_non, isNon_int, isNon_bl, isNon_str, isNon_tup, isNon_lst, intD_int, intD_bl, absD_int, max2D_int, min2D_int, lenD_lst, lenD_tup, lenD_scr, tupleD_lst, tupleD_tup, listD_lst, listD_tup, listMD_lst, listMD_tup, ixD_tup, ixD_lst, ixD_scr, inD_lst, inD_tup, notInD_lst, notInD_tup, slD_lst, slD_scr, slD_tup, revD_lst, revMD_lst, nth_0, nth_1, nth_2, nth_3, nth_4, nth_5, nth_6, nth_7, nthN_0, nthN_1, nthN_2, nthN_3, nthN_4, nthN_5, nthN_6, srcD_lst, srcD_scr, srcD_tup, fldsD_obj, isi_non_bool, isi_non_int, isi_non_str, isi_non_tuple, isi_non_list, isi_bl_bool, isi_bl_int, isi_bl_str, isi_bl_tuple, isi_bl_list, isi_int_bool, isi_int_int, isi_int_str, isi_int_tuple, isi_int_list, isi_str_bool, isi_str_int, isi_str_str, isi_str_tuple, isi_str_list, isi_tup_bool, isi_tup_int, isi_tup_str, isi_tup_tuple, isi_tup_list, isi_lst_bool, isi_lst_int, isi_lst_str, isi_lst_tuple, isi_lst_list, if_true, if_false, true_and, Bool.false_eq_true, Bool.not_true, Bool.not_false, List.isEmpty_nil])
theorem nth_get {xs : List D} {i : Int} {k : D → Prop} (h0 : 0 ≤ i) (h1 : i < xs.length) (h : ∀ d ∈ xs, xs[i.toNat]? = some d → k d) : nth xs i k := by
  unfold nth L2.atI ixN
  rw [if_pos h0, if_pos h1]
  have z : i.toNat < xs.length := by omega
  show match xs[i.toNat]? with
    | some d => k d
    | none => False
  rw [List.getElem?_eq_getElem z]
  exact h _ (List.getElem_mem z) (List.getElem?_eq_getElem z)
theorem lenD_items {M : Mem} {y : D} {ys : List D} {Q : QD} (h : itemsD M y = some ys) : lenD [y] M Q = Q (.int (ys.length : Nat)) M := by
  unfold itemsD at h
  unfold lenD
  split at h <;> first | cases h | skip
  all_goals simp_all
theorem ixD_items {M : Mem} {y : D} {ys : List D} {i : Int} {Q : QD} (h : itemsD M y = some ys) : ixD y (.int i) M Q = nth ys i fun d => Q d M := by
  unfold ixD
  rw [h]
def bPick (S : DSp) : TDS := (dRet (dOp ixD (dVar 1) (dCall S [] (dCons (dVar 0) (dCons (dCB lenD (dCons (dVar 1) dNil)) dNil)))))
theorem sem_pick : ∀ ds M Q, S_pick ds M Q → bPick S_draw { nx := fun _ M => Q .non M, rt := Q } (startD ["heap", "some"] ds) M := by
  rintro ds M Q ⟨x, y, ys, rfl, hs, hy, h0, h1, q⟩
  show bPick _ _ [some x, some y] M
  unfold bPick
  simp only [dRet, dOp, dVar, dCall, dCons, dCB, dNil, look, List.append_nil]
  rw [lenD_items hy]
  refine ⟨x, _, rfl, hs, by omega, by omega, fun r r0 r1 => ?_⟩
  show ixD y (.int r) M Q
  rw [ixD_items hy]
  exact nth_get r0 r1 fun d hd _ => q d hd

/-- plain data of some depth -/
def tame : Nat → D → Bool
  | 0, .tup _ => false
  | n + 1, .tup xs => decide (xs.length < 1000000) && xs.all (tame n)
  | _, .non => true
  | _, .bl _ => true
  | _, .int _ => true
  | _, .str _ => true
  | _, _ => false
def S_like (n : Nat) : DSp := fun ds M Q => ∃ x, ds = [x, x] ∧ tame n x = true ∧ Q (.bl true) M
def bLike (S : DSp) : TDS :=
  (dSeq (dIfS (dTest (dCB isiD (dCons (dVar 1) (dCons (dC (.ty "tuple")) dNil))))
    (dRet (dAndV (dCB isiD (dCons (dVar 0) (dCons (dC (.ty "tuple")) dNil))) (dAndV (dOp eqD (dCB lenD (dCons (dVar 0) dNil)) (dCB lenD (dCons (dVar 1) dNil))) (dCB allLD (dCons (dLc (diRng1 (dCons (dCB lenD (dCons (dVar 1) dNil)) dNil)) (dgName 2) dYes (dCall S [] (dCons (dOp ixD (dVar 0) (dVar 2)) (dCons (dOp ixD (dVar 1) (dVar 2)) dNil))) [2]) dNil)))))
    dNext)
    (dSeq (dIfS (dTest (dOp isD (dVar 1) (dC .non)))
    (dRet (dOp isD (dVar 0) (dC .non)))
    dNext)
    (dSeq (dIfS (dTest (dCB isiD (dCons (dVar 1) (dCons (dC (.ty "bool")) dNil))))
    (dRet (dIf (dTest (dVar 1)) (dOp isD (dVar 0) (dC (.bl true))) (dOp isD (dVar 0) (dC (.bl false)))))
    dNext)
    (dSeq (dIfS (dTest (dCB isiD (dCons (dVar 1) (dCons (dC (.ty "int")) dNil))))
    (dRet (dAndV (dCB isiD (dCons (dVar 0) (dCons (dC (.ty "int")) dNil))) (dAndV (dNotV (dCB isiD (dCons (dVar 0) (dCons (dC (.ty "bool")) dNil)))) (dOp eqD (dVar 0) (dVar 1)))))
    dNext)
    (dRet (dAndV (dCB isiD (dCons (dVar 0) (dCons (dC (.ty "str")) dNil))) (dOp eqD (dVar 0) (dVar 1))))))))
theorem sem_like_at {n : Nat} {S : DSp} (hS : ∀ x M Q, (∃ m, n = m + 1 ∧ tame m x = true) → Q (.bl true) M → S [x, x] M Q) : ∀ ds M Q, S_like n ds M Q → bLike S { nx := fun _ M => Q .non M, rt := Q } (startD ["told", "due", "at"] ds) M := by
  rintro ds M Q ⟨x, rfl, ht, q⟩
  show bLike _ _ [some x, some x, none] M
  unfold bLike
  cases x with
  | non => walk_at "all"; exact q
  | bl b =>
    walk_at "all"
    cases b
    · exact q
    · exact q
  | int i =>
    walk_at "all"
    rw [show decide True = true from rfl]
    exact q
  | str z =>
    walk_at "all"
    rw [show decide True = true from rfl]
    exact q
  | tup xs =>
    cases n with
    | zero => simp [tame] at ht
    | succ n =>
      have ht' : xs.length < 1000000 ∧ ∀ y ∈ xs, tame n y = true := by simpa [tame] using ht
      walk_at "all"
      rw [if_pos (by simp)]
      refine ⟨⟨by omega, by omega⟩, ?_⟩
      have e : rngD 0 ((xs.length : Int)).toNat = (List.range xs.length).map fun i => D.int (0 + (i : Nat)) := by unfold rngD; rfl
      rw [e]
      refine lc_all (fun i : Nat => D.int (0 + (i : Nat))) (fun _ => .bl true) trivial _ (fun i hi Y N hY => ?_) (by rw [sizeLine_eq, List.length_range]; omega) ?_
      · have hi' : i < xs.length := by simpa using hi
        simp only [wipeD, dgName, dYes, List.set, if_true, dCall, dCons, dNil, dOp, dVar, look, ixD_tup]
        refine nth_get (by omega) (by omega) fun d hd hg => ?_
        refine nth_get (by omega) (by omega) fun d' hd' hg' => ?_
        rw [hg] at hg'
        cases hg'
        exact hS d M Y ⟨n, rfl, ht'.2 d hd⟩ hY
      · refine ⟨List.replicate xs.length true, ?_, ?_⟩
        · show D.lst _ = D.lst _
          rw [List.map_replicate]
          exact congrArg D.lst (by rw [List.map_const', List.length_range])
        · rw [List.all_replicate]
          simp
          exact q
  | ty _ => cases n <;> simp [tame] at ht
  | lst _ => cases n <;> simp [tame] at ht
  | scr _ => cases n <;> simp [tame] at ht
  | obj _ _ _ => cases n <;> simp [tame] at ht
  | ref _ => cases n <;> simp [tame] at ht
theorem sem_like (n : Nat) : ∀ ds M Q, S_like (n + 1) ds M Q → bLike (S_like n) { nx := fun _ M => Q .non M, rt := Q } (startD ["told", "due", "at"] ds) M :=
  sem_like_at fun x M Q ⟨m, e, h⟩ q => ⟨x, rfl, by cases e; exact h, q⟩
theorem sem_like0 {S : DSp} : ∀ ds M Q, S_like 0 ds M Q → bLike S { nx := fun _ M => Q .non M, rt := Q } (startD ["told", "due", "at"] ds) M :=
  sem_like_at fun x M Q ⟨m, e, h⟩ q => by cases e
end DL

set_option Elab.async false
set_option linter.all false
set_option maxRecDepth 100000
set_option maxHeartbeats 4000000
/-! The rules to rewrite by, root first. Written by gen/mkdlm.py -/
namespace DL
open PySem PySem.Spec PyProof.Rows L2
theorem e_dTest {a : TD} {Γ : DE} {M : Mem} {Q : Bool → Mem → Prop} : dTest a Γ M Q = (a Γ M fun x M1 => match x with | .bl b => Q b M1 | _ => False) := propext Iff.rfl
theorem e_dOp {r : R2D} {a b : TD} {Γ : DE} {M : Mem} {Q : QD} : dOp r a b Γ M Q = (a Γ M fun x M1 => b Γ M1 fun y M2 => r x y M2 Q) := propext Iff.rfl
theorem e_dUn {r : R1D} {a : TD} {Γ : DE} {M : Mem} {Q : QD} : dUn r a Γ M Q = (a Γ M fun x M1 => r x M1 Q) := propext Iff.rfl
theorem e_dVar {i : Nat} {Γ : DE} {M : Mem} {Q : QD} : dVar i Γ M Q = (look Γ i fun d => Q d M) := propext Iff.rfl
theorem e_dC {d : D} {z1 : DE} {M : Mem} {Q : QD} : dC d z1 M Q = (Q d M) := propext Iff.rfl
theorem e_dAnd {t u : TDT} {Γ : DE} {M : Mem} {Q : Bool → Mem → Prop} : dAnd t u Γ M Q = (t Γ M fun c M1 => if c = true then u Γ M1 Q else Q false M1) := propext Iff.rfl
theorem e_dOr {t u : TDT} {Γ : DE} {M : Mem} {Q : Bool → Mem → Prop} : dOr t u Γ M Q = (t Γ M fun c M1 => if c = true then Q true M1 else u Γ M1 Q) := propext Iff.rfl
theorem e_dNot {t : TDT} {Γ : DE} {M : Mem} {Q : Bool → Mem → Prop} : dNot t Γ M Q = (t Γ M fun c M1 => Q (!c) M1) := propext Iff.rfl
theorem e_dAndV {a b : TD} {Γ : DE} {M : Mem} {Q : QD} : dAndV a b Γ M Q = (a Γ M fun x M1 => match x with | .bl c => if c = true then b Γ M1 Q else Q (.bl false) M1 | _ => False) := propext Iff.rfl
theorem e_dOrV {a b : TD} {Γ : DE} {M : Mem} {Q : QD} : dOrV a b Γ M Q = (a Γ M fun x M1 => match x with | .bl c => if c = true then Q (.bl true) M1 else b Γ M1 Q | _ => False) := propext Iff.rfl
theorem e_dNotV {a : TD} {Γ : DE} {M : Mem} {Q : QD} : dNotV a Γ M Q = (a Γ M fun x M1 => match x with | .bl c => Q (.bl (!c)) M1 | _ => False) := propext Iff.rfl
theorem e_dIf {t : TDT} {a b : TD} {Γ : DE} {M : Mem} {Q : QD} : dIf t a b Γ M Q = (t Γ M fun c M1 => if c = true then a Γ M1 Q else b Γ M1 Q) := propext Iff.rfl
theorem e_dNil {z1 : DE} {M : Mem} {Q : List D → Mem → Prop} : dNil z1 M Q = (Q [] M) := propext Iff.rfl
theorem e_dCons {a : TD} {r : TDA} {Γ : DE} {M : Mem} {Q : List D → Mem → Prop} : dCons a r Γ M Q = (a Γ M fun x M1 => r Γ M1 fun xs M2 => Q (x :: xs) M2) := propext Iff.rfl
theorem e_dTup {a : TDA} {Γ : DE} {M : Mem} {Q : QD} : dTup a Γ M Q = (a Γ M fun xs M1 => xs.length ≤ sizeLine ∧ Q (.tup xs) M1) := propext Iff.rfl
theorem e_dLst {a : TDA} {Γ : DE} {M : Mem} {Q : QD} : dLst a Γ M Q = (a Γ M fun xs M1 => xs.length ≤ sizeLine ∧ Q (.lst xs) M1) := propext Iff.rfl
theorem e_dLstM {a : TDA} {Γ : DE} {M : Mem} {Q : QD} : dLstM a Γ M Q = (a Γ M fun xs M1 => xs.length ≤ sizeLine ∧ ∀ p, M1 p = none → Q (.ref p) (mput M1 p (.lst xs))) := propext Iff.rfl
theorem e_dCB {r : RCD} {a : TDA} {Γ : DE} {M : Mem} {Q : QD} : dCB r a Γ M Q = (a Γ M fun xs M1 => r xs M1 Q) := propext Iff.rfl
theorem e_dNext {en : DE → Mem → Prop} {er : D → Mem → Prop} {eb ec : DE → Mem → Prop} {Γ : DE} {M : Mem} : dNext ⟨en, er, eb, ec⟩ Γ M = (en Γ M) := propext Iff.rfl
theorem e_dBreak {en : DE → Mem → Prop} {er : D → Mem → Prop} {eb ec : DE → Mem → Prop} {Γ : DE} {M : Mem} : dBreak ⟨en, er, eb, ec⟩ Γ M = (eb Γ M) := propext Iff.rfl
theorem e_dCont {en : DE → Mem → Prop} {er : D → Mem → Prop} {eb ec : DE → Mem → Prop} {Γ : DE} {M : Mem} : dCont ⟨en, er, eb, ec⟩ Γ M = (ec Γ M) := propext Iff.rfl
theorem e_dDrop {a : TD} {en : DE → Mem → Prop} {er : D → Mem → Prop} {eb ec : DE → Mem → Prop} {Γ : DE} {M : Mem} : dDrop a ⟨en, er, eb, ec⟩ Γ M = (a Γ M fun _ M1 => en Γ M1) := propext Iff.rfl
theorem e_dRet {a : TD} {en : DE → Mem → Prop} {er : D → Mem → Prop} {eb ec : DE → Mem → Prop} {Γ : DE} {M : Mem} : dRet a ⟨en, er, eb, ec⟩ Γ M = (a Γ M er) := propext Iff.rfl
theorem e_dRetN {en : DE → Mem → Prop} {er : D → Mem → Prop} {eb ec : DE → Mem → Prop} {z1 : DE} {M : Mem} : dRetN ⟨en, er, eb, ec⟩ z1 M = (er .non M) := propext Iff.rfl
theorem e_dAsg {a : TD} {g : TDG} {en : DE → Mem → Prop} {er : D → Mem → Prop} {eb ec : DE → Mem → Prop} {Γ : DE} {M : Mem} : dAsg a g ⟨en, er, eb, ec⟩ Γ M = (a Γ M fun x M1 => g x Γ M1 en) := propext Iff.rfl
theorem e_dgName {i : Nat} {d : D} {Γ : DE} {M : Mem} {Q : DE → Mem → Prop} : dgName i d Γ M Q = (Q (Γ.set i (some d)) M) := propext Iff.rfl
theorem e_dgTup {n : Nat} {u : TDGs} {x : D} {Γ : DE} {M : Mem} {Q : DE → Mem → Prop} : dgTup n u x Γ M Q = (match x with
  | .tup xs => xs.length = n ∧ u xs Γ M Q
  | _ => False) := propext Iff.rfl
theorem e_dgCons {g : TDG} {u : TDGs} {xs : List D} {Γ : DE} {M : Mem} {Q : DE → Mem → Prop} : dgCons g u xs Γ M Q = (match xs with
  | [] => False
  | x :: r => g x Γ M fun Γ1 M1 => u r Γ1 M1 Q) := propext Iff.rfl
theorem e_dgNil {xs : List D} {Γ : DE} {M : Mem} {Q : DE → Mem → Prop} : dgNil xs Γ M Q = (xs = [] ∧ Q Γ M) := propext Iff.rfl
theorem e_dgSub {o i : TD} {v : D} {Γ : DE} {M : Mem} {Q : DE → Mem → Prop} : dgSub o i v Γ M Q = (o Γ M fun x M1 => i Γ M1 fun y M2 => setLD x y v M2 fun M3 => Q Γ M3) := propext Iff.rfl
theorem e_dPar {is : List Nat} {a : TDA} {en : DE → Mem → Prop} {er : D → Mem → Prop} {eb ec : DE → Mem → Prop} {Γ : DE} {M : Mem} : dPar is a ⟨en, er, eb, ec⟩ Γ M = (a Γ M fun xs M1 => xs.length = is.length ∧ en (setMany is xs Γ) M1) := propext Iff.rfl
theorem e_dAug {i : Nat} {r : R2D} {a : TD} {en : DE → Mem → Prop} {er : D → Mem → Prop} {eb ec : DE → Mem → Prop} {Γ : DE} {M : Mem} : dAug i r a ⟨en, er, eb, ec⟩ Γ M = (look Γ i fun x => a Γ M fun y M1 => r x y M1 fun z M2 => en (Γ.set i (some z)) M2) := propext Iff.rfl
theorem e_dBM {r : D → List D → Mem → QD → Prop} {o : TD} {a : TDA} {Γ : DE} {M : Mem} {Q : QD} : dBM r o a Γ M Q = (o Γ M fun x M1 => isLstD M1 x ∧ a Γ M1 fun xs M2 => r x xs M2 Q) := propext Iff.rfl
theorem e_dBM0 {r : D → List D → Mem → QD → Prop} {o : TD} {Γ : DE} {M : Mem} {Q : QD} : dBM0 r o Γ M Q = (o Γ M fun x M1 => isLstD M1 x ∧ r x [] M1 Q) := propext Iff.rfl
theorem e_dFld {C : Addr} {ns : List Str} {i : Nat} {a : TD} {Γ : DE} {M : Mem} {Q : QD} : dFld C ns i a Γ M Q = (a Γ M fun x M1 => match fldsD M1 x with
  | some (C', ns', ds) => C' = C ∧ ns' = ns ∧ nthN ds i fun d => Q d M1
  | none => False) := propext Iff.rfl
theorem e_dCall {S : DSp} {dds : List D} {a : TDA} {Γ : DE} {M : Mem} {Q : QD} : dCall S dds a Γ M Q = (a Γ M fun ds M1 => S (ds ++ dds) M1 Q) := propext Iff.rfl
theorem e_dCallN {S : DSp} {ix : List Nat} {n m : Nat} {dds : List D} {a b : TDA} {Γ : DE} {M : Mem} {Q : QD} : dCallN S ix n m dds a b Γ M Q = (a Γ M fun ds M1 => b Γ M1 fun es M2 => ds.length = n ∧ es.length = m ∧ S (pick ix (ds ++ (es ++ dds))) M2 Q) := propext Iff.rfl
theorem e_dSl {a : TD} {l h : TDO} {Γ : DE} {M : Mem} {Q : QD} : dSl a l h Γ M Q = (a Γ M fun x M1 => l Γ M1 fun lo M2 => h Γ M2 fun hi M3 => slD x lo hi M3 Q) := propext Iff.rfl
theorem e_dRev {a : TD} {Γ : DE} {M : Mem} {Q : QD} : dRev a Γ M Q = (a Γ M fun x M1 => revD x M1 Q) := propext Iff.rfl
theorem e_dRevM {a : TD} {Γ : DE} {M : Mem} {Q : QD} : dRevM a Γ M Q = (a Γ M fun x M1 => revMD x M1 Q) := propext Iff.rfl
theorem e_dPart {t : TD} {Γ : DE} {M : Mem} {Q : Option Int → Mem → Prop} : dPart t Γ M Q = (t Γ M fun x M1 => match x with | .int i => Q (some i) M1 | _ => False) := propext Iff.rfl
theorem e_dNoPart {z1 : DE} {M : Mem} {Q : Option Int → Mem → Prop} : dNoPart z1 M Q = (Q none M) := propext Iff.rfl
theorem e_diAny {a : TD} {Γ : DE} {M : Mem} {P : List D → (Mem → Prop) → Mem → Prop} : diAny a Γ M P = (a Γ M fun x M1 => srcD x M1 P) := propext Iff.rfl
theorem e_diRng1 {a : TDA} {Γ : DE} {M : Mem} {P : List D → (Mem → Prop) → Mem → Prop} : diRng1 a Γ M P = (a Γ M fun xs M1 => match xs with
  | [.int j] => (-(2 ^ 62) ≤ j ∧ j < 2 ^ 62) ∧ P (rngD 0 j.toNat) noGrd M1
  | _ => False) := propext Iff.rfl
theorem e_diRng2 {a : TDA} {Γ : DE} {M : Mem} {P : List D → (Mem → Prop) → Mem → Prop} : diRng2 a Γ M P = (a Γ M fun xs M1 => match xs with
  | [.int i, .int j] => (-(2 ^ 62) ≤ i ∧ i < 2 ^ 62 ∧ -(2 ^ 62) ≤ j ∧ j < 2 ^ 62) ∧ P (rngD i (j - i).toNat) noGrd M1
  | _ => False) := propext Iff.rfl
theorem e_diEnum {a : TDA} {Γ : DE} {M : Mem} {P : List D → (Mem → Prop) → Mem → Prop} : diEnum a Γ M P = (a Γ M fun xs M1 => match xs with
  | [x] => srcD x M1 fun ds grd M2 => P (enumD ds) grd M2
  | _ => False) := propext Iff.rfl
theorem e_diZip {a : TDA} {Γ : DE} {M : Mem} {P : List D → (Mem → Prop) → Mem → Prop} : diZip a Γ M P = (a Γ M fun xs M1 => match xs with
  | [.lst xs, .lst ys] => P (zipD xs ys) noGrd M1
  | [.tup xs, .tup ys] => P (zipD xs ys) noGrd M1
  | _ => False) := propext Iff.rfl
theorem e_dLc {di : TDI} {g : TDG} {t : TDT} {e : TD} {vs : List Nat} {Γ : DE} {M : Mem} {Q : QD} : dLc di g t e vs Γ M Q = (di Γ M fun ds grd M1 => lcL grd g t e (wipeD Γ vs) (fun acc M2 => Q (.lst acc) M2) ds [] M1) := propext Iff.rfl
theorem e_dLcM {di : TDI} {g : TDG} {t : TDT} {e : TD} {vs : List Nat} {Γ : DE} {M : Mem} {Q : QD} : dLcM di g t e vs Γ M Q = (di Γ M fun ds grd M1 => lcL grd g t e (wipeD Γ vs) (fun acc M2 => ∀ p, M2 p = none → Q (.ref p) (mput M2 p (.lst acc))) ds [] M1) := propext Iff.rfl
theorem e_dYes {z1 : DE} {M : Mem} {Q : Bool → Mem → Prop} : dYes z1 M Q = (Q true M) := propext Iff.rfl
theorem e_dFor {di : TDI} {g : TDG} {body : TDS} {en : DE → Mem → Prop} {er : D → Mem → Prop} {eb ec : DE → Mem → Prop} {Γ : DE} {M : Mem} : dFor di g body ⟨en, er, eb, ec⟩ Γ M = (di Γ M fun ds grd M1 => forL grd g body ⟨en, er, eb, ec⟩ ds Γ M1) := propext Iff.rfl
theorem e_dIfS {t : TDT} {u w : TDS} {en : DE → Mem → Prop} {er : D → Mem → Prop} {eb ec : DE → Mem → Prop} {Γ : DE} {M : Mem} : dIfS t u w ⟨en, er, eb, ec⟩ Γ M = (t Γ M fun b M1 => if b = true then u ⟨en, er, eb, ec⟩ Γ M1 else w ⟨en, er, eb, ec⟩ Γ M1) := propext Iff.rfl
theorem e_dMeth {C : Addr} {S : DSp} {dds : List D} {o : TD} {a : TDA} {Γ : DE} {M : Mem} {Q : QD} : dMeth C S dds o a Γ M Q = (o Γ M fun x M1 => (match fldsD M1 x with
  | some (C', _, _) => C' = C
  | none => False) ∧ a Γ M1 fun ds M2 => S (x :: (ds ++ dds)) M2 Q) := propext Iff.rfl
theorem e_dTupRg1 {a : TD} {Γ : DE} {M : Mem} {Q : QD} : dTupRg1 a Γ M Q = (a Γ M fun x M1 => match x with
  | .int n => RgOk 0 n ∧ Q (.tup (rngD 0 n.toNat)) M1
  | _ => False) := propext Iff.rfl
theorem e_dTupRg2 {a b : TD} {Γ : DE} {M : Mem} {Q : QD} : dTupRg2 a b Γ M Q = (a Γ M fun x M1 => b Γ M1 fun y M2 => match x, y with
  | .int i, .int j => RgOk i j ∧ Q (.tup (rngD i (j - i).toNat)) M2
  | _, _ => False) := propext Iff.rfl
theorem e_dLstRg1 {a : TD} {Γ : DE} {M : Mem} {Q : QD} : dLstRg1 a Γ M Q = (a Γ M fun x M1 => match x with
  | .int n => RgOk 0 n ∧ Q (.lst (rngD 0 n.toNat)) M1
  | _ => False) := propext Iff.rfl
theorem e_dLstRg2 {a b : TD} {Γ : DE} {M : Mem} {Q : QD} : dLstRg2 a b Γ M Q = (a Γ M fun x M1 => b Γ M1 fun y M2 => match x, y with
  | .int i, .int j => RgOk i j ∧ Q (.lst (rngD i (j - i).toNat)) M2
  | _, _ => False) := propext Iff.rfl
theorem e_dIsi2 {n1 n2 : String} {a : TD} {Γ : DE} {M : Mem} {Q : QD} : dIsi2 n1 n2 a Γ M Q = (a Γ M fun x M1 => match tyNm (view M1 x) with
  | some t => kitB t n1 = some (isA t n1) ∧ kitB t n2 = some (isA t n2) ∧ Q (.bl (isA t n1 || isA t n2)) M1
  | none => False) := propext Iff.rfl
theorem e_dNever {en : DE → Mem → Prop} {er : D → Mem → Prop} {eb ec : DE → Mem → Prop} {z2 : DE} {z3 : Mem} : dNever ⟨en, er, eb, ec⟩ z2 z3 = (False) := propext Iff.rfl
theorem look_s {o : Option D} {n : Nat} {Γ : DE} {k : D → Prop} : look (o :: Γ) (n + 1) k = look Γ n k := by cases o <;> rfl
theorem look_0 {d : D} {Γ : DE} {k : D → Prop} : look (some d :: Γ) 0 k = k d := propext Iff.rfl
theorem look_1 {o0 : Option D} {d : D} {Γ : DE} {k : D → Prop} : look (o0 :: some d :: Γ) 1 k = k d := (look_s (n := 0)).trans look_0
theorem look_2 {o0 o1 : Option D} {d : D} {Γ : DE} {k : D → Prop} : look (o0 :: o1 :: some d :: Γ) 2 k = k d := (look_s (n := 1)).trans look_1
theorem look_3 {o0 o1 o2 : Option D} {d : D} {Γ : DE} {k : D → Prop} : look (o0 :: o1 :: o2 :: some d :: Γ) 3 k = k d := (look_s (n := 2)).trans look_2
theorem look_4 {o0 o1 o2 o3 : Option D} {d : D} {Γ : DE} {k : D → Prop} : look (o0 :: o1 :: o2 :: o3 :: some d :: Γ) 4 k = k d := (look_s (n := 3)).trans look_3
theorem look_5 {o0 o1 o2 o3 o4 : Option D} {d : D} {Γ : DE} {k : D → Prop} : look (o0 :: o1 :: o2 :: o3 :: o4 :: some d :: Γ) 5 k = k d := (look_s (n := 4)).trans look_4
theorem look_6 {o0 o1 o2 o3 o4 o5 : Option D} {d : D} {Γ : DE} {k : D → Prop} : look (o0 :: o1 :: o2 :: o3 :: o4 :: o5 :: some d :: Γ) 6 k = k d := (look_s (n := 5)).trans look_5
theorem look_7 {o0 o1 o2 o3 o4 o5 o6 : Option D} {d : D} {Γ : DE} {k : D → Prop} : look (o0 :: o1 :: o2 :: o3 :: o4 :: o5 :: o6 :: some d :: Γ) 7 k = k d := (look_s (n := 6)).trans look_6
theorem look_8 {o0 o1 o2 o3 o4 o5 o6 o7 : Option D} {d : D} {Γ : DE} {k : D → Prop} : look (o0 :: o1 :: o2 :: o3 :: o4 :: o5 :: o6 :: o7 :: some d :: Γ) 8 k = k d := (look_s (n := 7)).trans look_7
theorem look_9 {o0 o1 o2 o3 o4 o5 o6 o7 o8 : Option D} {d : D} {Γ : DE} {k : D → Prop} : look (o0 :: o1 :: o2 :: o3 :: o4 :: o5 :: o6 :: o7 :: o8 :: some d :: Γ) 9 k = k d := (look_s (n := 8)).trans look_8
theorem look_10 {o0 o1 o2 o3 o4 o5 o6 o7 o8 o9 : Option D} {d : D} {Γ : DE} {k : D → Prop} : look (o0 :: o1 :: o2 :: o3 :: o4 :: o5 :: o6 :: o7 :: o8 :: o9 :: some d :: Γ) 10 k = k d := (look_s (n := 9)).trans look_9
theorem look_11 {o0 o1 o2 o3 o4 o5 o6 o7 o8 o9 o10 : Option D} {d : D} {Γ : DE} {k : D → Prop} : look (o0 :: o1 :: o2 :: o3 :: o4 :: o5 :: o6 :: o7 :: o8 :: o9 :: o10 :: some d :: Γ) 11 k = k d := (look_s (n := 10)).trans look_10
theorem look_12 {o0 o1 o2 o3 o4 o5 o6 o7 o8 o9 o10 o11 : Option D} {d : D} {Γ : DE} {k : D → Prop} : look (o0 :: o1 :: o2 :: o3 :: o4 :: o5 :: o6 :: o7 :: o8 :: o9 :: o10 :: o11 :: some d :: Γ) 12 k = k d := (look_s (n := 11)).trans look_11
theorem look_13 {o0 o1 o2 o3 o4 o5 o6 o7 o8 o9 o10 o11 o12 : Option D} {d : D} {Γ : DE} {k : D → Prop} : look (o0 :: o1 :: o2 :: o3 :: o4 :: o5 :: o6 :: o7 :: o8 :: o9 :: o10 :: o11 :: o12 :: some d :: Γ) 13 k = k d := (look_s (n := 12)).trans look_12
theorem look_14 {o0 o1 o2 o3 o4 o5 o6 o7 o8 o9 o10 o11 o12 o13 : Option D} {d : D} {Γ : DE} {k : D → Prop} : look (o0 :: o1 :: o2 :: o3 :: o4 :: o5 :: o6 :: o7 :: o8 :: o9 :: o10 :: o11 :: o12 :: o13 :: some d :: Γ) 14 k = k d := (look_s (n := 13)).trans look_13
theorem look_15 {o0 o1 o2 o3 o4 o5 o6 o7 o8 o9 o10 o11 o12 o13 o14 : Option D} {d : D} {Γ : DE} {k : D → Prop} : look (o0 :: o1 :: o2 :: o3 :: o4 :: o5 :: o6 :: o7 :: o8 :: o9 :: o10 :: o11 :: o12 :: o13 :: o14 :: some d :: Γ) 15 k = k d := (look_s (n := 14)).trans look_14
theorem look_16 {o0 o1 o2 o3 o4 o5 o6 o7 o8 o9 o10 o11 o12 o13 o14 o15 : Option D} {d : D} {Γ : DE} {k : D → Prop} : look (o0 :: o1 :: o2 :: o3 :: o4 :: o5 :: o6 :: o7 :: o8 :: o9 :: o10 :: o11 :: o12 :: o13 :: o14 :: o15 :: some d :: Γ) 16 k = k d := (look_s (n := 15)).trans look_15
theorem look_17 {o0 o1 o2 o3 o4 o5 o6 o7 o8 o9 o10 o11 o12 o13 o14 o15 o16 : Option D} {d : D} {Γ : DE} {k : D → Prop} : look (o0 :: o1 :: o2 :: o3 :: o4 :: o5 :: o6 :: o7 :: o8 :: o9 :: o10 :: o11 :: o12 :: o13 :: o14 :: o15 :: o16 :: some d :: Γ) 17 k = k d := (look_s (n := 16)).trans look_16
theorem look_18 {o0 o1 o2 o3 o4 o5 o6 o7 o8 o9 o10 o11 o12 o13 o14 o15 o16 o17 : Option D} {d : D} {Γ : DE} {k : D → Prop} : look (o0 :: o1 :: o2 :: o3 :: o4 :: o5 :: o6 :: o7 :: o8 :: o9 :: o10 :: o11 :: o12 :: o13 :: o14 :: o15 :: o16 :: o17 :: some d :: Γ) 18 k = k d := (look_s (n := 17)).trans look_17
theorem look_19 {o0 o1 o2 o3 o4 o5 o6 o7 o8 o9 o10 o11 o12 o13 o14 o15 o16 o17 o18 : Option D} {d : D} {Γ : DE} {k : D → Prop} : look (o0 :: o1 :: o2 :: o3 :: o4 :: o5 :: o6 :: o7 :: o8 :: o9 :: o10 :: o11 :: o12 :: o13 :: o14 :: o15 :: o16 :: o17 :: o18 :: some d :: Γ) 19 k = k d := (look_s (n := 18)).trans look_18
theorem look_20 {o0 o1 o2 o3 o4 o5 o6 o7 o8 o9 o10 o11 o12 o13 o14 o15 o16 o17 o18 o19 : Option D} {d : D} {Γ : DE} {k : D → Prop} : look (o0 :: o1 :: o2 :: o3 :: o4 :: o5 :: o6 :: o7 :: o8 :: o9 :: o10 :: o11 :: o12 :: o13 :: o14 :: o15 :: o16 :: o17 :: o18 :: o19 :: some d :: Γ) 20 k = k d := (look_s (n := 19)).trans look_19
theorem look_21 {o0 o1 o2 o3 o4 o5 o6 o7 o8 o9 o10 o11 o12 o13 o14 o15 o16 o17 o18 o19 o20 : Option D} {d : D} {Γ : DE} {k : D → Prop} : look (o0 :: o1 :: o2 :: o3 :: o4 :: o5 :: o6 :: o7 :: o8 :: o9 :: o10 :: o11 :: o12 :: o13 :: o14 :: o15 :: o16 :: o17 :: o18 :: o19 :: o20 :: some d :: Γ) 21 k = k d := (look_s (n := 20)).trans look_20
theorem look_22 {o0 o1 o2 o3 o4 o5 o6 o7 o8 o9 o10 o11 o12 o13 o14 o15 o16 o17 o18 o19 o20 o21 : Option D} {d : D} {Γ : DE} {k : D → Prop} : look (o0 :: o1 :: o2 :: o3 :: o4 :: o5 :: o6 :: o7 :: o8 :: o9 :: o10 :: o11 :: o12 :: o13 :: o14 :: o15 :: o16 :: o17 :: o18 :: o19 :: o20 :: o21 :: some d :: Γ) 22 k = k d := (look_s (n := 21)).trans look_21
theorem look_23 {o0 o1 o2 o3 o4 o5 o6 o7 o8 o9 o10 o11 o12 o13 o14 o15 o16 o17 o18 o19 o20 o21 o22 : Option D} {d : D} {Γ : DE} {k : D → Prop} : look (o0 :: o1 :: o2 :: o3 :: o4 :: o5 :: o6 :: o7 :: o8 :: o9 :: o10 :: o11 :: o12 :: o13 :: o14 :: o15 :: o16 :: o17 :: o18 :: o19 :: o20 :: o21 :: o22 :: some d :: Γ) 23 k = k d := (look_s (n := 22)).trans look_22
theorem look_24 {o0 o1 o2 o3 o4 o5 o6 o7 o8 o9 o10 o11 o12 o13 o14 o15 o16 o17 o18 o19 o20 o21 o22 o23 : Option D} {d : D} {Γ : DE} {k : D → Prop} : look (o0 :: o1 :: o2 :: o3 :: o4 :: o5 :: o6 :: o7 :: o8 :: o9 :: o10 :: o11 :: o12 :: o13 :: o14 :: o15 :: o16 :: o17 :: o18 :: o19 :: o20 :: o21 :: o22 :: o23 :: some d :: Γ) 24 k = k d := (look_s (n := 23)).trans look_23
theorem look_25 {o0 o1 o2 o3 o4 o5 o6 o7 o8 o9 o10 o11 o12 o13 o14 o15 o16 o17 o18 o19 o20 o21 o22 o23 o24 : Option D} {d : D} {Γ : DE} {k : D → Prop} : look (o0 :: o1 :: o2 :: o3 :: o4 :: o5 :: o6 :: o7 :: o8 :: o9 :: o10 :: o11 :: o12 :: o13 :: o14 :: o15 :: o16 :: o17 :: o18 :: o19 :: o20 :: o21 :: o22 :: o23 :: o24 :: some d :: Γ) 25 k = k d := (look_s (n := 24)).trans look_24
section
variable {M : Mem} {Q : QD} {i j : Int} {a b : Bool} {s z : Str} {xs ys : List D} {x y : D} {k : D → Prop} {d0 d1 d2 d3 d4 d5 d6 d7 : D}
theorem q_addD_int : addD (.int i) (.int j) M Q = Q (.int (i + j)) M := propext Iff.rfl
theorem q_addD_lst : addD (.lst xs) (.lst ys) M Q = (xs.length + ys.length ≤ sizeLine ∧ Q (.lst (xs ++ ys)) M) := propext Iff.rfl
theorem q_addD_tup : addD (.tup xs) (.tup ys) M Q = (xs.length + ys.length ≤ sizeLine ∧ Q (.tup (xs ++ ys)) M) := propext Iff.rfl
theorem q_addD_str : addD (.str s) (.str z) M Q = (s.length + z.length ≤ sizeLine ∧ Q (.str (s ++ z)) M) := propext Iff.rfl
theorem q_iaddD_int : iaddD (.int i) (.int j) M Q = Q (.int (i + j)) M := propext Iff.rfl
theorem q_subD_int : subD (.int i) (.int j) M Q = Q (.int (i - j)) M := propext Iff.rfl
theorem q_mulD_int : mulD (.int i) (.int j) M Q = (((-(2 ^ 64) < i ∧ i < 2 ^ 64) ∨ (-(2 ^ 64) < j ∧ j < 2 ^ 64)) ∧ Q (.int (i * j)) M) := propext Iff.rfl
theorem q_mulD_lst : mulD (.lst xs) (.int j) M Q = (-(2 ^ 63) ≤ j ∧ j < 2 ^ 63 ∧ xs.length * j.toNat ≤ sizeLine ∧ Q (.lst (List.replicate j.toNat xs).flatten) M) := propext Iff.rfl
theorem q_fdivD_int : fdivD (.int i) (.int j) M Q = ((0 < j ∧ j < 1073741824) ∧ Q (.int (i / j)) M) := propext Iff.rfl
theorem q_modD_int : modD (.int i) (.int j) M Q = (0 < j ∧ Q (.int (i % j)) M) := propext Iff.rfl
theorem q_powD_int : powD (.int i) (.int j) M Q = ((0 ≤ j ∧ j ≤ 1000000 ∧ i.natAbs < 2 ^ 64) ∧ Q (.int (i ^ j.toNat)) M) := propext Iff.rfl
theorem q_negD_int : negD (.int i) M Q = Q (.int (-i)) M := propext Iff.rfl
theorem q_ltD_int : ltD (.int i) (.int j) M Q = Q (.bl (decide (i < j))) M := propext Iff.rfl
theorem q_leD_int : leD (.int i) (.int j) M Q = Q (.bl (decide (i ≤ j))) M := propext Iff.rfl
theorem q_gtD_int : gtD (.int i) (.int j) M Q = Q (.bl (decide (j < i))) M := propext Iff.rfl
theorem q_geD_int : geD (.int i) (.int j) M Q = Q (.bl (decide (j ≤ i))) M := propext Iff.rfl
theorem q_eqD_int : eqD (.int i) (.int j) M Q = Q (.bl (decide (i = j))) M := propext Iff.rfl
theorem q_eqD_bl : eqD (.bl a) (.bl b) M Q = Q (.bl (decide (a = b))) M := propext Iff.rfl
theorem q_eqD_str : eqD (.str s) (.str z) M Q = Q (.bl (decide (s = z))) M := propext Iff.rfl
theorem q_eqD_tup : eqD (.tup xs) (.tup ys) M Q = deepEq (.tup xs) (.tup ys) fun b => Q (.bl b) M := propext Iff.rfl
theorem q_eqD_lst : eqD (.lst xs) (.lst ys) M Q = deepEq (.lst xs) (.lst ys) fun b => Q (.bl b) M := propext Iff.rfl
theorem q_neD_int : neD (.int i) (.int j) M Q = Q (.bl (!decide (i = j))) M := propext Iff.rfl
theorem q_neD_bl : neD (.bl a) (.bl b) M Q = Q (.bl (!decide (a = b))) M := propext Iff.rfl
theorem q_neD_str : neD (.str s) (.str z) M Q = Q (.bl (!decide (s = z))) M := propext Iff.rfl
theorem q_neD_tup : neD (.tup xs) (.tup ys) M Q = deepEq (.tup xs) (.tup ys) fun b => Q (.bl (!b)) M := propext Iff.rfl
theorem q_neD_lst : neD (.lst xs) (.lst ys) M Q = deepEq (.lst xs) (.lst ys) fun b => Q (.bl (!b)) M := propext Iff.rfl
theorem q_isD_non : isD x .non M Q = Q (.bl (isNonD x)) M := propext Iff.rfl
theorem q_isD_bl : isD (.bl a) (.bl b) M Q = Q (.bl (decide (a = b))) M := propext Iff.rfl
theorem q_notD_non : notD x .non M Q = Q (.bl (!isNonD x)) M := propext Iff.rfl
theorem q_notD_bl : notD (.bl a) (.bl b) M Q = Q (.bl (!decide (a = b))) M := propext Iff.rfl
theorem q_intD_int : intD [.int i] M Q = Q (.int i) M := propext Iff.rfl
theorem q_intD_bl : intD [.bl a] M Q = Q (.int (if a then 1 else 0)) M := propext Iff.rfl
theorem q_absD_int : absD [.int i] M Q = Q (.int (if i < 0 then -i else i)) M := propext Iff.rfl
theorem q_lenD_lst : lenD [.lst xs] M Q = Q (.int (xs.length : Nat)) M := propext Iff.rfl
theorem q_lenD_tup : lenD [.tup xs] M Q = Q (.int (xs.length : Nat)) M := propext Iff.rfl
theorem q_lenD_scr : lenD [.scr xs] M Q = Q (.int (xs.length : Nat)) M := propext Iff.rfl
theorem q_tupleD_lst : tupleD [.lst xs] M Q = Q (.tup xs) M := propext Iff.rfl
theorem q_tupleD_tup : tupleD [.tup xs] M Q = Q (.tup xs) M := propext Iff.rfl
theorem q_listD_lst : listD [.lst xs] M Q = Q (.lst xs) M := propext Iff.rfl
theorem q_listD_tup : listD [.tup xs] M Q = Q (.lst xs) M := propext Iff.rfl
theorem q_listMD_lst : listMD [.lst xs] M Q = ∀ p, M p = none → Q (.ref p) (mput M p (.lst xs)) := propext Iff.rfl
theorem q_listMD_tup : listMD [.tup xs] M Q = ∀ p, M p = none → Q (.ref p) (mput M p (.lst xs)) := propext Iff.rfl
theorem q_ixD_tup : ixD (.tup xs) (.int i) M Q = nth xs i fun d => Q d M := propext Iff.rfl
theorem q_ixD_lst : ixD (.lst xs) (.int i) M Q = nth xs i fun d => Q d M := propext Iff.rfl
theorem q_ixD_scr : ixD (.scr xs) (.int i) M Q = nth xs i fun d => Q d M := propext Iff.rfl
theorem q_inD_lst : inD x (.lst ys) M Q = (flatD x = true ∧ ys.all flatD = true ∧ Q (.bl (ys.any fun z => eqF z x)) M) := propext Iff.rfl
theorem q_inD_tup : inD x (.tup ys) M Q = (flatD x = true ∧ ys.all flatD = true ∧ Q (.bl (ys.any fun z => eqF z x)) M) := propext Iff.rfl
theorem q_notInD_lst : notInD x (.lst ys) M Q = (flatD x = true ∧ ys.all flatD = true ∧ Q (.bl (!ys.any fun z => eqF z x)) M) := propext Iff.rfl
theorem q_notInD_tup : notInD x (.tup ys) M Q = (flatD x = true ∧ ys.all flatD = true ∧ Q (.bl (!ys.any fun z => eqF z x)) M) := propext Iff.rfl
theorem q_slD_lst {lo hi : Option Int} : slD (.lst xs) lo hi M Q = Q (.lst (cutD xs lo hi)) M := propext Iff.rfl
theorem q_slD_scr {lo hi : Option Int} : slD (.scr xs) lo hi M Q = Q (.lst (cutD xs lo hi)) M := propext Iff.rfl
theorem q_slD_tup {lo hi : Option Int} : slD (.tup xs) lo hi M Q = Q (.tup (cutD xs lo hi)) M := propext Iff.rfl
theorem q_revD_lst : revD (.lst xs) M Q = Q (.lst xs.reverse) M := propext Iff.rfl
theorem q_revMD_lst : revMD (.lst xs) M Q = ∀ p, M p = none → Q (.ref p) (mput M p (.lst xs.reverse)) := propext Iff.rfl
theorem q_nthN_0 : nthN (d0 :: xs) 0 k = k d0 := propext Iff.rfl
theorem q_nthN_1 : nthN (d0 :: d1 :: xs) 1 k = k d1 := propext Iff.rfl
theorem q_nthN_2 : nthN (d0 :: d1 :: d2 :: xs) 2 k = k d2 := propext Iff.rfl
theorem q_nthN_3 : nthN (d0 :: d1 :: d2 :: d3 :: xs) 3 k = k d3 := propext Iff.rfl
theorem q_nthN_4 : nthN (d0 :: d1 :: d2 :: d3 :: d4 :: xs) 4 k = k d4 := propext Iff.rfl
theorem q_nthN_5 : nthN (d0 :: d1 :: d2 :: d3 :: d4 :: d5 :: xs) 5 k = k d5 := propext Iff.rfl
theorem q_nthN_6 : nthN (d0 :: d1 :: d2 :: d3 :: d4 :: d5 :: d6 :: xs) 6 k = k d6 := propext Iff.rfl
theorem q_srcD_lst {P : List D → (Mem → Prop) → Mem → Prop} : srcD (.lst xs) M P = P xs noGrd M := propext Iff.rfl
theorem q_srcD_scr {P : List D → (Mem → Prop) → Mem → Prop} : srcD (.scr xs) M P = P xs noGrd M := propext Iff.rfl
theorem q_srcD_tup {P : List D → (Mem → Prop) → Mem → Prop} : srcD (.tup xs) M P = P xs noGrd M := propext Iff.rfl
theorem sq_ {t u : TDS} {en : DE → Mem → Prop} {er : D → Mem → Prop} {eb ec : DE → Mem → Prop} {Γ : DE} {M : Mem} (h : ∀ nx : DE → Mem → Prop, (∀ Γ' M', u ⟨en, er, eb, ec⟩ Γ' M' → nx Γ' M') → t ⟨nx, er, eb, ec⟩ Γ M) : dSeq t u ⟨en, er, eb, ec⟩ Γ M := h _ fun _ _ q => q
theorem e_forL0 {grd : Mem → Prop} {g : TDG} {body : TDS} {en : DE → Mem → Prop} {er : D → Mem → Prop} {eb ec : DE → Mem → Prop} {Γ : DE} {M : Mem} : forL grd g body ⟨en, er, eb, ec⟩ [] Γ M = (grd M ∧ en Γ M) := propext Iff.rfl
theorem e_forL1 {grd : Mem → Prop} {g : TDG} {body : TDS} {en : DE → Mem → Prop} {er : D → Mem → Prop} {eb ec : DE → Mem → Prop} {x : D} {xs : List D} {Γ : DE} {M : Mem} : forL grd g body ⟨en, er, eb, ec⟩ (x :: xs) Γ M = (grd M ∧ g x Γ M fun Γ1 M1 => body ⟨forL grd g body ⟨en, er, eb, ec⟩ xs, er, en, forL grd g body ⟨en, er, eb, ec⟩ xs⟩ Γ1 M1) := propext Iff.rfl
theorem forL_inv {grd : Mem → Prop} {g : TDG} {body : TDS} {en : DE → Mem → Prop} {er : D → Mem → Prop} {eb ec : DE → Mem → Prop} (I : List D → DE → Mem → Prop) (hg : ∀ xs Γ M, I xs Γ M → grd M) (h0 : ∀ Γ M, I [] Γ M → en Γ M)
    (hs : ∀ x xs Γ M, I (x :: xs) Γ M → ∀ nx : DE → Mem → Prop, (∀ Γ' M', I xs Γ' M' → nx Γ' M') → g x Γ M fun Γ1 M1 => body ⟨nx, er, en, nx⟩ Γ1 M1) : ∀ xs Γ M, I xs Γ M → forL grd g body ⟨en, er, eb, ec⟩ xs Γ M
  | [], Γ, M, h => ⟨hg _ _ _ h, h0 _ _ h⟩
  | x :: xs, Γ, M, h => ⟨hg _ _ _ h, hs x xs Γ M h _ fun Γ' M' q => forL_inv I hg h0 hs xs Γ' M' q⟩
theorem ite_t_ {h : Decidable (true = true)} {A B : Prop} : @ite Prop (true = true) h A B = A := if_pos rfl
theorem ite_f_ {h : Decidable (false = true)} {A B : Prop} : @ite Prop (false = true) h A B = B := if_neg Bool.false_ne_true
theorem ite_nt_ {h : Decidable ((!true) = true)} {A B : Prop} : @ite Prop ((!true) = true) h A B = B := if_neg Bool.false_ne_true
theorem ite_nf_ {h : Decidable ((!false) = true)} {A B : Prop} : @ite Prop ((!false) = true) h A B = A := if_pos rfl
end
end DL

set_option Elab.async false
set_option linter.all false
set_option maxRecDepth 100000
set_option maxHeartbeats 4000000
/-! For the end of a claim. -/
namespace DL
open PySem PySem.Spec PyProof.Rows L2
section
variable {P : Program} {w : World} {K : PySem.W.Frag} {mg : Str → Option Value} {base : Heap} {k : Nat} {f : Addr} {fd : FuncData} {ps : List Str} {x qual : Str} {pa : Arguments} {body : List Stmt} {scope : Scope} {dvs : List V}
theorem fn_never : FnOk P w K mg base CX0 k f fd ps (spD K fun _ _ _ => False) :=
  ⟨fun vs H Q E h => by obtain ⟨_, _, _, _, _, _, h, _⟩ := h; exact h.elim, fun A outer s H args us vs Q E _ _ _ _ h => by obtain ⟨_, _, _, _, _, _, h, _⟩ := h; exact h.elim⟩
theorem fn_never_of {kws : List (Str × V)} (F : FunD K x qual pa body scope dvs kws f fd) : FnOk P w K mg base CX0 0 f fd ps (spD K fun _ _ _ => False) := fn_never
/-- defaults stand, but all is written -/
theorem bind_full (F : FunD K x qual pa body scope dvs [] f fd) (hd : dvs ≠ [])
    (h : ∀ (T : Addr) (kV doc pm : Value) (an : Option Addr) (cdv ct : Value) (us its : List Value), us.length = ps.length → its.length = dvs.length →
      ∃ k, bindArgs (PySem.W.fnOf x qual pa body scope (.ref T) kV doc pm an cdv ct) ⟨us, []⟩ = seqItems? (.ref T) >>= k ∧ k (some its.toArray) = pure (ps.zip us)) : Binds K fd ps [] := by
  obtain ⟨ds, r, b⟩ := FunD.binds1 (ps := ps) F ps.length dvs.length hd (by omega) fun T kV doc pm an cdv ct us its h1 h2 => by
    obtain ⟨k, e1, e2⟩ := h T kV doc pm an cdv ct us its h1 h2
    refine ⟨k, e1, ?_⟩
    rw [← h2, List.drop_length, List.append_nil]
    exact e2
  rw [List.drop_length] at r
  cases r
  exact b
theorem law_start {S : DSp} {H : Hp} {a : Addr} {ns : List Int} {E : XK} (hS : SqL K H a (ns.map V.int)) (h : ∀ M : Mem, S [.scr (ns.map D.int)] M fun x _ => x = .bl true) : spD K S [.ref a] H (fun v _ => v = .bl true) E :=
  ⟨H, fun _ => none, _, _, ⟨Ex.refl H, fun a o e => by cases e⟩, .cons (.scr hS (RepL.ofInts ns)) .nil, h _, fun v F' H' M' x _ _ r e => by cases e; cases r; rfl⟩
end
end DL

set_option Elab.async false
set_option linter.all false
set_option maxRecDepth 100000
set_option maxHeartbeats 4000000
/-! More builtins over data: max, min, sum of a tuple of numbers, max and min of three. -/
namespace DL
open PySem PySem.Spec PyProof.Rows L2
section
variable {prog : Program} {w : World} {A : Around} {E : Value → Shared → Prop} {s : Shared} {l : Addr}
/-- the walk along a tuple, for the calls that take one item behind another -/
theorem old_of {T : String} {h' : Heap} {fs : Array Value} (hk : ∀ b o, b ∉ [s.heap.objs.size] → (s.heap.push { cls := .type T, data := .fields fs }).get? b = some o → h'.get? b = some o) : ∀ b o, s.heap.get? b = some o → h'.get? b = some o := fun b o e => by
  refine hk b o (fun hm => absurd (Heap.lt_size e) ?_) (Heap.get?_push_of_some _ e)
  rw [List.mem_singleton.mp hm]
  exact Nat.lt_irrefl _
theorem fp_of {T : String} {fs : Array Value} (hl : l < s.heap.objs.size) : ∀ b ∈ [s.heap.objs.size, l], b < (s.heap.push { cls := .type T, data := .fields fs }).objs.size := fun b hb => by
  rw [Heap.size_push]
  simp only [List.mem_cons, List.not_mem_nil, or_false] at hb
  rcases hb with rfl | rfl
  · exact Nat.lt_succ_self _
  · exact Nat.lt_succ_of_lt hl
variable {xs : Array (Int × Tok)} {Q : Value → Shared → Prop}
theorem max_tupW (hh : A.handled = none) (ht : s.heap.IsTuple l (intItems xs)) (hne : 0 < xs.size)
    (h : ∀ v h' tk, (intItems xs)[argBest (fun i j => decide (numAt xs i > numAt xs j)) (xs.size - 1)]? = some v → (∀ b o, s.heap.get? b = some o → h'.get? b = some o) → Q v { s with heap := h', toks := tk }) : wpAny (model prog w) A (call (.builtin "max") [.ref l]) Q E s := by
  have lt : l < s.heap.objs.size := by obtain ⟨_, e, _⟩ := ht; exact Heap.lt_size e
  exact call_max_walk (wpAny_pyIter_tuple ht ⟨_, _, _, _, _, _, _, rfl, Walks.tuple (A := A.in1) hh _ l (Nat.ne_of_lt lt) (intItems xs), ⟨⟨_, Heap.get?_push_size _ rfl, rfl, rfl⟩, ht.push _⟩, fp_of lt, by simpa [intItems] using hne, CmpOf.ints_gt (numAt xs) (fun _ _ => intItems_at),
    fun v h' tk hP hk => h v h' tk (by simpa [intItems] using hP) (old_of hk)⟩)
theorem min_tupW (hh : A.handled = none) (ht : s.heap.IsTuple l (intItems xs)) (hne : 0 < xs.size)
    (h : ∀ v h' tk, (intItems xs)[argBest (fun i j => decide (numAt xs i < numAt xs j)) (xs.size - 1)]? = some v → (∀ b o, s.heap.get? b = some o → h'.get? b = some o) → Q v { s with heap := h', toks := tk }) : wpAny (model prog w) A (call (.builtin "min") [.ref l]) Q E s := by
  have lt : l < s.heap.objs.size := by obtain ⟨_, e, _⟩ := ht; exact Heap.lt_size e
  exact call_min_walk (wpAny_pyIter_tuple ht ⟨_, _, _, _, _, _, _, rfl, Walks.tuple (A := A.in1) hh _ l (Nat.ne_of_lt lt) (intItems xs), ⟨⟨_, Heap.get?_push_size _ rfl, rfl, rfl⟩, ht.push _⟩, fp_of lt, by simpa [intItems] using hne, CmpOf.ints_lt (numAt xs) (fun _ _ => intItems_at),
    fun v h' tk hP hk => h v h' tk (by simpa [intItems] using hP) (old_of hk)⟩)
variable {its : List Value} {ns : List Int}
theorem max_tup (hh : A.handled = none) (ht : s.heap.IsTuple l its.toArray) (hi : IntsAre its ns) (hne : 0 < ns.length)
    (h : ∀ h' tk m t', (∀ b o, s.heap.get? b = some o → h'.get? b = some o) → m ∈ ns → (∀ a, a ∈ ns → a ≤ m) → Q (.int m t') { s with heap := h', toks := tk }) : wpAny (model prog w) A (call (.builtin "max") [.ref l]) Q E s := by
  obtain ⟨ys, e⟩ := IntsAre.allInts hi |>.items
  have en : numsOf (intItems ys).toList = ns := e ▸ hi.numsOf
  rw [nums_intItems] at en
  subst en
  rw [e] at ht
  have hz : 0 < ys.size := by simpa using hne
  refine max_tupW hh ht hz fun v h' tk hv hk => ?_
  obtain ⟨t, rfl⟩ := intItems_at hv
  have best := argBest_gt (numAt ys) (ys.size - 1)
  refine h h' tk _ t hk (by rw [numAt_eq]; exact PySem.getD_mem (by rw [List.length_map, Array.length_toList]; omega)) fun a ha => ?_
  obtain ⟨j, hj, rfl⟩ := mem_getD ha
  rw [List.length_map, Array.length_toList] at hj
  exact numAt_eq ys j ▸ best.2 j (by omega)
theorem min_tup (hh : A.handled = none) (ht : s.heap.IsTuple l its.toArray) (hi : IntsAre its ns) (hne : 0 < ns.length)
    (h : ∀ h' tk m t', (∀ b o, s.heap.get? b = some o → h'.get? b = some o) → m ∈ ns → (∀ a, a ∈ ns → m ≤ a) → Q (.int m t') { s with heap := h', toks := tk }) : wpAny (model prog w) A (call (.builtin "min") [.ref l]) Q E s := by
  obtain ⟨ys, e⟩ := IntsAre.allInts hi |>.items
  have en : numsOf (intItems ys).toList = ns := e ▸ hi.numsOf
  rw [nums_intItems] at en
  subst en
  rw [e] at ht
  have hz : 0 < ys.size := by simpa using hne
  refine min_tupW hh ht hz fun v h' tk hv hk => ?_
  obtain ⟨t, rfl⟩ := intItems_at hv
  have best := argBest_lt (numAt ys) (ys.size - 1)
  refine h h' tk _ t hk (by rw [numAt_eq]; exact PySem.getD_mem (by rw [List.length_map, Array.length_toList]; omega)) fun a ha => ?_
  obtain ⟨j, hj, rfl⟩ := mem_getD ha
  rw [List.length_map, Array.length_toList] at hj
  exact numAt_eq ys j ▸ best.2 j (by omega)
end
/-! ### as calls: of a list or of a tuple -/
def rMaxA (K : PySem.W.Frag) : List V → Hp → VK → Prop := fun vs H Q => ∃ (a : Addr) (ns : List Int), vs = [V.ref a] ∧ (SqL K H a (ns.map V.int) ∨ SqT K H a (ns.map V.int)) ∧ 0 < ns.length ∧ ∀ m, m ∈ ns → (∀ y, y ∈ ns → y ≤ m) → Q (.int m) H
def rMinA (K : PySem.W.Frag) : List V → Hp → VK → Prop := fun vs H Q => ∃ (a : Addr) (ns : List Int), vs = [V.ref a] ∧ (SqL K H a (ns.map V.int) ∨ SqT K H a (ns.map V.int)) ∧ 0 < ns.length ∧ ∀ m, m ∈ ns → (∀ y, y ∈ ns → m ≤ y) → Q (.int m) H
section
variable {X : Cx}
theorem cr_maxA (hc : X.calm = true) : CallR X (.builtin "max") (rMaxA X.K) := by
  intro pins s σ H vs us Q I r h
  obtain ⟨a, ns, e, hs, hne, q⟩ := h
  rcases hs with hs | hs
  · exact cr_max hc pins s σ H vs us Q I r ⟨a, ns, e, hs, hne, q⟩
  · subst e
    obtain ⟨its, rv, ht, _⟩ := I.tuple hs
    rw [Vals.ref1 r]
    exact max_tup (I.ok.hd hc) ht rv.ints hne fun h' tk m t' hk h1 h2 => ⟨.int _, H, I.kept hk, ⟨_, rfl⟩, q m h1 h2⟩
theorem cr_minA (hc : X.calm = true) : CallR X (.builtin "min") (rMinA X.K) := by
  intro pins s σ H vs us Q I r h
  obtain ⟨a, ns, e, hs, hne, q⟩ := h
  rcases hs with hs | hs
  · exact cr_min hc pins s σ H vs us Q I r ⟨a, ns, e, hs, hne, q⟩
  · subst e
    obtain ⟨its, rv, ht, _⟩ := I.tuple hs
    rw [Vals.ref1 r]
    exact min_tup (I.ok.hd hc) ht rv.ints hne fun h' tk m t' hk h1 h2 => ⟨.int _, H, I.kept hk, ⟨_, rfl⟩, q m h1 h2⟩
end
/-! ### over data -/
def maxAD : RCD := fun xs M Q => match xs with
  | [x] => ∃ ns : List Int, itemsD M x = some (ns.map D.int) ∧ 0 < ns.length ∧ ∀ m, m ∈ ns → (∀ y, y ∈ ns → y ≤ m) → Q (.int m) M
  | _ => False
def minAD : RCD := fun xs M Q => match xs with
  | [x] => ∃ ns : List Int, itemsD M x = some (ns.map D.int) ∧ 0 < ns.length ∧ ∀ m, m ∈ ns → (∀ y, y ∈ ns → m ≤ y) → Q (.int m) M
  | _ => False
def max3D : RCD := fun xs M Q => match xs with
  | [.int i, .int j, .int k] => Q (.int (max (max i j) k)) M
  | _ => False
def min3D : RCD := fun xs M Q => match xs with
  | [.int i, .int j, .int k] => Q (.int (min (min i j) k)) M
  | _ => False
section
variable {K : PySem.W.Frag} {X : Cx}
theorem ks_maxA : SimC K (rMaxA K) maxAD := by
  intro F H M vs xs Q R k r h c
  match xs, r, h with
  | [], _, h => exact h.elim
  | [x], r, h =>
    obtain ⟨v, rfl, q1⟩ := repL1 r
    obtain ⟨ns, e, h0, h⟩ := h
    obtain ⟨a, ws, rfl, ha, ra⟩ := k.items q1 e
    cases ra.ints
    exact ⟨a, ns, rfl, ha, h0, fun m h1 h2 => c _ F H M _ Go.refl k (.int _) (h m h1 h2)⟩
  | _ :: _ :: _, _, h => exact h.elim
theorem ks_minA : SimC K (rMinA K) minAD := by
  intro F H M vs xs Q R k r h c
  match xs, r, h with
  | [], _, h => exact h.elim
  | [x], r, h =>
    obtain ⟨v, rfl, q1⟩ := repL1 r
    obtain ⟨ns, e, h0, h⟩ := h
    obtain ⟨a, ws, rfl, ha, ra⟩ := k.items q1 e
    cases ra.ints
    exact ⟨a, ns, rfl, ha, h0, fun m h1 h2 => c _ F H M _ Go.refl k (.int _) (h m h1 h2)⟩
  | _ :: _ :: _, _, h => exact h.elim
theorem kc_maxA (hK : X.K = K) (hc : X.calm = true) : CallR X (.builtin "max") (rMaxA K) := by subst hK; exact cr_maxA hc
theorem kc_minA (hK : X.K = K) (hc : X.calm = true) : CallR X (.builtin "min") (rMinA K) := by subst hK; exact cr_minA hc
theorem repL3 {F : Hp} {vs : List V} {x y z : D} (r : RepL K F vs [x, y, z]) : ∃ u v w, vs = [u, v, w] ∧ Rep K F u x ∧ Rep K F v y ∧ Rep K F w z := by
  cases r with
  | cons r t =>
    obtain ⟨v, w, rfl, q⟩ := repL2 t
    exact ⟨_, v, w, rfl, r, q⟩
def rMax3 : List V → Hp → VK → Prop := fun xs H Q => ∃ i j k, xs = [.int i, .int j, .int k] ∧ Q (.int (max (max i j) k)) H
def rMin3 : List V → Hp → VK → Prop := fun xs H Q => ∃ i j k, xs = [.int i, .int j, .int k] ∧ Q (.int (min (min i j) k)) H
theorem nuMax_int (i j : Int) : nuMax2 (.int i) (.int j) = some (.int (max i j)) := by
  show some (if decide (i < j) = true then V.int j else V.int i) = _
  by_cases h : i < j
  · rw [if_pos (decide_eq_true h), show max i j = j by omega]
  · rw [if_neg (by simpa using h), show max i j = i by omega]
theorem nuMin_int (i j : Int) : nuMin2 (.int i) (.int j) = some (.int (min i j)) := by
  show some (if decide (j < i) = true then V.int j else V.int i) = _
  by_cases h : j < i
  · rw [if_pos (decide_eq_true h), show min i j = j by omega]
  · rw [if_neg (by simpa using h), show min i j = i by omega]
theorem call_max3 (hc : X.calm = true) : CallR X (.builtin "max") rMax3 := fun pins s σ H xs us Q I r h => by
  obtain ⟨i, j, k, e, q⟩ := h
  exact call_max3Nu hc pins s σ H xs us Q I r ⟨_, _, _, _, e, by unfold nuMax3; rw [nuMax_int]; exact nuMax_int _ _, q⟩
theorem call_min3 (hc : X.calm = true) : CallR X (.builtin "min") rMin3 := fun pins s σ H xs us Q I r h => by
  obtain ⟨i, j, k, e, q⟩ := h
  exact call_min3Nu hc pins s σ H xs us Q I r ⟨_, _, _, _, e, by unfold nuMin3; rw [nuMin_int]; exact nuMin_int _ _, q⟩
theorem ks_max3 : SimC K rMax3 max3D := by
  intro F H M vs xs Q R k r h c
  unfold max3D at h
  split at h
  · obtain ⟨u, v, w, rfl, q1, q2, q3⟩ := repL3 r
    cases q1; cases q2; cases q3
    exact ⟨_, _, _, rfl, c _ F H M _ Go.refl k (.int _) h⟩
  · exact h.elim
theorem ks_min3 : SimC K rMin3 min3D := by
  intro F H M vs xs Q R k r h c
  unfold min3D at h
  split at h
  · obtain ⟨u, v, w, rfl, q1, q2, q3⟩ := repL3 r
    cases q1; cases q2; cases q3
    exact ⟨_, _, _, rfl, c _ F H M _ Go.refl k (.int _) h⟩
  · exact h.elim
end
end DL

set_option Elab.async false
set_option linter.all false
set_option maxRecDepth 100000
set_option maxHeartbeats 4000000
/-! Dicts whose keys are numbers and texts, over data. -/
namespace DL
open PySem PySem.Spec PyProof.Rows L2
def keyD : Key → D
  | .inl i => .int i
  | .inr x => .str x
def dKey : D → Option Key
  | .int i => some (.inl i)
  | .str x => some (.inr x)
  | _ => none
theorem rep_key {K : PySem.W.Frag} {F : Hp} {v : V} {d : D} {k : Key} (r : Rep K F v d) (h : dKey d = some k) : v = kV k := by
  cases r <;> cases h <;> rfl
section
variable {κ : Type} [DecidableEq κ]
def valD (kvs : List (κ × D)) (k : κ) : Option D := (kvs.find? fun kv => decide (kv.1 = k)).map (·.2)
def putD (kvs : List (κ × D)) (k : κ) (d : D) : List (κ × D) :=
  if (kvs.any fun kv => decide (kv.1 = k)) = true then kvs.map (fun kv => if kv.1 = k then (kv.1, d) else kv) else kvs ++ [(k, d)]
/-- the pairs as they stand -/
inductive RepK (K : PySem.W.Frag) (F : Hp) : List (κ × V) → List (κ × D) → Prop
  | nil : RepK K F [] []
  | cons {k : κ} {v : V} {d : D} {ws : List (κ × V)} {kvs : List (κ × D)} : Rep K F v d → RepK K F ws kvs → RepK K F ((k, v) :: ws) ((k, d) :: kvs)
variable {K : PySem.W.Frag} {F F' : Hp}
theorem RepK.of : ∀ {ws : List (κ × V)} {kvs : List (κ × D)}, ws.map (·.1) = kvs.map (·.1) → RepL K F (ws.map (·.2)) (kvs.map (·.2)) → RepK K F ws kvs
  | [], [], _, _ => .nil
  | [], _ :: _, h, _ => by cases h
  | _ :: _, [], h, _ => by cases h
  | (k, v) :: ws, (k', d) :: kvs, h, r => by
    simp only [List.map_cons, List.cons.injEq] at h
    obtain ⟨rfl, h⟩ := h
    cases r with
    | cons r t => exact .cons r (RepK.of h t)
theorem RepK.to {ws : List (κ × V)} {kvs : List (κ × D)} (r : RepK K F ws kvs) : ws.map (·.1) = kvs.map (·.1) ∧ RepL K F (ws.map (·.2)) (kvs.map (·.2)) := by
  induction r with
  | nil => exact ⟨rfl, .nil⟩
  | cons r _ ih => exact ⟨by simp only [List.map_cons, ih.1], .cons r ih.2⟩
theorem RepK.length {ws : List (κ × V)} {kvs : List (κ × D)} (r : RepK K F ws kvs) : ws.length = kvs.length := by
  induction r with
  | nil => rfl
  | cons _ _ ih => simp only [List.length_cons, ih]
theorem RepK.any {ws : List (κ × V)} {kvs : List (κ × D)} (r : RepK K F ws kvs) (k : κ) : (ws.any fun kv => decide (kv.1 = k)) = kvs.any fun kv => decide (kv.1 = k) := by
  induction r with
  | nil => rfl
  | cons _ _ ih => simp only [List.any_cons, ih]
theorem RepK.val {ws : List (κ × V)} {kvs : List (κ × D)} (r : RepK K F ws kvs) (k : κ) : (valD kvs k = none ∧ valV ws k = none) ∨ ∃ d v, valD kvs k = some d ∧ valV ws k = some v ∧ Rep K F v d := by
  induction r with
  | nil => exact .inl ⟨rfl, rfl⟩
  | @cons k' v d ws kvs r t ih =>
    by_cases e : k' = k
    · exact .inr ⟨d, v, by simp [valD, List.find?_cons, e], by simp [valV, List.find?_cons, e], r⟩
    · have e1 : valD ((k', d) :: kvs) k = valD kvs k := by simp [valD, List.find?_cons, e]
      have e2 : valV ((k', v) :: ws) k = valV ws k := by simp [valV, List.find?_cons, e]
      rw [e1, e2]
      exact ih
theorem RepK.app {ws : List (κ × V)} {kvs : List (κ × D)} (r : RepK K F ws kvs) {k : κ} {v : V} {d : D} (q : Rep K F v d) : RepK K F (ws ++ [(k, v)]) (kvs ++ [(k, d)]) := by
  induction r with
  | nil => exact .cons q .nil
  | cons r _ ih => exact .cons r ih
theorem RepK.over {ws : List (κ × V)} {kvs : List (κ × D)} (r : RepK K F ws kvs) {k : κ} {v : V} {d : D} (q : Rep K F v d) : RepK K F (ws.map fun kv => if kv.1 = k then (kv.1, v) else kv) (kvs.map fun kv => if kv.1 = k then (kv.1, d) else kv) := by
  induction r with
  | nil => exact .nil
  | @cons k' v' d' ws kvs r t ih =>
    by_cases e : k' = k
    · simp only [List.map_cons, e, if_true]
      exact .cons q ih
    · simp only [List.map_cons, e, if_false]
      exact .cons r ih
theorem RepK.put {ws : List (κ × V)} {kvs : List (κ × D)} (r : RepK K F ws kvs) {k : κ} {v : V} {d : D} (q : Rep K F v d) : RepK K F (putK ws k v) (putD kvs k d) := by
  unfold putK putD
  rw [r.any k]
  split
  · exact r.over q
  · exact r.app q
theorem RepK.mono {ws : List (κ × V)} {kvs : List (κ × D)} (r : RepK K F ws kvs) (e : Ex F F') : RepK K F' ws kvs := by
  induction r with
  | nil => exact .nil
  | cons r _ ih => exact .cons (r.mono e) ih
end
/-! ### over data -/
def dicAt (M : Mem) : D → Option (Addr × List (Key × D))
  | .ref p => match M p with
    | some (.dic kvs) => some (p, kvs)
    | _ => none
  | _ => none
theorem dicAt_of {M : Mem} {x : D} {p : Addr} {kvs : List (Key × D)} (h : dicAt M x = some (p, kvs)) : x = .ref p ∧ M p = some (.dic kvs) := by
  unfold dicAt at h
  split at h
  · rename_i q
    split at h
    · rename_i e; cases h; exact ⟨rfl, e⟩
    · cases h
  · cases h
theorem dicAt_ref {M : Mem} {p : Addr} {kvs : List (Key × D)} (h : M p = some (.dic kvs)) : dicAt M (.ref p) = some (p, kvs) := by
  unfold dicAt; simp only [h]
def getK (x y : D) (M : Mem) (Q : QD) : Prop := ∃ p kvs k d, dicAt M x = some (p, kvs) ∧ dKey y = some k ∧ valD kvs k = some d ∧ Q d M
def inK (y x : D) (M : Mem) (k : Bool → Prop) : Prop := ∃ p kvs key, dicAt M x = some (p, kvs) ∧ dKey y = some key ∧ k (valD kvs key).isSome
def putK_ (x y v : D) (M : Mem) (Q : Mem → Prop) : Prop := ∃ p kvs k, dicAt M x = some (p, kvs) ∧ dKey y = some k ∧ kvs.length < sizeLine ∧ Q (mput M p (.dic (putD kvs k v)))
def dGetK (o i : TD) : TD := fun Γ M Q => o Γ M fun x M1 => i Γ M1 fun y M2 => getK x y M2 Q
def dInK (i o : TD) : TD := fun Γ M Q => i Γ M fun y M1 => o Γ M1 fun x M2 => inK y x M2 fun b => Q (.bl b) M2
def dNotInK (i o : TD) : TD := fun Γ M Q => i Γ M fun y M1 => o Γ M1 fun x M2 => inK y x M2 fun b => Q (.bl (!b)) M2
def dPutK (o i a : TD) : TDS := fun E Γ M => a Γ M fun v M1 => o Γ M1 fun x M2 => i Γ M2 fun y M3 => putK_ x y v M3 fun M4 => E.nx Γ M4
def dDicNew : TD := fun _ M Q => ∀ p, M p = none → Q (.ref p) (mput M p (.dic []))
section
variable {K : PySem.W.Frag} {X : Cx}
theorem Ok.dic {F H : Hp} {M : Mem} (k : Ok K F H M) {p : Addr} {kvs : List (Key × D)} (e : M p = some (.dic kvs)) : ∃ ws, H p = some (.dK ws) ∧ RepK K F ws kvs := by
  obtain ⟨_, ws, h, h1, h2⟩ := k.mem p _ e
  exact ⟨ws, h, RepK.of h1 h2⟩
theorem sim_getK {to ti : TE} {do_ di : TD} (ho : SimE K to do_) (hi : SimE K ti di) : SimE K (tDGet to ti) (dGetK do_ di) := fun F H M σ Γ Q R k s h c =>
  ho F H M σ Γ _ _ k s h fun v F1 H1 M1 x g1 k1 r1 h1 => hi F1 H1 M1 σ Γ _ _ k1 (s.mono g1.ext) h1 fun w F2 H2 M2 y g2 k2 r2 h2 => by
    obtain ⟨p, kvs, key, d, e, ek, ev, q⟩ := h2
    obtain ⟨rfl, em⟩ := dicAt_of e
    cases r1
    obtain ⟨ws, hw, rw_⟩ := k2.dic em
    rcases rw_.val key with ⟨z, _⟩ | ⟨d', v', z1, z2, z3⟩
    · rw [ev] at z; cases z
    · rw [ev] at z1; cases z1
      refine ⟨p, v', rfl, ?_, c v' F2 H2 M2 d (g1.trans g2) k2 z3 q⟩
      rw [rep_key r2 ek, ← z2]
      exact DGet.k hw
theorem sim_inK {to ti : TE} {do_ di : TD} (hi : SimE K ti di) (ho : SimE K to do_) : SimE K (tDIn ti to) (dInK di do_) := fun F H M σ Γ Q R k s h c =>
  hi F H M σ Γ _ _ k s h fun w F1 H1 M1 y g1 k1 r1 h1 => ho F1 H1 M1 σ Γ _ _ k1 (s.mono g1.ext) h1 fun v F2 H2 M2 x g2 k2 r2 h2 => by
    obtain ⟨p, kvs, key, e, ek, q⟩ := h2
    obtain ⟨rfl, em⟩ := dicAt_of e
    cases r2
    obtain ⟨ws, hw, rw_⟩ := k2.dic em
    refine ⟨p, valV ws key, rfl, by rw [rep_key r1 ek]; exact DGet.k hw, ?_⟩
    have e2 : (valV ws key).isSome = (valD kvs key).isSome := by
      rcases rw_.val key with ⟨z1, z2⟩ | ⟨d', v', z1, z2, _⟩
      · rw [z1, z2]; rfl
      · rw [z1, z2]; rfl
    rw [e2]
    exact c _ F2 H2 M2 _ (g1.trans g2) k2 (.bl _) q
theorem sim_notInK {to ti : TE} {do_ di : TD} (hi : SimE K ti di) (ho : SimE K to do_) : SimE K (tDNotIn ti to) (dNotInK di do_) := fun F H M σ Γ Q R k s h c =>
  hi F H M σ Γ _ _ k s h fun w F1 H1 M1 y g1 k1 r1 h1 => ho F1 H1 M1 σ Γ _ _ k1 (s.mono g1.ext) h1 fun v F2 H2 M2 x g2 k2 r2 h2 => by
    obtain ⟨p, kvs, key, e, ek, q⟩ := h2
    obtain ⟨rfl, em⟩ := dicAt_of e
    cases r2
    obtain ⟨ws, hw, rw_⟩ := k2.dic em
    refine ⟨p, valV ws key, rfl, by rw [rep_key r1 ek]; exact DGet.k hw, ?_⟩
    have e2 : (valV ws key).isSome = (valD kvs key).isSome := by
      rcases rw_.val key with ⟨z1, z2⟩ | ⟨d', v', z1, z2, _⟩
      · rw [z1, z2]; rfl
      · rw [z1, z2]; rfl
    rw [e2]
    exact c _ F2 H2 M2 _ (g1.trans g2) k2 (.bl _) q
theorem sim_dicNew : SimE K tDNewK dDicNew := fun F H M σ Γ Q R k s h c p hp => by
  have q := (k.free hp).2
  exact c _ F _ _ _ (k.goM hp _ _) (k.newM (m := .dic []) hp ⟨[], upd_same, rfl, .nil⟩) (.ref p) (h p q)
theorem sim_putK {to ti ta : TE} {do_ di da : TD} (ho : SimE K to do_) (hi : SimE K ti di) (ha : SimE K ta da) : SimS K (sDPut to ti ta) (dPutK do_ di da) := fun F H M σ Γ E D k s h n r b c =>
  ha F H M σ Γ _ _ k s h fun vv F1 H1 M1 v g1 k1 r1 h1 => ho F1 H1 M1 σ Γ _ _ k1 (s.mono g1.ext) h1 fun vx F2 H2 M2 x g2 k2 r2 h2 => hi F2 H2 M2 σ Γ _ _ k2 (s.mono (g1.trans g2).ext) h2 fun vy F3 H3 M3 y g3 k3 r3 h3 => by
    obtain ⟨p, kvs, key, e, ek, hl, q⟩ := h3
    obtain ⟨rfl, em⟩ := dicAt_of e
    cases r2
    obtain ⟨ws, hw, rw_⟩ := k3.dic em
    have g := (g1.trans g2).trans g3
    have rp := rw_.put (k := key) (r1.mono (g2.trans g3).ext)
    refine ⟨p, _, rfl, by rw [rep_key r3 ek]; exact DPut.k hw (by rw [rw_.length]; exact hl), ?_⟩
    exact n σ F3 _ _ Γ (g.trans (k3.goW em _ _)) (k3.write (m := .dic (putD kvs key v)) em ⟨_, upd_same, rp.to.1, rp.to.2⟩) (s.mono g.ext) q
end
end DL

set_option Elab.async false
set_option linter.all false
set_option maxRecDepth 100000
set_option maxHeartbeats 4000000
/-! The same, as judgements about the text. -/
namespace DL
open PySem PySem.Spec PyProof.Rows L2
theorem hu1 {n : Nat} (h : n + 64 < cLine) : n + 1 < cLine := Nat.lt_of_le_of_lt (Nat.add_le_add_left (by decide) n) h
def lenKD : RCD := fun xs M Q => match xs with
  | [x] => ∃ p kvs, dicAt M x = some (p, kvs) ∧ Q (.int (kvs.length : Nat)) M
  | _ => False
def listKD : RCD := fun xs M Q => match xs with
  | [x] => ∃ p kvs, dicAt M x = some (p, kvs) ∧ Q (.lst (kvs.map fun kv => keyD kv.1)) M
  | _ => False
def rLenK : List V → Hp → VK → Prop := fun xs H Q => ∃ a kvs, xs = [V.ref a] ∧ H a = some (.dK kvs) ∧ Q (.int (kvs.length : Nat)) H
section
variable {K : PySem.W.Frag} {X : Cx} {o i e value : Expr} {pos pos' : Pos} {td ty tv : TE} {dd dy dv : TD}
theorem kd_getK (hK : X.K = K) (hu : X.A.units + 1 < cLine) (ho : PD X o td dd) (hi : PD X i ty dy) (hs : NoSl i := by intro _ _; rfl) : PD X (.Subscript o i pos) (tDGet td ty) (dGetK dd dy) := by
  subst hK; exact ⟨pe_dget hu ho.pe hi.pe hs, sim_getK ho.sim hi.sim⟩
theorem kd_inK (hK : X.K = K) (hu : X.A.units + 1 < cLine) (hi : PD X i ty dy) (ho : PD X o td dd) (hm : behindInMarks .In o = false := by rfl) : PD X (.Compare i [.In] [o] pos) (tDIn ty td) (dInK dy dd) := by
  subst hK; exact ⟨pe_cmp (pc_din hu hi.pe ho.pe) hm, sim_inK hi.sim ho.sim⟩
theorem kd_notInK (hK : X.K = K) (hu : X.A.units + 1 < cLine) (hi : PD X i ty dy) (ho : PD X o td dd) (hm : behindInMarks .NotIn o = false := by rfl) : PD X (.Compare i [.NotIn] [o] pos) (tDNotIn ty td) (dNotInK dy dd) := by
  subst hK; exact ⟨pe_cmp (pc_dnotin hu hi.pe ho.pe) hm, sim_notInK hi.sim ho.sim⟩
theorem kdt_inK (hK : X.K = K) (hu : X.A.units + 1 < cLine) (hi : PD X i ty dy) (ho : PD X o td dd) (hm : behindInMarks .In o = false := by rfl) : PDT X (.Compare i [.In] [o] pos) (tB (tDIn ty td)) (dTest (dInK dy dd)) := by
  subst hK; exact ⟨pt_cmp (pc_din hu hi.pe ho.pe) hm, sim_B (sim_inK hi.sim ho.sim)⟩
theorem kdt_notInK (hK : X.K = K) (hu : X.A.units + 1 < cLine) (hi : PD X i ty dy) (ho : PD X o td dd) (hm : behindInMarks .NotIn o = false := by rfl) : PDT X (.Compare i [.NotIn] [o] pos) (tB (tDNotIn ty td)) (dTest (dNotInK dy dd)) := by
  subst hK; exact ⟨pt_cmp (pc_dnotin hu hi.pe ho.pe) hm, sim_B (sim_notInK hi.sim ho.sim)⟩
theorem kd_dicNew : PD X (.Dict [] [] pos) tDNewK dDicNew := ⟨pe_dnewK, sim_dicNew⟩
theorem kds_putK (hK : X.K = K) (hu : X.A.units + 1 < cLine) (ho : PD X o td dd) (hi : PD X i ty dy) (hv : PD X value tv dv) (hs : swapsWith value (some (.Subscript o i pos')) pos.line X.env = pure false := by rfl) :
    PDS X (.Assign [.Subscript o i pos'] value pos) (sDPut td ty tv) (dPutK dd dy dv) := by
  subst hK; exact ⟨ps_dput hu ho.pe hi.pe hv.pe hs, sim_putK ho.sim hi.sim hv.sim⟩
theorem kc_lenK : CallR X (.builtin "len") rLenK := call_lenD
theorem ks_lenK : SimC K rLenK lenKD := by
  intro F H M vs xs Q R k r h c
  match xs, r, h with
  | [], _, h => exact h.elim
  | [x], r, h =>
    obtain ⟨v, rfl, q1⟩ := repL1 r
    obtain ⟨p, kvs, e, q⟩ := h
    obtain ⟨rfl, em⟩ := dicAt_of e
    cases q1
    obtain ⟨ws, hw, rw_⟩ := k.dic em
    exact ⟨p, ws, rfl, hw, by rw [rw_.length]; exact c _ F H M _ Go.refl k (.int _) q⟩
  | _ :: _ :: _, _, h => exact h.elim
theorem repL_keys {F : Hp} {ws : List (Key × V)} {kvs : List (Key × D)} (r : RepK K F ws kvs) : RepL K F (ws.map fun kv => kV kv.1) (kvs.map fun kv => keyD kv.1) := by
  induction r with
  | nil => exact .nil
  | @cons k v d ws kvs r t ih =>
    refine .cons ?_ ih
    cases k with
    | inl i => exact .int i
    | inr x => exact .str x
theorem kc_listK (hc : X.calm = true) : CallR X (.type "list") rListD := call_list_dK hc
theorem ks_listK : SimC K rListD listKD := by
  intro F H M vs xs Q R k r h c
  match xs, r, h with
  | [], _, h => exact h.elim
  | [x], r, h =>
    obtain ⟨v, rfl, q1⟩ := repL1 r
    obtain ⟨p, kvs, e, q⟩ := h
    obtain ⟨rfl, em⟩ := dicAt_of e
    cases q1
    obtain ⟨ws, hw, rw_⟩ := k.dic em
    refine ⟨p, ws, rfl, hw, fun l hl => ?_⟩
    have g := k.goF hl (.lst (ws.map fun kv => kV kv.1))
    exact c _ _ _ M _ g (k.newF hl _) (.lst upd_same ((repL_keys rw_).mono g.ext)) q
  | _ :: _ :: _, _, h => exact h.elim
end
end DL

set_option Elab.async false
set_option linter.all false
set_option maxRecDepth 100000
set_option maxHeartbeats 4000000
/-! list.index, a tuple many times, a dict written out. -/
namespace DL
open PySem PySem.Spec PyProof.Rows L2
def indexD (x : D) (xs : List D) (M : Mem) (Q : QD) : Prop := match xs with
  | [y] => ∃ ds, DL.view M x = .lst ds ∧ flatD y = true ∧ ds.all flatD = true ∧ ∃ j z, ds[j]? = some z ∧ eqF z y = true ∧ (∀ (m : Nat) z', m < j → ds[m]? = some z' → eqF z' y = false) ∧ Q (.int (j : Nat)) M
  | _ => False
def repTD : R2D := fun x y M Q => match view M x, y with
  | .tup xs, .int k => xs ≠ [] ∧ 2 ≤ k ∧ k ≤ 1000 ∧ xs.length ≤ 1000 ∧ Q (.tup (List.replicate k.toNat xs).flatten) M
  | _, _ => False
section
variable {K : PySem.W.Frag} {X : Cx}
theorem s2_repT : Sim2 K (rRepT K) repTD := fun F H M v w x y Q R k r1 r2 h c => by
  unfold repTD at h
  cases e : DL.view M x with
  | tup xs =>
    simp only [e] at h
    cases y with
    | int n =>
      cases r2
      obtain ⟨_, a, vs, rfl, _, ha, ra⟩ := k.vtup r1 e
      obtain ⟨h0, h1, h2, h3, q⟩ := h
      have hl := ra.length
      refine ⟨a, n, vs, rfl, rfl, ha, fun z => h0 ?_, h1, h2, by omega, fun p hp => ?_⟩
      · subst z
        cases ra
        rfl
      · have g := k.goF hp (.tup (List.replicate n.toNat vs).flatten)
        have rr : ∀ m : Nat, RepL K F (List.replicate m vs).flatten (List.replicate m xs).flatten := fun m => by
          induction m with
          | zero => exact .nil
          | succ m ih => rw [List.replicate_succ, List.replicate_succ, List.flatten_cons, List.flatten_cons]; exact ra.append ih
        exact c _ _ _ M _ g (k.newF hp _) (.tup (.inl (.inl upd_same)) ((rr n.toNat).mono g.ext)) q
    | _ => exact h.elim
  | _ => simp only [e] at h
theorem ko_repT (hK : X.K = K) : OpR X (binaryOp .Mult) (rRepT K) := by subst hK; exact op_repT
theorem flat_of {ds : List D} (h : ds.all flatD = true) {j : Nat} {d : D} (e : ds[j]? = some d) : flatD d = true := List.all_eq_true.mp h d (List.mem_of_getElem? e)
theorem sm_index : SimM K (rIndex K) indexD := fun F H M v vs x xs Q R k r1 r2 h c => by
  unfold indexD at h
  match xs, r2, h with
  | [], _, h => exact h.elim
  | [y], r2, h =>
    obtain ⟨w, rfl, q2⟩ := repL1 r2
    obtain ⟨ds, e, f1, f2, j, z, hz, ez, hno, q⟩ := h
    obtain ⟨a, us, rfl, ha, ra⟩ := k.vlst r1 e
    obtain ⟨u, hu, ru⟩ := ra.get hz
    refine ⟨a, us, w, j, u, rfl, rfl, SqL.of ha, rep_flat q2 f1, repL_flat ra f2, hu, by rw [rep_eqF ru q2 (flat_of f2 hz) f1]; exact ez, fun m z' hm hz' => ?_, c _ F H M _ Go.refl k (.int _) q⟩
    obtain ⟨d', hd', rd'⟩ := ra.get' hz'
    rw [rep_eqF rd' q2 (flat_of f2 hd') f1]
    exact hno m d' hm hd'
  | _ :: _ :: _, _, h => exact h.elim
variable {o e : Expr} {es : List Expr} {apos cpos : Pos} {to : TE} {do_ : TD} {t : TA} {d : TDA}
theorem kd_index (hK : X.K = K) (ho : PD X o to do_) (ha : PDA X (e :: es) t d) (hbase : attributeBase o "index" X.env (eval o X.env) = eval o X.env := by rfl)
    (hfew : ((backTo cpos (starEach (e :: es) X.env)).all (fun x => !x.1) && (backToKw cpos (keywordEach [] X.env)).all (fun x => x.1.isSome)
      && decide ((e :: es).length + ([] : List Keyword).length + (if ([] : List Keyword).isEmpty then 0 else 1) < 30)) = true := by rfl) (hline : (apos.endLine == cpos.line) = true := by rfl)
    (he : starEach (e :: es) X.env = (false, eval e X.env) :: starEach es X.env := by rfl) (hpl : (backTo cpos (starEach es X.env)).any (·.1) = false := by rfl) :
    PD X (.Call (.Attribute o "index" apos) (e :: es) [] cpos) (tBM K "list" (rIndex K) to t) (dBM indexD do_ d) := by
  subst hK; exact ⟨pe_bm PySem.F.plainAttrs_list PySem.F.slot_list_index PySem.F.type_list_index mt_index ho.pe ha.pe hbase hfew hline he hpl, sim_bm sm_index ho.sim ha.sim⟩
end
end DL

set_option Elab.async false
set_option linter.all false
set_option maxRecDepth 100000
set_option maxHeartbeats 4000000
/-! A dict written out with its pairs. -/
namespace DL
open PySem PySem.Spec PyProof.Rows L2
def dPairs : List (TD × TD) → DE → Mem → (List (D × D) → Mem → Prop) → Prop
  | [], _, M, Q => Q [] M
  | (k, v) :: r, Γ, M, Q => k Γ M fun x M1 => v Γ M1 fun y M2 => dPairs r Γ M2 fun ps M3 => Q ((x, y) :: ps) M3
def mergeD (kvs more : List (Key × D)) : List (Key × D) := more.foldl (fun acc kv => putD acc kv.1 kv.2) kvs
def dDisp (prs : List (TD × TD)) : TD := fun Γ M Q => ∀ p, M p = none → dPairs prs Γ (mput M p (.dic [])) fun ps M2 => M2 p = some (.dic []) ∧ ∃ kvs : List (Key × D), ps = kvs.map (fun kv => (keyD kv.1, kv.2)) ∧ kvs.length ≤ 15 ∧ Q (.ref p) (mput M2 p (.dic (mergeD [] kvs)))
inductive RepPr (K : PySem.W.Frag) (F : Hp) : List (V × V) → List (D × D) → Prop
  | nil : RepPr K F [] []
  | cons {v w : V} {x y : D} {vs : List (V × V)} {ds : List (D × D)} : Rep K F v x → Rep K F w y → RepPr K F vs ds → RepPr K F ((v, w) :: vs) ((x, y) :: ds)
def SimPs (K : PySem.W.Frag) (trs : List (TE × TE)) (drs : List (TD × TD)) : Prop := ∀ F H M σ Γ (Q : List (D × D) → Mem → Prop) (R : List (V × V) → Hp → Prop), Ok K F H M → SRel K F σ Γ → dPairs drs Γ M Q →
  (∀ ps F' H' M' ds, Go F H M F' H' M' → Ok K F' H' M' → RepPr K F' ps ds → Q ds M' → R ps H') → tPairs trs σ H R
section
variable {K : PySem.W.Frag} {X : Cx}
theorem sps_nil : SimPs K [] [] := fun F H M σ Γ Q R k s h c => c [] F H M [] Go.refl k .nil h
theorem sps_cons {tk tv : TE} {dk dv : TD} {trs : List (TE × TE)} {drs : List (TD × TD)} (hk : SimE K tk dk) (hv : SimE K tv dv) (hr : SimPs K trs drs) : SimPs K ((tk, tv) :: trs) ((dk, dv) :: drs) := fun F H M σ Γ Q R k s h c =>
  hk F H M σ Γ _ _ k s h fun v F1 H1 M1 x g1 k1 r1 h1 => hv F1 H1 M1 σ Γ _ _ k1 (s.mono g1.ext) h1 fun w F2 H2 M2 y g2 k2 r2 h2 =>
    hr F2 H2 M2 σ Γ _ _ k2 (s.mono (g1.trans g2).ext) h2 fun ps F3 H3 M3 ds g3 k3 r3 h3 => c _ F3 H3 M3 _ ((g1.trans g2).trans g3) k3 (.cons (r1.mono (g2.trans g3).ext) (r2.mono g3.ext) r3) h3
theorem reppr_keys {F : Hp} : ∀ {ps : List (V × V)} {kvs : List (Key × D)}, RepPr K F ps (kvs.map fun kv => (keyD kv.1, kv.2)) → ∃ ws : List (Key × V), ps = ws.map (fun kv => (kV kv.1, kv.2)) ∧ RepK K F ws kvs
  | _, [], .nil => ⟨[], rfl, .nil⟩
  | _, (k, d) :: kvs, .cons (v := v) (w := w) r1 r2 t => by
    obtain ⟨ws, rfl, q⟩ := reppr_keys t
    have e : v = kV k := by
      cases k with
      | inl i => cases r1; rfl
      | inr x => cases r1; rfl
    exact ⟨(k, w) :: ws, by rw [e]; rfl, .cons r2 q⟩
theorem repK_merge {F : Hp} {more : List (Key × V)} {dm : List (Key × D)} (r : RepK K F more dm) : ∀ {ws : List (Key × V)} {kvs : List (Key × D)}, RepK K F ws kvs → RepK K F (mergeK ws more) (mergeD kvs dm) := by
  induction r with
  | nil => intro ws kvs q; exact q
  | @cons k v d more dm r t ih =>
    intro ws kvs q
    exact ih (q.put (k := k) r)
theorem sim_disp {trs : List (TE × TE)} {drs : List (TD × TD)} (hp : SimPs K trs drs) : SimE K (tDisp trs) (dDisp drs) := fun F H M σ Γ Q R k s h c p hn => by
  have q := (k.free hn).2
  have k0 : Ok K F (upd H p (.dK [])) (mput M p (.dic [])) := k.newM (m := .dic []) hn ⟨[], upd_same, rfl, .nil⟩
  refine hp F _ _ σ Γ _ _ k0 s (h p q) fun ps F2 H2 M2 ds g2 k2 r2 h2 => ?_
  obtain ⟨em, kvs, rfl, hl, hq⟩ := h2
  obtain ⟨ws, rfl, rk⟩ := reppr_keys r2
  obtain ⟨ws0, hw, r0⟩ := k2.dic em
  cases r0
  have rm := repK_merge rk (.nil : RepK K F2 [] [])
  refine ⟨hw, ws, rfl, by rw [rk.length]; exact hl, ?_⟩
  exact c _ F2 _ _ _ (((k.goM hn _ (.dic [])).trans g2).trans (k2.goW em _ _)) (k2.write (m := .dic (mergeD [] kvs)) em ⟨_, upd_same, rm.to.1, rm.to.2⟩) (.ref p) hq
structure PDPs (X : Cx) (pos : Pos) (keys : List (Option Expr)) (values : List Expr) (trs : List (TE × TE)) (drs : List (TD × TD)) : Prop where
  pe : PPs X pos keys values trs
  sim : SimPs X.K trs drs
variable {pos : Pos} {k v : Expr} {ks : List (Option Expr)} {vs : List Expr} {tk tv : TE} {dk dv : TD} {trs : List (TE × TE)} {drs : List (TD × TD)}
theorem pdps_nil : PDPs X pos [] [] [] [] := ⟨pps_nil, sps_nil⟩
theorem pdps_cons (hk : PD X k tk dk) (hv : PD X v tv dv) (hr : PDPs X pos ks vs trs drs) : PDPs X pos (some k :: ks) (v :: vs) ((tk, tv) :: trs) ((dk, dv) :: drs) := ⟨pps_cons hk.pe hv.pe hr.pe, sps_cons hk.sim hv.sim hr.sim⟩
theorem pd_disp (h : PDPs X pos ks vs trs drs) (hall : ks.all (·.isSome) = true := by rfl) (hl : ks.length = vs.length := by rfl) (h0 : ks ≠ [] := by simp) (h15 : ks.length ≤ 15 := by decide) : PD X (.Dict ks vs pos) (tDisp trs) (dDisp drs) := ⟨pe_disp h.pe hall hl h0 h15, sim_disp h.sim⟩
end
end DL

set_option Elab.async false
set_option linter.all false
set_option maxRecDepth 100000
set_option maxHeartbeats 4000000
/-! sorted(..) of a list or a tuple of ints. -/
namespace SrtO
open PySem PyProof.Rows Srt
section
variable {prog : Program} {w : World} {A : Around} {E : Value → Shared → Prop} {s : Shared}
theorem collect_tup {l : Addr} {vs : List Value} {o : Obj} {n : Nat} {Q : List Value → Shared → Prop} (ho : s.heap.get? l = some o) (hc : o.cls = .type "tuple") (hd : o.data = .seq vs.toArray n)
    (h : Q vs { s with heap := (s.heap.push (seqObj "list" #[] 0)).update s.heap.objs.size (Obj.mapSeq (· ++ vs.toArray)) }) (hsz : vs.length ≤ sizeLine) :
    wpAny (model prog w) A (collect (.ref l)) Q E s := by
  unfold collect
  refine wpAny_bind (wpAny_runValue (codeAny_builtin entry_proto_collect' ?_))
  show wpAny _ _ (do again (.builtin "list.__iadd__" ⟨[← newList [], .ref l], []⟩)) _ _ s
  refine wpAny_bind (wpAny_newList (wpAny_pure ⟨Code.quiet_builtin _ (by decide +kernel), codeAny_builtin entry_list_iadd' ?_⟩))
  show wpAny _ _ (Builtin.List.listExtendWith (.ref s.heap.objs.size) (.ref l) (.ref s.heap.objs.size)) _ _ { s with heap := s.heap.push (seqObj "list" #[] 0) }
  unfold Builtin.List.listExtendWith
  have ho' : (s.heap.push (seqObj "list" #[] 0)).get? l = some o := Heap.get?_push_of_some _ ho
  refine wpAny_bind (wpAny_typeOf (T := "tuple") ⟨o, ho', hc⟩ ?_)
  have ht : (Value.type "tuple" == Value.type "tuple") = true := by rfl
  rw [if_pos (by rw [ht]; simp)]
  refine wpAny_bind (listItems_at ho' hd ?_)
  refine wpAny_bind (listItems_at (xs := #[]) (n := 0) (Heap.get?_push_size _ rfl) rfl ?_)
  rw [if_neg (by simp)]
  refine wpAny_bind (listUpdate_at (xs := #[]) (n := 0) (Heap.get?_push_size _ rfl) rfl ?_ (Nat.zero_le _) (by show (#[] ++ vs.toArray).size ≤ sizeLine + 1; simp only [Array.size_append, List.size_toArray, List.length_nil]; omega))
  refine wpAny_pure ?_
  show wpAny (model prog w) A (do
      let o ← load s.heap.objs.size
      match o.data with
      | .seq xs _ => pure xs.toList
      | _ => unsupported "internal:collect") Q E { s with heap := (s.heap.push (seqObj "list" #[] 0)).update s.heap.objs.size (Obj.mapSeq (· ++ vs.toArray)) }
  refine wpAny_bind (wpAny_load (get?_update_seq (Heap.get?_push_size _ rfl) _) ?_)
  show wpAny _ _ (pure ((#[] : Array Value) ++ vs.toArray).toList) Q E _
  rw [show ((#[] : Array Value) ++ vs.toArray).toList = vs by simp]
  exact wpAny_pure h
theorem sorted_ordT {l : Addr} {vs : List Value} {o : Obj} {n : Nat} {ltv : Value → Value → Bool} {Q : Value → Shared → Prop} (O : Swo ltv) (ho : s.heap.get? l = some o) (hc : o.cls = .type "tuple") (hd : o.data = .seq vs.toArray n) (hz : vs.length ≤ sizeLine)
    (hS : 2 ≤ vs.length → ∀ (h₁ : Heap) (a : Addr), h₁.get? a = some (seqObj "list" vs.toArray 0) → (∀ b o, s.heap.get? b = some o → b ≠ a ∧ h₁.get? b = some o) → SortableO prog w A.in1.in1 { s with heap := h₁ } a vs ltv)
    (h : ∀ out : List Value, Srtd ltv out → Stb ltv out vs → Q (.ref (s.heap.objs.size + 1)) { s with heap := sortedAll s.heap vs out.toArray }) :
    wpAny (model prog w) A (call (.builtin "sorted") [.ref l]) Q E s := by
  refine Calls.call_function_entry kind_sorted plain_sorted entry_sorted (args_sorted1 _) ?_
  unfold Builtin.«sorted»
  refine wpAny_bind (m := checkCount "sorted" 1 1 _) (wpAny_pure ?_)
  refine wpAny_bind (collect_tup ho hc hd ?_ hz)
  refine wpAny_bind (wpAny_newList ?_ hz)
  have hsz : ((s.heap.push (seqObj "list" #[] 0)).update s.heap.objs.size (Obj.mapSeq (· ++ vs.toArray))).objs.size = s.heap.objs.size + 1 := by
    rw [Heap.size_update, size_push']
  have hoL : (((s.heap.push (seqObj "list" #[] 0)).update s.heap.objs.size (Obj.mapSeq (· ++ vs.toArray))).push (seqObj "list" vs.toArray 0)).get? (s.heap.objs.size + 1) = some (seqObj "list" vs.toArray 0) := by
    rw [← hsz]; exact Heap.get?_push_size _ rfl
  have keep : ∀ b o, s.heap.get? b = some o → b ≠ s.heap.objs.size + 1 ∧ (((s.heap.push (seqObj "list" #[] 0)).update s.heap.objs.size (Obj.mapSeq (· ++ vs.toArray))).push (seqObj "list" vs.toArray 0)).get? b = some o := fun b o q => by
    have hlt : b < s.heap.objs.size := Heap.lt_size q
    refine ⟨Nat.ne_of_lt (Nat.lt_succ_of_lt hlt), Heap.get?_push_of_some _ ?_⟩
    rw [Heap.get?_update_ne _ _ _ _ (Nat.ne_of_lt hlt)]
    exact Heap.get?_push_of_some _ q
  show wpAny _ _ _ _ _ { s with heap := ((s.heap.push (seqObj "list" #[] 0)).update s.heap.objs.size (Obj.mapSeq (· ++ vs.toArray))).push (seqObj "list" vs.toArray 0) }
  rw [hsz]
  refine wpAny_bind (wpAny_holding (wpAny_call_entry slot_list_sort ⟨_, hoL, rfl⟩ entry_list_sort (list_sort_ord O hoL hz (fun h2 => hS h2 _ _ hoL keep) fun out hs hb => ⟨_, rfl, ?_⟩) (args_list_sort _)))
  exact wpAny_pure ⟨_, rfl, h out hs hb⟩
end
end SrtO
namespace L2
open PySem PySem.Spec PyProof.Rows
/-- sorted(xs), ints, of a list or a tuple -/
def rSortedA (K : PySem.W.Frag) : List V → Hp → VK → Prop := fun vs H Q => ∃ (a : Addr) (ns : List Int), vs = [V.ref a] ∧ (SqL K H a (ns.map V.int) ∨ SqT K H a (ns.map V.int)) ∧
  ∀ (ns' : List Int) (p : Addr), ns'.Perm ns → ns'.Pairwise (· ≤ ·) → H p = none → Q (.ref p) (upd H p (.lst (ns'.map V.int)))
section
variable {X : Cx}
theorem cr_sortedA : CallR X (.builtin "sorted") (rSortedA X.K) := by
  intro pins s σ H vs us Q I r h
  obtain ⟨a, ns, rfl, hs | hs, q⟩ := h
  · exact cr_sortedI pins s σ H _ us Q I r ⟨a, ns, rfl, hs, q⟩
  · obtain ⟨its, rv, ⟨o, ho, hc, n, hd⟩, hz⟩ := I.tuple hs
    rw [Vals.ref1 r]
    have hi := rv.ints
    refine SrtO.sorted_ordT SrtO.swo_int ho hc hd (by rw [← rv.length]; exact hz) (fun h2 h₁ a' _ _ => SrtO.ints_sortable hi h2) fun out h1 h2 => ?_
    obtain ⟨k1, k2, k3⟩ := SrtO.ints_out hi h1 h2
    obtain ⟨ep, he'⟩ := PyProof.Rows.sortedAll_at s.heap its out.toArray
    have hlen : ((out.map SrtO.iv).map V.int).length ≤ sizeLine := by
      rw [List.length_map, k2.length_eq]
      rw [List.length_map] at hz
      exact hz
    exact ⟨.ref _, upd H (s.heap.objs.size + 1) (.lst ((out.map SrtO.iv).map V.int)), I.laid (t' := s.toks) (fun _ _ => PyProof.Rows.sortedAll_old) (Nat.le_succ _) ⟨hlen, out, ep, vals_of_ints k1, he'⟩, rfl, q _ _ k2 k3 (I.hok.fresh (Nat.le_succ _))⟩
end
end L2
namespace DL
open PySem PySem.Spec PyProof.Rows L2
def sortD : RCD := fun xs M Q => match xs with
  | [x] => ∃ ns : List Int, itemsD M x = some (ns.map D.int) ∧ ∀ ns' : List Int, ns'.Perm ns → ns'.Pairwise (· ≤ ·) → Q (.lst (ns'.map D.int)) M
  | _ => False
/-- a list that goes on changing -/
def sortMD : RCD := fun xs M Q => match xs with
  | [x] => ∃ ns : List Int, itemsD M x = some (ns.map D.int) ∧ ∀ (ns' : List Int) (p : Addr), ns'.Perm ns → ns'.Pairwise (· ≤ ·) → M p = none → Q (.ref p) (mput M p (.lst (ns'.map D.int)))
  | _ => False
section
variable {K : PySem.W.Frag} {X : Cx}
theorem kc_sorted (hK : X.K = K) : CallR X (.builtin "sorted") (rSortedA K) := by subst hK; exact cr_sortedA
theorem ks_sorted : SimC K (rSortedA K) sortD := by
  intro F H M vs xs Q R k r h c
  match xs, r, h with
  | [], _, h => exact h.elim
  | [x], r, h =>
    obtain ⟨v, rfl, q1⟩ := repL1 r
    obtain ⟨ns, e, h⟩ := h
    obtain ⟨a, ws, rfl, hs, rw'⟩ := k.items q1 e
    cases rw'.ints
    exact ⟨a, ns, rfl, hs, fun ns' p h1 h2 hp => new_lst k (RepL.ofInts ns') (h ns' h1 h2) c p hp⟩
  | _ :: _ :: _, _, h => exact h.elim
theorem ks_sortedM : SimC K (rSortedA K) sortMD := by
  intro F H M vs xs Q R k r h c
  match xs, r, h with
  | [], _, h => exact h.elim
  | [x], r, h =>
    obtain ⟨v, rfl, q1⟩ := repL1 r
    obtain ⟨ns, e, h⟩ := h
    obtain ⟨a, ws, rfl, hs, rw'⟩ := k.items q1 e
    cases rw'.ints
    refine ⟨a, ns, rfl, hs, fun ns' p h1 h2 hp => ?_⟩
    obtain ⟨hf, hm⟩ := k.free hp
    exact c _ _ _ _ _ (k.goM hp _ (.lst (ns'.map D.int))) (k.newM hp (m := .lst (ns'.map D.int)) ⟨_, upd_same, (RepL.ofInts ns').mono (Ex.refl _)⟩) (.ref p) (h ns' p h1 h2 hm)
  | _ :: _ :: _, _, h => exact h.elim
end
end DL

set_option Elab.async false
set_option linter.all false
set_option maxRecDepth 100000
set_option maxHeartbeats 4000000
/-! FL: plain functions over data. What a piece of code gives is told by a function (FE → Option ..): lists and dicts of a def's own are values. -/
namespace DL
open PySem PySem.Spec PyProof.Rows L2

/-- M' still knows all that M knows -/
def Kp (M M' : Mem) : Prop := ∀ a o, M a = some o → M' a = some o
theorem Kp.refl {M : Mem} : Kp M M := fun _ _ h => h
theorem Kp.trans {M M1 M2 : Mem} (a : Kp M M1) (b : Kp M1 M2) : Kp M M2 := fun x o h => b x o (a x o h)
theorem Kp.put {M M' : Mem} (k : Kp M M') {p : Addr} {o : MO} (h : M p = none) : Kp M (mput M' p o) := fun a u e => by
  rw [mput_ne (fun z => by rw [z, h] at e; cases e)]
  exact k a u e
theorem Kp.none {M M' : Mem} (k : Kp M M') {p : Addr} (h : M' p = none) : M p = none := by
  cases e : M p with
  | none => rfl
  | some o => rw [k p o e] at h; cases h
theorem Kp.src {M M' : Mem} {x : D} (k : Kp M M') (h : IsSrc M x) : IsSrc M' x := by
  obtain ⟨h, c, e, e1, e2⟩ := h
  exact ⟨h, c, e, k _ _ e1, k _ _ e2⟩

/-- an object of a def's own -/
inductive OV where
  | l (ds : List D) | k (kvs : List (Key × D)) | t (kvs : List (List Key × D))
def OV.mo : OV → MO
  | .l ds => .lst ds
  | .k kvs => .dic kvs
  | .t kvs => .dicT kvs
/-- what a name stands for: data | a list that may only be read | an object of its own -/
inductive FV where
  | v (d : D) | w (d : D) | o (x : OV)
abbrev FE := List (Option FV)
def VW (M : Mem) (y d : D) : Prop := y = d ∨ ∃ p ds, y = .ref p ∧ M p = some (.lst ds) ∧ d = .lst ds
inductive VWs (M : Mem) : List D → List D → Prop
  | nil : VWs M [] []
  | cons {y d : D} {ys ds : List D} : VW M y d → VWs M ys ds → VWs M (y :: ys) (d :: ds)
def SR (M0 M : Mem) : FV → D → Prop
  | .v d, y => y = d
  | .w d, y => VW M0 y d
  | .o x, y => ∃ p, y = .ref p ∧ M0 p = none ∧ M p = some x.mo
structure Rel (M0 : Mem) (Γ : FE) (Γw : DE) (M : Mem) : Prop where
  kp : Kp M0 M
  len : Γ.length = Γw.length
  get : ∀ (i : Nat) (x : FV), Γ[i]? = some (some x) → ∃ y, Γw[i]? = some (some y) ∧ SR M0 M x y
  inj : ∀ (i j : Nat) (x x' : OV) (p : Addr), i ≠ j → Γ[i]? = some (some (.o x)) → Γ[j]? = some (some (.o x')) → Γw[i]? = some (some (.ref p)) → Γw[j]? ≠ some (some (.ref p))
theorem VW.mono {M M' : Mem} {y d : D} (k : Kp M M') (h : VW M y d) : VW M' y d := by
  rcases h with h | ⟨p, ds, h1, h2, h3⟩
  · exact .inl h
  · exact .inr ⟨p, ds, h1, k _ _ h2, h3⟩
theorem VWs.mono {M M' : Mem} (k : Kp M M') : ∀ {ys ds : List D}, VWs M ys ds → VWs M' ys ds
  | _, _, .nil => .nil
  | _, _, .cons a b => .cons (a.mono k) (VWs.mono k b)
theorem VWs.refl {M : Mem} : ∀ {ds : List D}, VWs M ds ds
  | [] => .nil
  | _ :: _ => .cons (.inl rfl) VWs.refl
theorem VWs.append {M : Mem} : ∀ {ys ds ys' ds' : List D}, VWs M ys ds → VWs M ys' ds' → VWs M (ys ++ ys') (ds ++ ds')
  | _, _, _, _, .nil, h => h
  | _, _, _, _, .cons a b, h => .cons a (VWs.append b h)
theorem VWs.length {M : Mem} : ∀ {ys ds : List D}, VWs M ys ds → ys.length = ds.length
  | _, _, .nil => rfl
  | _, _, .cons _ b => by rw [List.length_cons, List.length_cons, VWs.length b]
theorem VWs.get {M : Mem} : ∀ {ys ds : List D} {i : Nat} {d : D}, VWs M ys ds → ds[i]? = some d → ∃ y, ys[i]? = some y ∧ VW M y d
  | _, _, _, _, .nil, e => by simp at e
  | _, _, 0, _, .cons a _, e => by simp at e; subst e; exact ⟨_, rfl, a⟩
  | _, _, i + 1, _, .cons _ b, e => by
    obtain ⟨y, h1, h2⟩ := VWs.get (i := i) b (by simpa using e)
    exact ⟨y, by simpa using h1, h2⟩
theorem VWs.get' {M : Mem} : ∀ {ys ds : List D} {i : Nat}, VWs M ys ds → ds[i]? = none → ys[i]? = none
  | _, _, _, .nil, _ => by simp
  | _, _, 0, .cons a _, e => by simp at e
  | _, _, i + 1, .cons _ b, e => by
    have := VWs.get' (i := i) b (by simpa using e)
    simpa using this
theorem VWs.pick {M : Mem} {ys ds : List D} (r : VWs M ys ds) : ∀ ix : List Nat, VWs M (DL.pick ix ys) (DL.pick ix ds)
  | [] => .nil
  | i :: ix => by
    unfold DL.pick
    rw [List.filterMap_cons, List.filterMap_cons]
    cases e : ds[i]? with
    | none => rw [r.get' e]; exact VWs.pick r ix
    | some d =>
      obtain ⟨v, e2, rv⟩ := r.get e
      rw [e2]
      exact .cons rv (VWs.pick r ix)
def notRef : D → Bool
  | .ref _ => false
  | _ => true
theorem VW.view {M : Mem} {y d : D} (h : VW M y d) (n : notRef d = true) : view M y = d := by
  rcases h with rfl | ⟨p, ds, rfl, h2, rfl⟩
  · cases y <;> first | rfl | (exact absurd n Bool.false_ne_true)
  · exact view_of h2
theorem VW.int {M : Mem} {y : D} {i : Int} (h : VW M y (.int i)) : y = .int i := by
  rcases h with rfl | ⟨p, ds, rfl, h2, e⟩
  · rfl
  · cases e
theorem VW.eq {M : Mem} {y d : D} (h : VW M y d) (n : ∀ ds, d ≠ .lst ds) : y = d := by
  rcases h with rfl | ⟨p, ds, rfl, h2, e⟩
  · rfl
  · exact absurd e (n ds)
section
variable {M0 M M' : Mem} {Γ : FE} {Γw : DE}
theorem Rel.keep (r : Rel M0 Γ Γw M) (k : Kp M M') : Rel M0 Γ Γw M' := ⟨r.kp.trans k, r.len, fun i x h => by
  obtain ⟨y, h1, h2⟩ := r.get i x h
  refine ⟨y, h1, ?_⟩
  cases x with
  | v d => exact h2
  | w d => exact h2
  | o x => obtain ⟨p, e1, e2, e3⟩ := h2; exact ⟨p, e1, e2, k _ _ e3⟩, r.inj⟩
theorem getE_set {α : Type} {l : List (Option α)} {i j : Nat} {x y : α} (h : (l.set i (some x))[j]? = some (some y)) : (j = i ∧ y = x ∧ i < l.length) ∨ (j ≠ i ∧ l[j]? = some (some y)) := by
  by_cases ij : i = j
  · subst ij
    by_cases hl : i < l.length
    · rw [List.getElem?_set_self hl] at h; cases h; exact .inl ⟨rfl, rfl, hl⟩
    · rw [List.getElem?_eq_none (by rw [List.length_set]; omega)] at h; cases h
  · rw [List.getElem?_set_ne ij] at h; exact .inr ⟨fun e => ij e.symm, h⟩
theorem Rel.setV (r : Rel M0 Γ Γw M) (i : Nat) (d : D) : Rel M0 (Γ.set i (some (.v d))) (Γw.set i (some d)) M := by
  refine ⟨r.kp, by rw [List.length_set, List.length_set, r.len], fun j x h => ?_, fun a b x x' p ne h1 h2 h3 => ?_⟩
  · rcases getE_set h with ⟨rfl, rfl, hl⟩ | ⟨ne, h⟩
    · exact ⟨d, List.getElem?_set_self (by rw [← r.len]; exact hl), rfl⟩
    · obtain ⟨y, q1, q2⟩ := r.get j x h
      exact ⟨y, by rw [List.getElem?_set_ne (fun e => ne e.symm)]; exact q1, q2⟩
  · rcases getE_set h1 with ⟨_, q, _⟩ | ⟨na, h1⟩
    · cases q
    rcases getE_set h2 with ⟨_, q, _⟩ | ⟨nb, h2⟩
    · cases q
    rw [List.getElem?_set_ne (fun e => na e.symm)] at h3
    rw [List.getElem?_set_ne (fun e => nb e.symm)]
    exact r.inj a b x x' p ne h1 h2 h3
theorem Rel.setO (r : Rel M0 Γ Γw M) (i : Nat) {p : Addr} {x : OV} (k : Kp M M') (h0 : M p = none) (h1 : M' p = some x.mo) : Rel M0 (Γ.set i (some (.o x))) (Γw.set i (some (.ref p))) M' := by
  have fresh : ∀ (j : Nat) (z : OV), Γ[j]? = some (some (FV.o z)) → Γw[j]? ≠ some (some (D.ref p)) := fun j z h e => by
    obtain ⟨y, q1, q, e1, e2, e3⟩ := r.get j _ h
    rw [q1] at e; cases e; cases e1
    rw [h0] at e3; cases e3
  have r' := r.keep k
  refine ⟨r'.kp, by rw [List.length_set, List.length_set, r.len], fun j z h => ?_, fun a b z z' q ne h1' h2' h3 => ?_⟩
  · rcases getE_set h with ⟨rfl, rfl, hl⟩ | ⟨ne, h⟩
    · exact ⟨_, List.getElem?_set_self (by rw [← r.len]; exact hl), p, rfl, r.kp.none h0, h1⟩
    · obtain ⟨y, q1, q2⟩ := r'.get j z h
      exact ⟨y, by rw [List.getElem?_set_ne (fun e => ne e.symm)]; exact q1, q2⟩
  · rcases getE_set h1' with ⟨rfl, _, hl⟩ | ⟨na, g1'⟩
    · rw [List.getElem?_set_self (by rw [← r.len]; exact hl)] at h3
      cases h3
      rcases getE_set h2' with ⟨e, _, _⟩ | ⟨nb, h2'⟩
      · exact absurd e.symm ne
      rw [List.getElem?_set_ne (fun e => nb e.symm)]
      exact fresh b z' h2'
    · rw [List.getElem?_set_ne (fun e => na e.symm)] at h3
      rcases getE_set h2' with ⟨rfl, _, hl⟩ | ⟨nb, g2'⟩
      · rw [List.getElem?_set_self (by rw [← r.len]; exact hl)]
        intro e
        cases e
        exact fresh a z g1' h3
      · rw [List.getElem?_set_ne (fun e => nb e.symm)]
        exact r.inj a b z z' q ne g1' g2' h3
/-- an object of its own is changed -/
theorem Rel.write (r : Rel M0 Γ Γw M) {i : Nat} {p : Addr} {x x' : OV} (h : Γ[i]? = some (some (FV.o x))) (hp : Γw[i]? = some (some (D.ref p))) (k : Kp M M') : Rel M0 (Γ.set i (some (.o x'))) Γw (mput M' p x'.mo) := by
  have r' := r.keep k
  obtain ⟨y, q1, q, e1, e2, e3⟩ := r.get i _ h
  rw [hp] at q1; cases q1; cases e1
  refine ⟨fun a o e => ?_, by rw [List.length_set, r.len], fun j z h' => ?_, fun a b z z' q ne h1 h2 h3 => ?_⟩
  · rw [mput_ne (fun z => by rw [z, e2] at e; cases e)]
    exact r'.kp a o e
  · rcases getE_set h' with ⟨rfl, rfl, hl⟩ | ⟨ne, h'⟩
    · exact ⟨_, hp, p, rfl, e2, mput_same⟩
    · obtain ⟨y, q1, q2⟩ := r'.get j z h'
      refine ⟨y, q1, ?_⟩
      cases z with
      | v d => exact q2
      | w d => exact q2
      | o z =>
        obtain ⟨q, e1, e4, e5⟩ := q2
        refine ⟨q, e1, e4, ?_⟩
        rw [mput_ne (fun e => r.inj i j x z p (fun e => ne e.symm) h h' hp (by rw [q1, e1, e]))]
        exact e5
  · have back : ∀ {a z}, (Γ.set i (some (.o x')))[a]? = some (some (FV.o z)) → ∃ z', Γ[a]? = some (some (FV.o z')) := fun {a z} h => by
      rcases getE_set h with ⟨rfl, _, _⟩ | ⟨_, h⟩
      · exact ⟨x, ‹_›⟩
      · exact ⟨z, h⟩
    obtain ⟨_, h1⟩ := back h1
    obtain ⟨_, h2⟩ := back h2
    exact r.inj a b _ _ q ne h1 h2 h3
end

/-! ### what is promised of readings -/
abbrev FD := FE → Option D
class PuX (d : TD) (f : FD) : Prop where
  run : ∀ {M0 Γ Γw M x} {Q : QD}, Rel M0 Γ Γw M → f Γ = some x → (∀ M', Kp M M' → Q x M') → d Γw M Q
class PuV (d : TD) (f : FD) : Prop where
  run : ∀ {M0 Γ Γw M x} {Q : QD}, Rel M0 Γ Γw M → f Γ = some x → (∀ y M', Kp M M' → VW M' y x → Q y M') → d Γw M Q
class PuO (d : TD) (f : FE → Option OV) : Prop where
  run : ∀ {M0 Γ Γw M x} {Q : QD}, Rel M0 Γ Γw M → f Γ = some x → (∀ p M', Kp M M' → M p = none → M' p = some x.mo → Q (.ref p) M') → d Γw M Q
class PuT (d : TDT) (f : FE → Option Bool) : Prop where
  run : ∀ {M0 Γ Γw M x} {Q : Bool → Mem → Prop}, Rel M0 Γ Γw M → f Γ = some x → (∀ M', Kp M M' → Q x M') → d Γw M Q
class PuA (d : TDA) (f : FE → Option (List D)) : Prop where
  run : ∀ {M0 Γ Γw M x} {Q : List D → Mem → Prop}, Rel M0 Γ Γw M → f Γ = some x → (∀ y M', Kp M M' → VWs M' y x → Q y M') → d Γw M Q
class PuAX (d : TDA) (f : FE → Option (List D)) : Prop where
  run : ∀ {M0 Γ Γw M x} {Q : List D → Mem → Prop}, Rel M0 Γ Γw M → f Γ = some x → (∀ M', Kp M M' → Q x M') → d Γw M Q
class PuP (d : TDO) (f : FE → Option (Option Int)) : Prop where
  run : ∀ {M0 Γ Γw M x} {Q : Option Int → Mem → Prop}, Rel M0 Γ Γw M → f Γ = some x → (∀ M', Kp M M' → Q x M') → d Γw M Q
/-- what is walked by a comprehension | by a loop -/
class PuC (d : TDI) (f : FE → Option (List D)) : Prop where
  run : ∀ {M0 Γ Γw M x} {P : List D → (Mem → Prop) → Mem → Prop}, Rel M0 Γ Γw M → f Γ = some x → (∀ (grd : Mem → Prop) M', Kp M M' → (∀ M2, Kp M' M2 → grd M2) → P x grd M') → d Γw M P
class PuI (d : TDI) (f : FE → Option (List D)) : Prop where
  run : ∀ {M0 Γ Γw M x} {P : List D → (Mem → Prop) → Mem → Prop}, Rel M0 Γ Γw M → f Γ = some x → (∀ (grd : Mem → Prop) M', Kp M M' → (∀ M2, Kp M0 M2 → grd M2) → P x grd M') → d Γw M P
/-- a target that takes plain data -/
class PuG (g : TDG) (f : D → FE → Option FE) : Prop where
  run : ∀ {M0 Γ Γw M x Γ'} {Q : DE → Mem → Prop}, Rel M0 Γ Γw M → f x Γ = some Γ' → (∀ Γw' M', Kp M M' → Rel M0 Γ' Γw' M' → Q Γw' M') → g x Γw M Q
class PuGs (g : TDGs) (f : List D → FE → Option FE) : Prop where
  run : ∀ {M0 Γ Γw M x Γ'} {Q : DE → Mem → Prop}, Rel M0 Γ Γw M → f x Γ = some Γ' → (∀ Γw' M', Kp M M' → Rel M0 Γ' Γw' M' → Q Γw' M') → g x Γw M Q
/-- how a statement ends -/
inductive FOut where
  | nx (Γ : FE) | rt (x : FV) | bk (Γ : FE) | ct (Γ : FE)
abbrev FS := FE → Option FOut
/-- what is given back: data, or a new object -/
def RR (M0 M : Mem) (x : FV) (y : D) : Prop := match x with
  | .v d => y = d
  | .w _ => False
  | .o x => ∃ p, y = .ref p ∧ M0 p = none ∧ M p = some x.mo
def Fin (M0 : Mem) (E : DEnds) : FOut → Prop
  | .nx Γ => ∀ Γw M, Rel M0 Γ Γw M → E.nx Γw M
  | .bk Γ => ∀ Γw M, Rel M0 Γ Γw M → E.bk Γw M
  | .ct Γ => ∀ Γw M, Rel M0 Γ Γw M → E.ct Γw M
  | .rt x => ∀ y M, Kp M0 M → RR M0 M x y → E.rt y M
class PuS (d : TDS) (f : FS) : Prop where
  run : ∀ {M0 Γ Γw M o} {E : DEnds}, Rel M0 Γ Γw M → f Γ = some o → Fin M0 E o → d E Γw M
theorem bind_some {α β : Type} {x : Option α} {f : α → Option β} {b : β} (h : x.bind f = some b) : ∃ a, x = some a ∧ f a = some b := by
  cases x with
  | none => cases h
  | some a => exact ⟨a, rfl, h⟩

/-! ### names, constants -/
def lookF (Γ : FE) (i : Nat) : Option FV := (Γ[i]?).bind id
def rdX : FV → Option D
  | .v d => some d
  | _ => none
def rdV : FV → Option D
  | .v d => some d
  | .w d => some d
  | .o (.l ds) => some (.lst ds)
  | _ => none
def rdW : FV → Option D
  | .v d => some d
  | .w d => some d
  | _ => none
def fVarX (i : Nat) : FD := fun Γ => (lookF Γ i).bind rdX
def fVarV (i : Nat) : FD := fun Γ => (lookF Γ i).bind rdV
def fVarW (i : Nat) : FD := fun Γ => (lookF Γ i).bind rdW
def fC (d : D) : FD := fun _ => some d
theorem lookF_of {Γ : FE} {i : Nat} {x : FV} (h : lookF Γ i = some x) : Γ[i]? = some (some x) := by
  unfold lookF at h
  cases e : Γ[i]? with
  | none => rw [e] at h; cases h
  | some o => rw [e] at h; cases o <;> cases h; rfl
theorem look_at {Γ : DE} {i : Nat} {d : D} {k : D → Prop} (h : Γ[i]? = some (some d)) (q : k d) : look Γ i k := by
  induction Γ generalizing i with
  | nil => simp at h
  | cons o Γ ih =>
    cases i with
    | zero => simp at h; subst h; exact q
    | succ n => cases o <;> exact ih (by simpa using h)
instance puX_var {i : Nat} : PuX (dVar i) (fVarX i) := ⟨fun {M0 Γ Γw M x Q} r h q => by
  obtain ⟨z, e, h⟩ := bind_some h
  obtain ⟨y, e1, s⟩ := r.get i z (lookF_of e)
  cases z with
  | v d => cases h; cases s; exact look_at e1 (q M Kp.refl)
  | _ => cases h⟩
theorem puV_sr {M0 M : Mem} {z : FV} {x y : D} (k : Kp M0 M) (s : SR M0 M z y) (h : rdV z = some x) : VW M y x := by
  cases z with
  | v d => cases h; exact .inl s
  | w d => cases h; exact s.mono k
  | o z =>
    obtain ⟨p, e1, e2, e3⟩ := s
    cases z with
    | l ds => cases h; exact .inr ⟨p, ds, e1, e3, rfl⟩
    | _ => cases h
instance puV_var {i : Nat} : PuV (dVar i) (fVarV i) := ⟨fun {M0 Γ Γw M x Q} r h q => by
  obtain ⟨z, e, h⟩ := bind_some h
  obtain ⟨y, e1, s⟩ := r.get i z (lookF_of e)
  exact look_at e1 (q _ M Kp.refl (puV_sr r.kp s h))⟩
instance puX_c {d : D} : PuX (dC d) (fC d) := ⟨fun r h q => by cases h; exact q _ Kp.refl⟩
instance (priority := low) puV_x {d : TD} {f : FD} [h : PuX d f] : PuV d f := ⟨fun r e q => h.run r e fun M' k => q _ M' k (.inl rfl)⟩
def asL : OV → Option D
  | .l ds => some (.lst ds)
  | _ => none
def fOV (f : FE → Option OV) : FD := fun Γ => (f Γ).bind asL
instance puV_o {d : TD} {f : FE → Option OV} [h : PuO d f] : PuV d (fOV f) := ⟨fun r e q => by
  obtain ⟨x, e1, e2⟩ := bind_some e
  refine h.run r e1 fun p M' k h0 h1 => q _ M' k ?_
  cases x with
  | l ds => cases e2; exact .inr ⟨p, ds, rfl, h1, rfl⟩
  | _ => cases e2⟩

/-! ### operators -/
class Op2 (r : R2D) (f : D → D → Option D) : Prop where
  run : ∀ {M x y x' y' z} {Q : QD}, VW M x' x → VW M y' y → f x y = some z → Q z M → r x' y' M Q
class Op1 (r : R1D) (f : D → Option D) : Prop where
  run : ∀ {M x x' z} {Q : QD}, VW M x' x → f x = some z → Q z M → r x' M Q
class OpC (r : RCD) (f : List D → Option D) : Prop where
  run : ∀ {M xs xs' z} {Q : QD}, VWs M xs' xs → f xs = some z → Q z M → r xs' M Q
def fOp (r : D → D → Option D) (a b : FD) : FD := fun Γ => (a Γ).bind fun x => (b Γ).bind fun y => r x y
def fUn (r : D → Option D) (a : FD) : FD := fun Γ => (a Γ).bind r
def fCB (r : List D → Option D) (a : FE → Option (List D)) : FD := fun Γ => (a Γ).bind r
def fNil : FE → Option (List D) := fun _ => some []
def fCons (a : FD) (r : FE → Option (List D)) : FE → Option (List D) := fun Γ => (a Γ).bind fun x => (r Γ).bind fun xs => some (x :: xs)
instance puX_op {r : R2D} {f : D → D → Option D} {da db : TD} {fa fb : FD} [hr : Op2 r f] [ha : PuV da fa] [hb : PuV db fb] : PuX (dOp r da db) (fOp f fa fb) := ⟨fun R e q => by
  obtain ⟨x, e1, e⟩ := bind_some e
  obtain ⟨y, e2, e⟩ := bind_some e
  exact ha.run R e1 fun x' M1 k1 v1 => hb.run (R.keep k1) e2 fun y' M2 k2 v2 => hr.run (v1.mono k2) v2 e (q _ (k1.trans k2))⟩
instance puX_un {r : R1D} {f : D → Option D} {da : TD} {fa : FD} [hr : Op1 r f] [ha : PuV da fa] : PuX (dUn r da) (fUn f fa) := ⟨fun R e q => by
  obtain ⟨x, e1, e⟩ := bind_some e
  exact ha.run R e1 fun x' M1 k1 v1 => hr.run v1 e (q _ k1)⟩
instance puA_nil : PuA dNil fNil := ⟨fun R e q => by cases e; exact q [] _ Kp.refl .nil⟩
instance puAX_nil : PuAX dNil fNil := ⟨fun R e q => by cases e; exact q _ Kp.refl⟩
instance puA_cons {da : TD} {dr : TDA} {fa : FD} {fr : FE → Option (List D)} [ha : PuV da fa] [hr : PuA dr fr] : PuA (dCons da dr) (fCons fa fr) := ⟨fun R e q => by
  obtain ⟨x, e1, e⟩ := bind_some e
  obtain ⟨xs, e2, e⟩ := bind_some e
  cases e
  exact ha.run R e1 fun x' M1 k1 v1 => hr.run (R.keep k1) e2 fun y' M2 k2 v2 => q _ M2 (k1.trans k2) (.cons (v1.mono k2) v2)⟩
instance puAX_cons {da : TD} {dr : TDA} {fa : FD} {fr : FE → Option (List D)} [ha : PuX da fa] [hr : PuAX dr fr] : PuAX (dCons da dr) (fCons fa fr) := ⟨fun R e q => by
  obtain ⟨x, e1, e⟩ := bind_some e
  obtain ⟨xs, e2, e⟩ := bind_some e
  cases e
  exact ha.run R e1 fun M1 k1 => hr.run (R.keep k1) e2 fun M2 k2 => q M2 (k1.trans k2)⟩
instance puX_cb {r : RCD} {f : List D → Option D} {da : TDA} {fa : FE → Option (List D)} [hr : OpC r f] [ha : PuA da fa] : PuX (dCB r da) (fCB f fa) := ⟨fun R e q => by
  obtain ⟨x, e1, e⟩ := bind_some e
  exact ha.run R e1 fun x' M1 k1 v1 => hr.run v1 e (q _ k1)⟩
noncomputable section
open Classical in
def gOk (p : Prop) (d : D) : Option D := if p then some d else none
theorem gOk_of {p : Prop} {d z : D} (h : gOk p d = some z) : p ∧ d = z := by
  unfold gOk at h
  split at h
  · exact ⟨‹_›, Option.some.inj h⟩
  · cases h
theorem gOk_t {p : Prop} {d : D} (h : p) : gOk p d = some d := if_pos h
def fTup (a : FE → Option (List D)) : FD := fun Γ => (a Γ).bind fun xs => gOk (xs.length ≤ sizeLine) (.tup xs)
def fLst (a : FE → Option (List D)) : FD := fun Γ => (a Γ).bind fun xs => gOk (xs.length ≤ sizeLine) (.lst xs)
open Classical in
def fLstM (a : FE → Option (List D)) : FE → Option OV := fun Γ => (a Γ).bind fun xs => if xs.length ≤ sizeLine then some (.l xs) else none
instance puX_tup {da : TDA} {fa : FE → Option (List D)} [ha : PuAX da fa] : PuX (dTup da) (fTup fa) := ⟨fun R e q => by
  obtain ⟨x, e1, e⟩ := bind_some e
  obtain ⟨h, rfl⟩ := gOk_of e
  exact ha.run R e1 fun M1 k1 => ⟨h, q _ k1⟩⟩
instance puX_lst {da : TDA} {fa : FE → Option (List D)} [ha : PuAX da fa] : PuX (dLst da) (fLst fa) := ⟨fun R e q => by
  obtain ⟨x, e1, e⟩ := bind_some e
  obtain ⟨h, rfl⟩ := gOk_of e
  exact ha.run R e1 fun M1 k1 => ⟨h, q _ k1⟩⟩
instance puO_lst {da : TDA} {fa : FE → Option (List D)} [ha : PuAX da fa] : PuO (dLstM da) (fLstM fa) := ⟨fun R e q => by
  obtain ⟨x, e1, e⟩ := bind_some e
  split at e
  · cases e
    exact ha.run R e1 fun M1 k1 => ⟨‹_›, fun p hp => q p _ (k1.trans (Kp.refl.put hp)) (k1.none hp) mput_same⟩
  · cases e⟩
end
end DL

set_option Elab.async false
set_option linter.all false
set_option maxRecDepth 100000
set_option maxHeartbeats 4000000
/-! FL: operators on data as functions. -/
namespace DL
open PySem PySem.Spec PyProof.Rows L2
noncomputable section
def fo_add : D → D → Option D
  | .int i, .int j => some (.int (i + j))
  | .lst xs, .lst ys => gOk (xs.length + ys.length ≤ sizeLine) (.lst (xs ++ ys))
  | .tup xs, .tup ys => gOk (xs.length + ys.length ≤ sizeLine) (.tup (xs ++ ys))
  | .str a, .str b => gOk (a.length + b.length ≤ sizeLine) (.str (a ++ b))
  | _, _ => none
def fo_sub : D → D → Option D
  | .int i, .int j => some (.int (i - j))
  | _, _ => none
def fo_mul : D → D → Option D
  | .int i, .int j => gOk ((-(2 ^ 64) < i ∧ i < 2 ^ 64) ∨ (-(2 ^ 64) < j ∧ j < 2 ^ 64)) (.int (i * j))
  | .lst xs, .int k => gOk (-(2 ^ 63) ≤ k ∧ k < 2 ^ 63 ∧ xs.length * k.toNat ≤ sizeLine) (.lst (List.replicate k.toNat xs).flatten)
  | _, _ => none
def fo_fdiv : D → D → Option D
  | .int i, .int j => gOk (0 < j ∧ j < 1073741824) (.int (i / j))
  | _, _ => none
def fo_mod : D → D → Option D
  | .int i, .int j => gOk (0 < j) (.int (i % j))
  | _, _ => none
def fo_pow : D → D → Option D
  | .int i, .int j => gOk (0 ≤ j ∧ j ≤ 1000000 ∧ i.natAbs < 2 ^ 64) (.int (i ^ j.toNat))
  | _, _ => none
def fo_neg : D → Option D
  | .int i => some (.int (-i))
  | _ => none
def fo_lt : D → D → Option D
  | .int i, .int j => some (.bl (decide (i < j)))
  | _, _ => none
def fo_le : D → D → Option D
  | .int i, .int j => some (.bl (decide (i ≤ j)))
  | _, _ => none
def fo_gt : D → D → Option D
  | .int i, .int j => some (.bl (decide (j < i)))
  | _, _ => none
def fo_ge : D → D → Option D
  | .int i, .int j => some (.bl (decide (j ≤ i)))
  | _, _ => none
def fo_iadd : D → D → Option D
  | .int i, .int j => some (.int (i + j))
  | _, _ => none
def eqOk (x y : D) : Prop := isPy x = true ∧ isPy y = true ∧ SeqAt.shaped (py x) = true ∧ SeqAt.shaped (py y) = true
def fo_eq (x y : D) : Option D := match sEq x y with
  | some b => some (.bl b)
  | none => gOk (eqOk x y) (.bl (PyData.eqv (py x) (py y)))
def fo_ne (x y : D) : Option D := match sEq x y with
  | some b => some (.bl (!b))
  | none => gOk (eqOk x y) (.bl (!PyData.eqv (py x) (py y)))
def fo_is (x y : D) : Option D := match y with
  | .non => some (.bl (isNonD x))
  | .bl b => (match x with | .bl a => some (.bl (decide (a = b))) | _ => none)
  | _ => none
def fo_not (x y : D) : Option D := match y with
  | .non => some (.bl (!isNonD x))
  | .bl b => (match x with | .bl a => some (.bl (!decide (a = b))) | _ => none)
  | _ => none
def itemsF : D → Option (List D)
  | .lst xs => some xs
  | .tup xs => some xs
  | .scr xs => some xs
  | _ => none
def fo_in (x y : D) : Option D := (itemsF y).bind fun ds => gOk (flatD x = true ∧ ds.all flatD = true) (.bl (ds.any fun z => eqF z x))
def fo_notIn (x y : D) : Option D := (itemsF y).bind fun ds => gOk (flatD x = true ∧ ds.all flatD = true) (.bl (!ds.any fun z => eqF z x))
def fo_ix (x y : D) : Option D := (itemsF x).bind fun xs => match y with
  | .int i => L2.atI xs i
  | _ => none
def fo_repT : D → D → Option D
  | .tup xs, .int k => gOk (xs ≠ [] ∧ 2 ≤ k ∧ k ≤ 1000 ∧ xs.length ≤ 1000) (.tup (List.replicate k.toNat xs).flatten)
  | _, _ => none
end
theorem items_vw {M : Mem} {y d : D} {xs : List D} (h : VW M y d) (e : itemsF d = some xs) : itemsD M y = some xs := by
  have n : notRef d = true := by cases d <;> first | rfl | cases e
  unfold itemsD
  rw [h.view n]
  cases d <;> first | exact e | cases e
theorem vw_flat {M : Mem} {y d : D} (h : VW M y d) (e : flatD d = true) : y = d := h.eq fun ds z => by rw [z] at e; cases e
instance : Op2 addD fo_add := ⟨fun {M x y x' y' z Q} h1 h2 e q => by
  unfold addD
  unfold fo_add at e
  split at e
  · cases h1.int; cases h2.int; cases e; exact q
  · rw [h1.view rfl, h2.view rfl]; obtain ⟨h, rfl⟩ := gOk_of e; exact ⟨h, q⟩
  · rw [h1.view rfl, h2.view rfl]; obtain ⟨h, rfl⟩ := gOk_of e; exact ⟨h, q⟩
  · rw [h1.view rfl, h2.view rfl]; obtain ⟨h, rfl⟩ := gOk_of e; exact ⟨h, q⟩
  · cases e⟩
instance : Op2 subD fo_sub := ⟨fun {M x y x' y' z Q} h1 h2 e q => by
  unfold fo_sub at e
  split at e
  · cases h1.int; cases h2.int; cases e; exact q
  · cases e⟩
instance : Op2 mulD fo_mul := ⟨fun {M x y x' y' z Q} h1 h2 e q => by
  unfold fo_mul at e
  split at e
  · cases h1.int; cases h2.int; obtain ⟨h, rfl⟩ := gOk_of e; exact ⟨h, q⟩
  · cases h2.int; unfold mulD; rw [h1.view rfl]; obtain ⟨h, rfl⟩ := gOk_of e; exact ⟨h.1, h.2.1, h.2.2, q⟩
  · cases e⟩
instance : Op2 fdivD fo_fdiv := ⟨fun {M x y x' y' z Q} h1 h2 e q => by
  unfold fo_fdiv at e
  split at e
  · cases h1.int; cases h2.int; obtain ⟨h, rfl⟩ := gOk_of e; exact ⟨h, q⟩
  · cases e⟩
instance : Op2 modD fo_mod := ⟨fun {M x y x' y' z Q} h1 h2 e q => by
  unfold fo_mod at e
  split at e
  · cases h1.int; cases h2.int; obtain ⟨h, rfl⟩ := gOk_of e; exact ⟨h, q⟩
  · cases e⟩
instance : Op2 powD fo_pow := ⟨fun {M x y x' y' z Q} h1 h2 e q => by
  unfold fo_pow at e
  split at e
  · cases h1.int; cases h2.int; obtain ⟨h, rfl⟩ := gOk_of e; exact ⟨h, q⟩
  · cases e⟩
instance : Op1 negD fo_neg := ⟨fun {M x x' z Q} h1 e q => by
  unfold fo_neg at e
  split at e
  · cases h1.int; cases e; exact q
  · cases e⟩
instance : Op2 ltD fo_lt := ⟨fun {M x y x' y' z Q} h1 h2 e q => by
  unfold fo_lt at e
  split at e
  · cases h1.int; cases h2.int; cases e; exact q
  · cases e⟩
instance : Op2 leD fo_le := ⟨fun {M x y x' y' z Q} h1 h2 e q => by
  unfold fo_le at e
  split at e
  · cases h1.int; cases h2.int; cases e; exact q
  · cases e⟩
instance : Op2 gtD fo_gt := ⟨fun {M x y x' y' z Q} h1 h2 e q => by
  unfold fo_gt at e
  split at e
  · cases h1.int; cases h2.int; cases e; exact q
  · cases e⟩
instance : Op2 geD fo_ge := ⟨fun {M x y x' y' z Q} h1 h2 e q => by
  unfold fo_ge at e
  split at e
  · cases h1.int; cases h2.int; cases e; exact q
  · cases e⟩
instance : Op2 iaddD fo_iadd := ⟨fun {M x y x' y' z Q} h1 h2 e q => by
  unfold fo_iadd at e
  split at e
  · cases h1.int; cases h2.int; cases e; exact q
  · cases e⟩
theorem sEq_flat {x y : D} {b : Bool} (h : sEq x y = some b) : flatD x = true ∧ flatD y = true := by
  cases x <;> cases y <;> first | exact ⟨rfl, rfl⟩ | cases h
theorem sEq_ref1 {p : Addr} {y : D} : sEq (.ref p) y = none := by cases y <;> rfl
theorem sEq_ref2 {p : Addr} {y : D} : sEq y (.ref p) = none := by cases y <;> rfl
theorem sEq_lst1 {xs : List D} {y : D} : sEq (.lst xs) y = none := by cases y <;> rfl
theorem sEq_vw {M : Mem} {x y x' y' : D} (h1 : VW M x' x) (h2 : VW M y' y) : sEq x' y' = sEq x y := by
  rcases h1 with rfl | ⟨p, ds, rfl, _, rfl⟩
  · rcases h2 with rfl | ⟨p, ds, rfl, _, rfl⟩
    · rfl
    · rw [sEq_ref2]; cases x' <;> rfl
  · rw [sEq_ref1, sEq_lst1]
theorem notRef_py {x : D} (h : isPy x = true) : notRef x = true := by cases x <;> first | rfl | (simp [isPy] at h)
instance : Op2 eqD fo_eq := ⟨fun {M x y x' y' z Q} h1 h2 e q => by
  unfold fo_eq at e
  unfold eqD
  rw [sEq_vw h1 h2]
  split at e
  · rename_i b e1; cases e; try rw [e1]
    exact q
  · rename_i e1
    obtain ⟨h, rfl⟩ := gOk_of e
    try rw [e1]
    rw [h1.view (notRef_py h.1), h2.view (notRef_py h.2.1)]
    exact ⟨h.1, h.2.1, h.2.2.1, h.2.2.2, q⟩⟩
instance : Op2 neD fo_ne := ⟨fun {M x y x' y' z Q} h1 h2 e q => by
  unfold fo_ne at e
  unfold neD
  rw [sEq_vw h1 h2]
  split at e
  · rename_i b e1; cases e; try rw [e1]
    exact q
  · rename_i e1
    obtain ⟨h, rfl⟩ := gOk_of e
    try rw [e1]
    rw [h1.view (notRef_py h.1), h2.view (notRef_py h.2.1)]
    exact ⟨h.1, h.2.1, h.2.2.1, h.2.2.2, q⟩⟩
theorem isNon_vw {M : Mem} {x x' : D} (h : VW M x' x) : isNonD x' = isNonD x := by
  rcases h with rfl | ⟨p, ds, rfl, _, rfl⟩ <;> rfl
instance : Op2 isD fo_is := ⟨fun {M x y x' y' z Q} h1 h2 e q => by
  unfold fo_is at e
  split at e
  · cases h2.eq (by intro ds e; cases e); cases e
    show Q (.bl (isNonD x')) M
    rw [isNon_vw h1]; exact q
  · cases h2.eq (by intro ds e; cases e)
    split at e
    · cases h1.eq (by intro ds e; cases e); cases e; exact q
    · cases e
  · cases e⟩
instance : Op2 notD fo_not := ⟨fun {M x y x' y' z Q} h1 h2 e q => by
  unfold fo_not at e
  split at e
  · cases h2.eq (by intro ds e; cases e); cases e
    show Q (.bl (!isNonD x')) M
    rw [isNon_vw h1]; exact q
  · cases h2.eq (by intro ds e; cases e)
    split at e
    · cases h1.eq (by intro ds e; cases e); cases e; exact q
    · cases e
  · cases e⟩
instance : Op2 inD fo_in := ⟨fun {M x y x' y' z Q} h1 h2 e q => by
  obtain ⟨ds, e1, e⟩ := bind_some e
  obtain ⟨h, rfl⟩ := gOk_of e
  cases vw_flat h1 h.1
  unfold inD inSeq
  rw [items_vw h2 e1]
  exact ⟨h.1, h.2, q⟩⟩
instance : Op2 notInD fo_notIn := ⟨fun {M x y x' y' z Q} h1 h2 e q => by
  obtain ⟨ds, e1, e⟩ := bind_some e
  obtain ⟨h, rfl⟩ := gOk_of e
  cases vw_flat h1 h.1
  unfold notInD inSeq
  rw [items_vw h2 e1]
  exact ⟨h.1, h.2, q⟩⟩
instance : Op2 ixD fo_ix := ⟨fun {M x y x' y' z Q} h1 h2 e q => by
  obtain ⟨xs, e1, e⟩ := bind_some e
  split at e
  · cases h2.int
    unfold ixD nth
    simp only [items_vw h1 e1, e]
    exact q
  · cases e⟩
instance : Op2 repTD fo_repT := ⟨fun {M x y x' y' z Q} h1 h2 e q => by
  unfold fo_repT at e
  split at e
  · cases h2.int
    unfold repTD
    rw [h1.view rfl]
    obtain ⟨h, rfl⟩ := gOk_of e
    exact ⟨h.1, h.2.1, h.2.2.1, h.2.2.2, q⟩
  · cases e⟩

/-! ### calls of what is built in -/
noncomputable section
def asInts : List D → Option (List Int)
  | [] => some []
  | .int i :: r => (asInts r).map (i :: ·)
  | _ :: _ => none
def asBls : List D → Option (List Bool)
  | [] => some []
  | .bl i :: r => (asBls r).map (i :: ·)
  | _ :: _ => none
def fo_len : List D → Option D
  | [.lst ds] => some (.int (ds.length : Nat))
  | [.tup ds] => some (.int (ds.length : Nat))
  | [.scr ds] => some (.int (ds.length : Nat))
  | [.str z] => gOk (z.length ≤ sizeLine) (.int (z.length : Nat))
  | _ => none
def fo_abs : List D → Option D
  | [.int i] => some (.int (if i < 0 then -i else i))
  | _ => none
def fo_max2 : List D → Option D
  | [.int i, .int j] => some (.int (max i j))
  | _ => none
def fo_min2 : List D → Option D
  | [.int i, .int j] => some (.int (min i j))
  | _ => none
def fo_max3 : List D → Option D
  | [.int i, .int j, .int k] => some (.int (max (max i j) k))
  | _ => none
def fo_min3 : List D → Option D
  | [.int i, .int j, .int k] => some (.int (min (min i j) k))
  | _ => none
def fo_int : List D → Option D
  | [.int i] => some (.int i)
  | [.bl k] => some (.int (if k then 1 else 0))
  | _ => none
def fo_minA : List D → Option D
  | [x] => (itemsF x).bind fun xs => (asInts xs).bind fun ns => ns.min?.map D.int
  | _ => none
def fo_maxA : List D → Option D
  | [x] => (itemsF x).bind fun xs => (asInts xs).bind fun ns => ns.max?.map D.int
  | _ => none
def fo_sumL : List D → Option D
  | [.lst xs] => (asInts xs).map fun ns => .int ns.sum
  | _ => none
def fo_allL : List D → Option D
  | [.lst xs] => (asBls xs).map fun ns => .bl (ns.all id)
  | _ => none
def fo_anyL : List D → Option D
  | [.lst xs] => (asBls xs).map fun ns => .bl (ns.any id)
  | _ => none
def fo_tuple : List D → Option D
  | [x] => (itemsF x).map .tup
  | _ => none
def fo_list : List D → Option D
  | [x] => (itemsF x).map .lst
  | _ => none
/-- ascending -/
def sortI (ns : List Int) : List Int := ns.mergeSort fun a b => decide (a ≤ b)
def fo_sort : List D → Option D
  | [x] => (itemsF x).bind fun xs => (asInts xs).map fun ns => .lst ((sortI ns).map D.int)
  | _ => none
def fo_isi : List D → Option D
  | [x, .ty n] => (tyNm x).bind fun a => gOk (kitB a n = some (isA a n)) (.bl (isA a n))
  | _ => none
end
theorem asInts_of : ∀ {xs : List D} {ns : List Int}, asInts xs = some ns → xs = ns.map D.int
  | [], _, h => by cases h; rfl
  | x :: xs, ns, h => by
    cases x with
    | int i =>
      cases e : asInts xs with
      | none => rw [asInts, e] at h; cases h
      | some r => rw [asInts, e] at h; cases h; rw [asInts_of e]; rfl
    | _ => cases h
theorem asBls_of : ∀ {xs : List D} {ns : List Bool}, asBls xs = some ns → xs = ns.map D.bl
  | [], _, h => by cases h; rfl
  | x :: xs, ns, h => by
    cases x with
    | bl i =>
      cases e : asBls xs with
      | none => rw [asBls, e] at h; cases h
      | some r => rw [asBls, e] at h; cases h; rw [asBls_of e]; rfl
    | _ => cases h
theorem vws1 {M : Mem} {ys : List D} {x : D} (h : VWs M ys [x]) : ∃ y, ys = [y] ∧ VW M y x := by
  cases h with
  | cons a b => cases b; exact ⟨_, rfl, a⟩
theorem vws2 {M : Mem} {ys : List D} {x x2 : D} (h : VWs M ys [x, x2]) : ∃ y y2, ys = [y, y2] ∧ VW M y x ∧ VW M y2 x2 := by
  cases h with
  | cons a b => obtain ⟨y, rfl, c⟩ := vws1 b; exact ⟨_, _, rfl, a, c⟩
theorem vws3 {M : Mem} {ys : List D} {x x2 x3 : D} (h : VWs M ys [x, x2, x3]) : ∃ y y2 y3, ys = [y, y2, y3] ∧ VW M y x ∧ VW M y2 x2 ∧ VW M y3 x3 := by
  cases h with
  | cons a b => obtain ⟨y, y2, rfl, c, d⟩ := vws2 b; exact ⟨_, _, _, rfl, a, c, d⟩
instance : OpC lenD fo_len := ⟨fun {M xs xs' z Q} h e q => by
  unfold fo_len at e
  split at e
  · obtain ⟨y, rfl, a⟩ := vws1 h; cases e; unfold lenD; simp only [a.view rfl]; exact q
  · obtain ⟨y, rfl, a⟩ := vws1 h; cases e; unfold lenD; simp only [a.view rfl]; exact q
  · obtain ⟨y, rfl, a⟩ := vws1 h; cases e; unfold lenD; simp only [a.view rfl]; exact q
  · obtain ⟨y, rfl, a⟩ := vws1 h; obtain ⟨h, rfl⟩ := gOk_of e; unfold lenD; simp only [a.view rfl]; exact ⟨h, q⟩
  · cases e⟩
instance : OpC absD fo_abs := ⟨fun {M xs xs' z Q} h e q => by
  unfold fo_abs at e
  split at e
  · obtain ⟨y, rfl, a⟩ := vws1 h; cases a.int; cases e; exact q
  · cases e⟩
instance : OpC max2D fo_max2 := ⟨fun {M xs xs' z Q} h e q => by
  unfold fo_max2 at e
  split at e
  · obtain ⟨y, y2, rfl, a, b⟩ := vws2 h; cases a.int; cases b.int; cases e; rw [max2D_int]; exact q
  · cases e⟩
instance : OpC min2D fo_min2 := ⟨fun {M xs xs' z Q} h e q => by
  unfold fo_min2 at e
  split at e
  · obtain ⟨y, y2, rfl, a, b⟩ := vws2 h; cases a.int; cases b.int; cases e; rw [min2D_int]; exact q
  · cases e⟩
instance : OpC max3D fo_max3 := ⟨fun {M xs xs' z Q} h e q => by
  unfold fo_max3 at e
  split at e
  · obtain ⟨y, y2, y3, rfl, a, b, c⟩ := vws3 h; cases a.int; cases b.int; cases c.int; cases e; exact q
  · cases e⟩
instance : OpC min3D fo_min3 := ⟨fun {M xs xs' z Q} h e q => by
  unfold fo_min3 at e
  split at e
  · obtain ⟨y, y2, y3, rfl, a, b, c⟩ := vws3 h; cases a.int; cases b.int; cases c.int; cases e; exact q
  · cases e⟩
instance : OpC intD fo_int := ⟨fun {M xs xs' z Q} h e q => by
  unfold fo_int at e
  split at e
  · obtain ⟨y, rfl, a⟩ := vws1 h; cases a.int; cases e; exact q
  · obtain ⟨y, rfl, a⟩ := vws1 h; cases a.eq (by intro ds e; cases e); cases e; exact q
  · cases e⟩
instance : OpC minAD fo_minA := ⟨fun {M xs xs' z Q} h e q => by
  unfold fo_minA at e
  split at e
  · obtain ⟨y, rfl, a⟩ := vws1 h
    obtain ⟨ds, e1, e⟩ := bind_some e
    obtain ⟨ns, e2, e⟩ := bind_some e
    cases e3 : ns.min? with
    | none => rw [e3] at e; cases e
    | some m =>
      rw [e3] at e; cases e
      obtain ⟨h1, h2⟩ := List.min?_eq_some_iff.mp e3
      cases asInts_of e2
      refine ⟨ns, items_vw a e1, List.length_pos_of_mem h1, fun m' h3 h4 => ?_⟩
      have : m' = m := Int.le_antisymm (h4 m h1) (h2 m' h3)
      rw [this]; exact q
  · cases e⟩
instance : OpC maxAD fo_maxA := ⟨fun {M xs xs' z Q} h e q => by
  unfold fo_maxA at e
  split at e
  · obtain ⟨y, rfl, a⟩ := vws1 h
    obtain ⟨ds, e1, e⟩ := bind_some e
    obtain ⟨ns, e2, e⟩ := bind_some e
    cases e3 : ns.max? with
    | none => rw [e3] at e; cases e
    | some m =>
      rw [e3] at e; cases e
      obtain ⟨h1, h2⟩ := List.max?_eq_some_iff.mp e3
      cases asInts_of e2
      refine ⟨ns, items_vw a e1, List.length_pos_of_mem h1, fun m' h3 h4 => ?_⟩
      have : m' = m := Int.le_antisymm (h2 m' h3) (h4 m h1)
      rw [this]; exact q
  · cases e⟩
theorem map_some {α β : Type} {x : Option α} {f : α → β} {b : β} (h : x.map f = some b) : ∃ a, x = some a ∧ f a = b := by
  cases x with
  | none => cases h
  | some a => exact ⟨a, rfl, Option.some.inj h⟩
instance : OpC sumLD fo_sumL := ⟨fun {M xs xs' z Q} h e q => by
  unfold fo_sumL at e
  split at e
  · obtain ⟨y, rfl, a⟩ := vws1 h
    obtain ⟨ns, e2, rfl⟩ := map_some e
    cases asInts_of e2
    exact ⟨ns, a.view rfl, q⟩
  · cases e⟩
instance : OpC allLD fo_allL := ⟨fun {M xs xs' z Q} h e q => by
  unfold fo_allL at e
  split at e
  · obtain ⟨y, rfl, a⟩ := vws1 h
    obtain ⟨ns, e2, rfl⟩ := map_some e
    cases asBls_of e2
    exact ⟨ns, a.view rfl, q⟩
  · cases e⟩
instance : OpC anyLD fo_anyL := ⟨fun {M xs xs' z Q} h e q => by
  unfold fo_anyL at e
  split at e
  · obtain ⟨y, rfl, a⟩ := vws1 h
    obtain ⟨ns, e2, rfl⟩ := map_some e
    cases asBls_of e2
    exact ⟨ns, a.view rfl, q⟩
  · cases e⟩
instance : OpC tupleD fo_tuple := ⟨fun {M xs xs' z Q} h e q => by
  unfold fo_tuple at e
  split at e
  · obtain ⟨y, rfl, a⟩ := vws1 h
    obtain ⟨ns, e2, rfl⟩ := map_some e
    unfold tupleD; simp only [items_vw a e2]; exact q
  · cases e⟩
instance : OpC listD fo_list := ⟨fun {M xs xs' z Q} h e q => by
  unfold fo_list at e
  split at e
  · obtain ⟨y, rfl, a⟩ := vws1 h
    obtain ⟨ns, e2, rfl⟩ := map_some e
    unfold listD; simp only [items_vw a e2]; exact q
  · cases e⟩
theorem sortI_perm (ns : List Int) : (sortI ns).Perm ns := List.mergeSort_perm ns _
theorem sortI_up (ns : List Int) : (sortI ns).Pairwise (· ≤ ·) := by
  have h := List.pairwise_mergeSort (le := fun a b : Int => decide (a ≤ b)) (fun a b c h1 h2 => by simp at h1 h2 ⊢; omega) (fun a b => by simp; omega) ns
  exact h.imp fun {a b} h => by simpa using h
theorem sortI_eq {ns ms : List Int} (h1 : ms.Perm ns) (h2 : ms.Pairwise (· ≤ ·)) : ms = sortI ns :=
  List.Perm.eq_of_pairwise (le := fun a b : Int => a ≤ b) (fun a b _ _ h1 h2 => by omega) h2 (sortI_up ns) (h1.trans (sortI_perm ns).symm)
instance : OpC sortD fo_sort := ⟨fun {M xs xs' z Q} h e q => by
  unfold fo_sort at e
  split at e
  · obtain ⟨y, rfl, a⟩ := vws1 h
    obtain ⟨ds, e1, e⟩ := bind_some e
    obtain ⟨ns, e2, rfl⟩ := map_some e
    cases asInts_of e2
    refine ⟨ns, items_vw a e1, fun ns' h1 h2 => ?_⟩
    rw [sortI_eq h1 h2]
    exact q
  · cases e⟩
theorem ty_notRef {x : D} {a : String} (h : tyNm x = some a) : notRef x = true := by cases x <;> first | rfl | cases h
instance : OpC isiD fo_isi := ⟨fun {M xs xs' z Q} h e q => by
  unfold fo_isi at e
  split at e
  · obtain ⟨y, y2, rfl, a, b⟩ := vws2 h
    obtain ⟨t, e2, e⟩ := bind_some e
    obtain ⟨hk, rfl⟩ := gOk_of e
    cases b.eq (by intro ds e; cases e)
    unfold isiD
    simp only [a.view (ty_notRef e2), e2]
    exact ⟨hk, q⟩
  · cases e⟩
end DL

set_option Elab.async false
set_option linter.all false
set_option maxRecDepth 100000
set_option maxHeartbeats 4000000
/-! FL: tests, comprehensions, calls, statements as functions. -/
namespace DL
open PySem PySem.Spec PyProof.Rows L2
noncomputable section
def asB : D → Option Bool
  | .bl b => some b
  | _ => none
theorem asB_of {x : D} {b : Bool} (h : asB x = some b) : x = .bl b := by cases x <;> cases h; rfl
theorem VW.bl {M : Mem} {y : D} {b : Bool} (h : VW M y (.bl b)) : y = .bl b := h.eq (by intro ds e; cases e)
/-! ### tests -/
def fTest (a : FD) : FE → Option Bool := fun Γ => (a Γ).bind asB
def fAnd (t u : FE → Option Bool) : FE → Option Bool := fun Γ => (t Γ).bind fun b => if b = true then u Γ else some false
def fOr (t u : FE → Option Bool) : FE → Option Bool := fun Γ => (t Γ).bind fun b => if b = true then some true else u Γ
def fNot (t : FE → Option Bool) : FE → Option Bool := fun Γ => (t Γ).map (!·)
def fAndV (a b : FD) : FD := fun Γ => (a Γ).bind fun x => (asB x).bind fun c => if c = true then b Γ else some (.bl false)
def fOrV (a b : FD) : FD := fun Γ => (a Γ).bind fun x => (asB x).bind fun c => if c = true then some (.bl true) else b Γ
def fNotV (a : FD) : FD := fun Γ => (a Γ).bind fun x => (asB x).map fun c => .bl (!c)
def fIf {α : Type} (t : FE → Option Bool) (a b : FE → Option α) : FE → Option α := fun Γ => (t Γ).bind fun c => if c = true then a Γ else b Γ
def fChain (r r' : D → D → Option D) (a b c : FD) : FD := fun Γ => (a Γ).bind fun x => (b Γ).bind fun y => (r x y).bind fun z => (asB z).bind fun k => if k = true then (c Γ).bind fun w => (r' y w).bind fun u => (asB u).map .bl else some (.bl false)
def fYes : FE → Option Bool := fun _ => some true
variable {t u : TDT} {ft fu : FE → Option Bool} {a b c : TD} {fa fb fc : FD}
instance [ha : PuV a fa] : PuT (dTest a) (fTest fa) := ⟨fun R e q => by
  obtain ⟨x, e1, e⟩ := bind_some e
  cases asB_of e
  exact ha.run R e1 fun y M1 k1 v1 => by cases v1.bl; exact q _ k1⟩
instance [ht : PuT t ft] [hu : PuT u fu] : PuT (dAnd t u) (fAnd ft fu) := ⟨fun R e q => by
  obtain ⟨x, e1, e⟩ := bind_some e
  refine ht.run R e1 fun M1 k1 => ?_
  cases x with
  | true => rw [if_pos rfl] at e ⊢; exact hu.run (R.keep k1) e fun M2 k2 => q _ (k1.trans k2)
  | false => rw [if_neg Bool.false_ne_true] at e ⊢; cases e; exact q _ k1⟩
instance [ht : PuT t ft] [hu : PuT u fu] : PuT (dOr t u) (fOr ft fu) := ⟨fun R e q => by
  obtain ⟨x, e1, e⟩ := bind_some e
  refine ht.run R e1 fun M1 k1 => ?_
  cases x with
  | false => rw [if_neg Bool.false_ne_true] at e ⊢; exact hu.run (R.keep k1) e fun M2 k2 => q _ (k1.trans k2)
  | true => rw [if_pos rfl] at e ⊢; cases e; exact q _ k1⟩
instance [ht : PuT t ft] : PuT (dNot t) (fNot ft) := ⟨fun R e q => by
  obtain ⟨x, e1, rfl⟩ := map_some e
  exact ht.run R e1 fun M1 k1 => q _ k1⟩
instance : PuT dYes fYes := ⟨fun R e q => by cases e; exact q _ Kp.refl⟩
instance [ha : PuX a fa] [hb : PuX b fb] : PuX (dAndV a b) (fAndV fa fb) := ⟨fun R e q => by
  obtain ⟨x, e1, h1⟩ := bind_some e
  obtain ⟨k, e2, h2⟩ := bind_some h1
  cases asB_of e2
  clear h1 e
  have e := h2
  refine ha.run R e1 fun M1 k1 => ?_
  show if k = true then _ else _
  cases k with
  | true => rw [if_pos rfl] at e ⊢; exact hb.run (R.keep k1) e fun M2 k2 => q _ (k1.trans k2)
  | false => rw [if_neg Bool.false_ne_true] at e ⊢; cases e; exact q _ k1⟩
instance [ha : PuX a fa] [hb : PuX b fb] : PuX (dOrV a b) (fOrV fa fb) := ⟨fun R e q => by
  obtain ⟨x, e1, h1⟩ := bind_some e
  obtain ⟨k, e2, h2⟩ := bind_some h1
  cases asB_of e2
  clear h1 e
  have e := h2
  refine ha.run R e1 fun M1 k1 => ?_
  show if k = true then _ else _
  cases k with
  | false => rw [if_neg Bool.false_ne_true] at e ⊢; exact hb.run (R.keep k1) e fun M2 k2 => q _ (k1.trans k2)
  | true => rw [if_pos rfl] at e ⊢; cases e; exact q _ k1⟩
instance [ha : PuX a fa] : PuX (dNotV a) (fNotV fa) := ⟨fun R e q => by
  obtain ⟨x, e1, e⟩ := bind_some e
  obtain ⟨k, e2, rfl⟩ := map_some e
  cases asB_of e2
  exact ha.run R e1 fun M1 k1 => q _ k1⟩
instance puX_if [ht : PuT t ft] [ha : PuX a fa] [hb : PuX b fb] : PuX (dIf t a b) (fIf ft fa fb) := ⟨fun R e q => by
  obtain ⟨x, e1, e⟩ := bind_some e
  refine ht.run R e1 fun M1 k1 => ?_
  cases x with
  | true => rw [if_pos rfl] at e ⊢; exact ha.run (R.keep k1) e fun M2 k2 => q _ (k1.trans k2)
  | false => rw [if_neg Bool.false_ne_true] at e ⊢; exact hb.run (R.keep k1) e fun M2 k2 => q _ (k1.trans k2)⟩
instance puV_if [ht : PuT t ft] [ha : PuV a fa] [hb : PuV b fb] : PuV (dIf t a b) (fIf ft fa fb) := ⟨fun R e q => by
  obtain ⟨x, e1, e⟩ := bind_some e
  refine ht.run R e1 fun M1 k1 => ?_
  cases x with
  | true => rw [if_pos rfl] at e ⊢; exact ha.run (R.keep k1) e fun y M2 k2 => q _ _ (k1.trans k2)
  | false => rw [if_neg Bool.false_ne_true] at e ⊢; exact hb.run (R.keep k1) e fun y M2 k2 => q _ _ (k1.trans k2)⟩
instance puO_if {oa ob : FE → Option OV} [ht : PuT t ft] [ha : PuO a oa] [hb : PuO b ob] : PuO (dIf t a b) (fIf ft oa ob) := ⟨fun R e q => by
  obtain ⟨x, e1, e⟩ := bind_some e
  refine ht.run R e1 fun M1 k1 => ?_
  cases x with
  | true => rw [if_pos rfl] at e ⊢; exact ha.run (R.keep k1) e fun p M2 k2 h => q _ _ (k1.trans k2) (k1.none h)
  | false => rw [if_neg Bool.false_ne_true] at e ⊢; exact hb.run (R.keep k1) e fun p M2 k2 h => q _ _ (k1.trans k2) (k1.none h)⟩
instance {r r' : R2D} {f f' : D → D → Option D} [hr : Op2 r f] [hr' : Op2 r' f'] [ha : PuV a fa] [hb : PuV b fb] [hc : PuV c fc] : PuX (dChain r r' a b c) (fChain f f' fa fb fc) := ⟨fun R e q => by
  obtain ⟨x, e1, e⟩ := bind_some e
  obtain ⟨y, e2, e⟩ := bind_some e
  obtain ⟨z, e3, h1⟩ := bind_some e
  obtain ⟨k, e4, h2⟩ := bind_some h1
  cases asB_of e4
  clear h1
  clear e
  have e := h2
  refine ha.run R e1 fun x' M1 k1 v1 => hb.run (R.keep k1) e2 fun y' M2 k2 v2 => hr.run (v1.mono k2) v2 e3 ?_
  show if k = true then _ else _
  cases k with
  | true =>
    rw [if_pos rfl] at e ⊢
    obtain ⟨w, e5, e⟩ := bind_some e
    obtain ⟨u, e6, e⟩ := bind_some e
    obtain ⟨l, e7, rfl⟩ := map_some e
    cases asB_of e7
    exact hc.run (R.keep (k1.trans k2)) e5 fun w' M3 k3 v3 => hr'.run (v2.mono k3) v3 e6 (q _ ((k1.trans k2).trans k3))
  | false => rw [if_neg Bool.false_ne_true] at e ⊢; cases e; exact q _ (k1.trans k2)⟩

/-! ### slices, attributes -/
def fNoPart : FE → Option (Option Int) := fun _ => some none
def asI : D → Option Int
  | .int i => some i
  | _ => none
theorem asI_of {x : D} {i : Int} (h : asI x = some i) : x = .int i := by cases x <;> cases h; rfl
def fPart (t : FD) : FE → Option (Option Int) := fun Γ => (t Γ).bind fun x => (asI x).map some
instance : PuP dNoPart fNoPart := ⟨fun R e q => by cases e; exact q _ Kp.refl⟩
instance [ha : PuV a fa] : PuP (dPart a) (fPart fa) := ⟨fun R e q => by
  obtain ⟨x, e1, e⟩ := bind_some e
  obtain ⟨i, e2, rfl⟩ := map_some e
  cases asI_of e2
  exact ha.run R e1 fun y M1 k1 v1 => by cases v1.int; exact q _ k1⟩
def fo_sl (x : D) (lo hi : Option Int) : Option D := match x with
  | .lst xs => some (.lst (cutD xs lo hi))
  | .scr xs => some (.lst (cutD xs lo hi))
  | .tup xs => some (.tup (cutD xs lo hi))
  | _ => none
def fSl (a : FD) (l h : FE → Option (Option Int)) : FD := fun Γ => (a Γ).bind fun x => (l Γ).bind fun lo => (h Γ).bind fun hi => fo_sl x lo hi
instance {l h : TDO} {fl fh : FE → Option (Option Int)} [ha : PuV a fa] [hl : PuP l fl] [hh : PuP h fh] : PuX (dSl a l h) (fSl fa fl fh) := ⟨fun R e q => by
  obtain ⟨x, e1, e⟩ := bind_some e
  obtain ⟨lo, e2, e⟩ := bind_some e
  obtain ⟨hi, e3, e⟩ := bind_some e
  refine ha.run R e1 fun x' M1 k1 v1 => hl.run (R.keep k1) e2 fun M2 k2 => hh.run (R.keep (k1.trans k2)) e3 fun M3 k3 => ?_
  have v := v1.mono (k2.trans k3)
  unfold fo_sl at e
  unfold slD
  split at e
  · rw [v.view rfl]; cases e; exact q _ ((k1.trans k2).trans k3)
  · rw [v.view rfl]; cases e; exact q _ ((k1.trans k2).trans k3)
  · rw [v.view rfl]; cases e; exact q _ ((k1.trans k2).trans k3)
  · cases e⟩
def fo_rev : D → Option D
  | .lst xs => some (.lst xs.reverse)
  | .scr xs => some (.lst xs.reverse)
  | _ => none
def fRev (a : FD) : FD := fun Γ => (a Γ).bind fo_rev
instance [ha : PuV a fa] : PuX (dRev a) (fRev fa) := ⟨fun R e q => by
  obtain ⟨x, e1, e⟩ := bind_some e
  refine ha.run R e1 fun x' M1 k1 v1 => ?_
  unfold fo_rev at e
  unfold revD
  split at e
  · rw [v1.view rfl]; cases e; exact q _ k1
  · rw [v1.view rfl]; cases e; exact q _ k1
  · cases e⟩
def fo_revM : D → Option OV
  | .lst xs => some (.l xs.reverse)
  | .scr xs => some (.l xs.reverse)
  | _ => none
def fRevM (a : FD) : FE → Option OV := fun Γ => (a Γ).bind fo_revM
instance [ha : PuV a fa] : PuO (dRevM a) (fRevM fa) := ⟨fun R e q => by
  obtain ⟨x, e1, e⟩ := bind_some e
  refine ha.run R e1 fun x' M1 k1 v1 => ?_
  unfold fo_revM at e
  unfold revMD
  split at e
  · rw [v1.view rfl]; cases e; exact fun p hp => q p _ (k1.trans (Kp.refl.put hp)) (k1.none hp) mput_same
  · rw [v1.view rfl]; cases e; exact fun p hp => q p _ (k1.trans (Kp.refl.put hp)) (k1.none hp) mput_same
  · cases e⟩
/-- list(x), as an object of its own -/
def fListM (a : FE → Option (List D)) : FE → Option OV := fun Γ => (a Γ).bind fun xs => match xs with
  | [x] => (itemsF x).map .l
  | _ => none
instance {da : TDA} {fa : FE → Option (List D)} [ha : PuA da fa] : PuO (dCB listMD da) (fListM fa) := ⟨fun R e q => by
  obtain ⟨x, e1, e⟩ := bind_some e
  refine ha.run R e1 fun x' M1 k1 v1 => ?_
  split at e
  · obtain ⟨y, rfl, v⟩ := vws1 v1
    obtain ⟨ds, e2, rfl⟩ := map_some e
    unfold listMD
    simp only [items_vw v e2]
    exact fun p hp => q p _ (k1.trans (Kp.refl.put hp)) (k1.none hp) mput_same
  · cases e⟩
/-- sorted(x), as an object of its own -/
def fSortM (a : FE → Option (List D)) : FE → Option OV := fun Γ => (a Γ).bind fun xs => match xs with
  | [x] => (itemsF x).bind fun ds => (asInts ds).map fun ns => .l ((sortI ns).map D.int)
  | _ => none
instance {da : TDA} {fa : FE → Option (List D)} [ha : PuA da fa] : PuO (dCB sortMD da) (fSortM fa) := ⟨fun R e q => by
  obtain ⟨x, e1, e⟩ := bind_some e
  refine ha.run R e1 fun x' M1 k1 v1 => ?_
  split at e
  · obtain ⟨y, rfl, v⟩ := vws1 v1
    obtain ⟨ds, e2, e3⟩ := bind_some e
    obtain ⟨ns, e4, rfl⟩ := map_some e3
    cases asInts_of e4
    refine ⟨ns, items_vw v e2, fun ns' p h1 h2 hp => ?_⟩
    rw [sortI_eq h1 h2]
    exact q p _ (k1.trans (Kp.refl.put hp)) (k1.none hp) mput_same
  · cases e⟩
open Classical in
def fo_fld (C : Addr) (ns : List Str) (i : Nat) : D → Option D
  | .obj C' ns' ds => if C' = C ∧ ns' = ns then ds[i]? else none
  | _ => none
def fFld (C : Addr) (ns : List Str) (i : Nat) (a : FD) : FD := fun Γ => (a Γ).bind (fo_fld C ns i)
instance {C : Addr} {ns : List Str} {i : Nat} [ha : PuV a fa] : PuX (dFld C ns i a) (fFld C ns i fa) := ⟨fun R e q => by
  obtain ⟨x, e1, e⟩ := bind_some e
  refine ha.run R e1 fun x' M1 k1 v1 => ?_
  unfold fo_fld at e
  split at e
  · cases v1.eq (by intro ds e; cases e)
    split at e
    · rename_i h
      show _ ∧ _ ∧ nthN _ _ _
      refine ⟨h.1, h.2, ?_⟩
      unfold nthN
      rw [e]
      exact q _ k1
    · cases e
  · cases e⟩
def fTupRg1 (a : FD) : FD := fun Γ => (a Γ).bind fun x => (asI x).bind fun n => gOk (RgOk 0 n) (.tup (rngD 0 n.toNat))
def fTupRg2 (a b : FD) : FD := fun Γ => (a Γ).bind fun x => (b Γ).bind fun y => (asI x).bind fun i => (asI y).bind fun j => gOk (RgOk i j) (.tup (rngD i (j - i).toNat))
def fLstRg1 (a : FD) : FD := fun Γ => (a Γ).bind fun x => (asI x).bind fun n => gOk (RgOk 0 n) (.lst (rngD 0 n.toNat))
def fLstRg2 (a b : FD) : FD := fun Γ => (a Γ).bind fun x => (b Γ).bind fun y => (asI x).bind fun i => (asI y).bind fun j => gOk (RgOk i j) (.lst (rngD i (j - i).toNat))
instance [ha : PuV a fa] : PuX (dTupRg1 a) (fTupRg1 fa) := ⟨fun R e q => by
  obtain ⟨x, e1, e⟩ := bind_some e
  obtain ⟨i, e2, e⟩ := bind_some e
  obtain ⟨h, rfl⟩ := gOk_of e
  cases asI_of e2
  exact ha.run R e1 fun y M1 k1 v1 => by cases v1.int; exact ⟨h, q _ k1⟩⟩
instance [ha : PuV a fa] : PuX (dLstRg1 a) (fLstRg1 fa) := ⟨fun R e q => by
  obtain ⟨x, e1, e⟩ := bind_some e
  obtain ⟨i, e2, e⟩ := bind_some e
  obtain ⟨h, rfl⟩ := gOk_of e
  cases asI_of e2
  exact ha.run R e1 fun y M1 k1 v1 => by cases v1.int; exact ⟨h, q _ k1⟩⟩
instance [ha : PuV a fa] [hb : PuV b fb] : PuX (dTupRg2 a b) (fTupRg2 fa fb) := ⟨fun R e q => by
  obtain ⟨x, e1, e⟩ := bind_some e
  obtain ⟨y, e2, e⟩ := bind_some e
  obtain ⟨i, e3, e⟩ := bind_some e
  obtain ⟨j, e4, e⟩ := bind_some e
  obtain ⟨h, rfl⟩ := gOk_of e
  cases asI_of e3
  cases asI_of e4
  exact ha.run R e1 fun y M1 k1 v1 => hb.run (R.keep k1) e2 fun z M2 k2 v2 => by cases v1.int; cases v2.int; exact ⟨h, q _ (k1.trans k2)⟩⟩
instance [ha : PuV a fa] [hb : PuV b fb] : PuX (dLstRg2 a b) (fLstRg2 fa fb) := ⟨fun R e q => by
  obtain ⟨x, e1, e⟩ := bind_some e
  obtain ⟨y, e2, e⟩ := bind_some e
  obtain ⟨i, e3, e⟩ := bind_some e
  obtain ⟨j, e4, e⟩ := bind_some e
  obtain ⟨h, rfl⟩ := gOk_of e
  cases asI_of e3
  cases asI_of e4
  exact ha.run R e1 fun y M1 k1 v1 => hb.run (R.keep k1) e2 fun z M2 k2 v2 => by cases v1.int; cases v2.int; exact ⟨h, q _ (k1.trans k2)⟩⟩
def fIsi2 (n1 n2 : String) (a : FD) : FD := fun Γ => (a Γ).bind fun x => (tyNm x).bind fun t => gOk (kitB t n1 = some (isA t n1) ∧ kitB t n2 = some (isA t n2)) (.bl (isA t n1 || isA t n2))
instance {n1 n2 : String} [ha : PuV a fa] : PuX (dIsi2 n1 n2 a) (fIsi2 n1 n2 fa) := ⟨fun R e q => by
  obtain ⟨x, e1, e⟩ := bind_some e
  obtain ⟨i, e3, e⟩ := bind_some e
  obtain ⟨h, rfl⟩ := gOk_of e
  refine ha.run R e1 fun y M1 k1 v1 => ?_
  show match tyNm (view M1 y) with | some t => _ | none => _
  rw [v1.view (ty_notRef e3), e3]
  exact ⟨h.1, h.2, q _ k1⟩⟩

/-! ### what is walked -/
def fiAny (a : FD) : FE → Option (List D) := fun Γ => (a Γ).bind itemsF
def fiRng1 (a : FE → Option (List D)) : FE → Option (List D) := fun Γ => (a Γ).bind fun xs => match xs with
  | [.int j] => if -(2 ^ 62) ≤ j ∧ j < 2 ^ 62 then some (rngD 0 j.toNat) else none
  | _ => none
def fiRng2 (a : FE → Option (List D)) : FE → Option (List D) := fun Γ => (a Γ).bind fun xs => match xs with
  | [.int i, .int j] => if -(2 ^ 62) ≤ i ∧ i < 2 ^ 62 ∧ -(2 ^ 62) ≤ j ∧ j < 2 ^ 62 then some (rngD i (j - i).toNat) else none
  | _ => none
def fiEnum (a : FD) : FE → Option (List D) := fun Γ => (a Γ).bind fun x => (itemsF x).map enumD
def fiZip (a : FE → Option (List D)) : FE → Option (List D) := fun Γ => (a Γ).bind fun xs => match xs with
  | [.lst xs, .lst ys] => some (zipD xs ys)
  | [.tup xs, .tup ys] => some (zipD xs ys)
  | _ => none
theorem src_vw {M : Mem} {y x : D} {ds : List D} {P : List D → (Mem → Prop) → Mem → Prop} (v : VW M y x) (e : itemsF x = some ds) (h : ∀ grd : Mem → Prop, (∀ M2, Kp M M2 → grd M2) → P ds grd M) : srcD y M P := by
  rcases v with rfl | ⟨p, xs, rfl, hp, rfl⟩
  · cases y <;> first | (cases e; exact h _ fun _ _ => trivial) | cases e
  · cases e
    show (match M p with | some (.lst xs) => _ | _ => _)
    rw [hp]
    exact h _ fun M2 k => k _ _ hp
theorem src_w0 {M0 M : Mem} {y x : D} {ds : List D} {P : List D → (Mem → Prop) → Mem → Prop} (k0 : Kp M0 M) (v : VW M0 y x) (e : itemsF x = some ds) (h : ∀ grd : Mem → Prop, (∀ M2, Kp M0 M2 → grd M2) → P ds grd M) : srcD y M P := by
  rcases v with rfl | ⟨p, xs, rfl, hp, rfl⟩
  · cases y <;> first | (cases e; exact h _ fun _ _ => trivial) | cases e
  · cases e
    show (match M p with | some (.lst xs) => _ | _ => _)
    rw [k0 _ _ hp]
    exact h _ fun M2 k => k _ _ hp
instance [ha : PuV a fa] : PuC (diAny a) (fiAny fa) := ⟨fun R e q => by
  obtain ⟨x, e1, e⟩ := bind_some e
  exact ha.run R e1 fun y M1 k1 v1 => src_vw v1 e fun grd h => q grd M1 k1 h⟩
instance [ha : PuV a fa] : PuC (diEnum (dCons a dNil)) (fiEnum fa) := ⟨fun R e q => by
  obtain ⟨x, e1, e⟩ := bind_some e
  obtain ⟨ds, e2, rfl⟩ := map_some e
  exact ha.run R e1 fun y M1 k1 v1 => src_vw v1 e2 fun grd h => q grd M1 k1 h⟩
instance [ha : PuX a fa] : PuI (diAny a) (fiAny fa) := ⟨fun R e q => by
  obtain ⟨x, e1, e⟩ := bind_some e
  exact ha.run R e1 fun M1 k1 => src_w0 (R.kp.trans k1) (.inl rfl) e fun grd h => q grd M1 k1 h⟩
instance [ha : PuX a fa] : PuI (diEnum (dCons a dNil)) (fiEnum fa) := ⟨fun R e q => by
  obtain ⟨x, e1, e⟩ := bind_some e
  obtain ⟨ds, e2, rfl⟩ := map_some e
  exact ha.run R e1 fun M1 k1 => src_w0 (R.kp.trans k1) (.inl rfl) e2 fun grd h => q grd M1 k1 h⟩
theorem w_sr {M0 M : Mem} {z : FV} {x y : D} (s : SR M0 M z y) (h : rdW z = some x) : VW M0 y x := by
  cases z with
  | v d => cases h; exact .inl s
  | w d => cases h; exact s
  | o z => cases h
instance {i : Nat} : PuI (diAny (dVar i)) (fiAny (fVarW i)) := ⟨fun {M0 Γ Γw M ds P} r h q => by
  obtain ⟨x, e0, e⟩ := bind_some h
  obtain ⟨z, e1, e2⟩ := bind_some e0
  obtain ⟨y, e3, s⟩ := r.get i z (lookF_of e1)
  exact look_at e3 (src_w0 r.kp (w_sr s e2) e fun grd h => q grd M Kp.refl h)⟩
instance {i : Nat} : PuI (diEnum (dCons (dVar i) dNil)) (fiEnum (fVarW i)) := ⟨fun {M0 Γ Γw M ds P} r h q => by
  obtain ⟨x, e0, e⟩ := bind_some h
  obtain ⟨ds, e4, rfl⟩ := map_some e
  obtain ⟨z, e1, e2⟩ := bind_some e0
  obtain ⟨y, e3, s⟩ := r.get i z (lookF_of e1)
  exact look_at e3 (src_w0 r.kp (w_sr s e2) e4 fun grd h => q grd M Kp.refl h)⟩
variable {da : TDA} {fA : FE → Option (List D)}
theorem rng1_run {M0 M : Mem} {Γ : FE} {Γw : DE} {x : List D} {P : List D → (Mem → Prop) → Mem → Prop} [ha : PuA da fA] (R : Rel M0 Γ Γw M) (e : fiRng1 fA Γ = some x) (q : ∀ M', Kp M M' → P x noGrd M') : diRng1 da Γw M P := by
  obtain ⟨xs, e1, e⟩ := bind_some e
  refine ha.run R e1 fun y M1 k1 v1 => ?_
  split at e
  · obtain ⟨y, rfl, v⟩ := vws1 v1
    cases v.int
    split at e
    · cases e; exact ⟨‹_›, q _ k1⟩
    · cases e
  · cases e
theorem rng2_run {M0 M : Mem} {Γ : FE} {Γw : DE} {x : List D} {P : List D → (Mem → Prop) → Mem → Prop} [ha : PuA da fA] (R : Rel M0 Γ Γw M) (e : fiRng2 fA Γ = some x) (q : ∀ M', Kp M M' → P x noGrd M') : diRng2 da Γw M P := by
  obtain ⟨xs, e1, e⟩ := bind_some e
  refine ha.run R e1 fun y M1 k1 v1 => ?_
  split at e
  · obtain ⟨y, y2, rfl, v, v2⟩ := vws2 v1
    cases v.int
    cases v2.int
    split at e
    · cases e; exact ⟨‹_›, q _ k1⟩
    · cases e
  · cases e
theorem zip_run {M0 M : Mem} {Γ : FE} {Γw : DE} {x : List D} {P : List D → (Mem → Prop) → Mem → Prop} [ha : PuAX da fA] (R : Rel M0 Γ Γw M) (e : fiZip fA Γ = some x) (q : ∀ M', Kp M M' → P x noGrd M') : diZip da Γw M P := by
  obtain ⟨xs, e1, e⟩ := bind_some e
  refine ha.run R e1 fun M1 k1 => ?_
  split at e
  · cases e; exact q _ k1
  · cases e; exact q _ k1
  · cases e
instance [ha : PuA da fA] : PuC (diRng1 da) (fiRng1 fA) := ⟨fun R e q => rng1_run R e fun M' k => q _ M' k fun _ _ => trivial⟩
instance [ha : PuA da fA] : PuI (diRng1 da) (fiRng1 fA) := ⟨fun R e q => rng1_run R e fun M' k => q _ M' k fun _ _ => trivial⟩
instance [ha : PuA da fA] : PuC (diRng2 da) (fiRng2 fA) := ⟨fun R e q => rng2_run R e fun M' k => q _ M' k fun _ _ => trivial⟩
instance [ha : PuA da fA] : PuI (diRng2 da) (fiRng2 fA) := ⟨fun R e q => rng2_run R e fun M' k => q _ M' k fun _ _ => trivial⟩
instance [ha : PuAX da fA] : PuC (diZip da) (fiZip fA) := ⟨fun R e q => zip_run R e fun M' k => q _ M' k fun _ _ => trivial⟩
instance [ha : PuAX da fA] : PuI (diZip da) (fiZip fA) := ⟨fun R e q => zip_run R e fun M' k => q _ M' k fun _ _ => trivial⟩

/-! ### targets -/
def fgName (i : Nat) : D → FE → Option FE := fun d Γ => some (Γ.set i (some (.v d)))
def fgNil : List D → FE → Option FE := fun xs Γ => match xs with | [] => some Γ | _ => none
def fgCons (g : D → FE → Option FE) (u : List D → FE → Option FE) : List D → FE → Option FE := fun xs Γ => match xs with
  | [] => none
  | x :: r => (g x Γ).bind fun Γ1 => u r Γ1
def fgTup (n : Nat) (u : List D → FE → Option FE) : D → FE → Option FE := fun x Γ => match x with
  | .tup xs => if xs.length = n then u xs Γ else none
  | _ => none
instance puG_name {i : Nat} : PuG (dgName i) (fgName i) := ⟨fun R e q => by cases e; exact q _ _ Kp.refl (R.setV i _)⟩
instance : PuGs dgNil fgNil := ⟨fun {M0 Γ Γw M x Γ' Q} R e q => by
  unfold fgNil at e
  split at e
  · cases e; exact ⟨rfl, q _ _ Kp.refl R⟩
  · cases e⟩
instance {g : TDG} {gs : TDGs} {fg : D → FE → Option FE} {fgs : List D → FE → Option FE} [hg : PuG g fg] [hs : PuGs gs fgs] : PuGs (dgCons g gs) (fgCons fg fgs) := ⟨fun {M0 Γ Γw M x Γ' Q} R e q => by
  unfold fgCons at e
  split at e
  · cases e
  · obtain ⟨Γ1, e1, e⟩ := bind_some e
    exact hg.run R e1 fun Γw1 M1 k1 R1 => hs.run R1 e fun Γw2 M2 k2 R2 => q _ _ (k1.trans k2) R2⟩
instance {n : Nat} {gs : TDGs} {fgs : List D → FE → Option FE} [hs : PuGs gs fgs] : PuG (dgTup n gs) (fgTup n fgs) := ⟨fun {M0 Γ Γw M x Γ' Q} R e q => by
  unfold fgTup at e
  split at e
  · split at e
    · exact ⟨‹_›, hs.run R e q⟩
    · cases e
  · cases e⟩

/-! ### comprehensions -/
def wipeF (Γ : FE) : List Nat → FE
  | [] => Γ
  | v :: vs => (wipeF Γ vs).set v none
theorem Rel.forget {M0 M : Mem} {Γ : FE} {Γw : DE} (r : Rel M0 Γ Γw M) (i : Nat) : Rel M0 (Γ.set i none) (Γw.set i none) M := by
  have back : ∀ (j : Nat) (x : FV), (Γ.set i none)[j]? = some (some x) → j ≠ i ∧ Γ[j]? = some (some x) := fun j x h => by
    by_cases ij : i = j
    · subst ij
      by_cases hl : i < Γ.length
      · rw [List.getElem?_set_self hl] at h; cases h
      · rw [List.getElem?_eq_none (by rw [List.length_set]; omega)] at h; cases h
    · rw [List.getElem?_set_ne ij] at h; exact ⟨fun e => ij e.symm, h⟩
  refine ⟨r.kp, by rw [List.length_set, List.length_set, r.len], fun j x h => ?_, fun a b x x' p ne h1 h2 h3 => ?_⟩
  · obtain ⟨ne, h⟩ := back j x h
    obtain ⟨y, q1, q2⟩ := r.get j x h
    exact ⟨y, by rw [List.getElem?_set_ne (fun e => ne e.symm)]; exact q1, q2⟩
  · obtain ⟨na, h1⟩ := back a _ h1
    obtain ⟨nb, h2⟩ := back b _ h2
    rw [List.getElem?_set_ne (fun e => na e.symm)] at h3
    rw [List.getElem?_set_ne (fun e => nb e.symm)]
    exact r.inj a b x x' p ne h1 h2 h3
theorem Rel.wipe {M0 M : Mem} {Γ : FE} {Γw : DE} (r : Rel M0 Γ Γw M) : ∀ vs : List Nat, Rel M0 (wipeF Γ vs) (wipeD Γw vs) M
  | [] => r
  | v :: vs => (Rel.wipe r vs).forget v
def lcF (g : D → FE → Option FE) (t : FE → Option Bool) (e : FD) (Γ : FE) : List D → Option (List D)
  | [] => some []
  | x :: xs => (g x Γ).bind fun Γ1 => (t Γ1).bind fun b => if b = true then (e Γ1).bind fun y => (lcF g t e Γ xs).map (y :: ·) else lcF g t e Γ xs
def fLc0 (it : FE → Option (List D)) (g : D → FE → Option FE) (t : FE → Option Bool) (e : FD) (vs : List Nat) : FE → Option (List D) := fun Γ => (it Γ).bind fun xs => if xs.length ≤ sizeLine then lcF g t e (wipeF Γ vs) xs else none
def fLc (it : FE → Option (List D)) (g : D → FE → Option FE) (t : FE → Option Bool) (e : FD) (vs : List Nat) : FD := fun Γ => (fLc0 it g t e vs Γ).map .lst
def fLcM (it : FE → Option (List D)) (g : D → FE → Option FE) (t : FE → Option Bool) (e : FD) (vs : List Nat) : FE → Option OV := fun Γ => (fLc0 it g t e vs Γ).map .l
theorem lc_run {g : TDG} {fg : D → FE → Option FE} {ft : FE → Option Bool} {e : TD} {fe : FD} [hg : PuG g fg] [ht : PuT t ft] [he : PuX e fe] {M0 : Mem} {Γ : FE} {Γw : DE} {grd : Mem → Prop} {fin : List D → Mem → Prop} {Mg : Mem} (hgr : ∀ M2, Kp Mg M2 → grd M2) :
    ∀ (xs acc : List D) (M : Mem) (ys : List D), Rel M0 Γ Γw M → Kp Mg M → acc.length + xs.length ≤ sizeLine → lcF fg ft fe Γ xs = some ys → (∀ M', Kp M M' → fin (acc ++ ys) M') → lcL grd g t e Γw fin xs acc M
  | [], acc, M, ys, R, k, hl, h, q => by
    cases h
    refine ⟨hgr _ k, ?_⟩
    have := q M Kp.refl
    rw [List.append_nil] at this
    exact this
  | x :: xs, acc, M, ys, R, k, hl, h, q => by
    obtain ⟨Γ1, e1, h⟩ := bind_some h
    obtain ⟨b, e2, h⟩ := bind_some h
    rw [List.length_cons] at hl
    refine ⟨hgr _ k, hg.run R e1 fun Γw1 M1 k1 R1 => ht.run R1 e2 fun M2 k2 => ?_⟩
    cases b with
    | true =>
      rw [if_pos rfl] at h ⊢
      obtain ⟨y, e3, h⟩ := bind_some h
      obtain ⟨zs, e4, rfl⟩ := map_some h
      refine he.run (R1.keep k2) e3 fun M3 k3 => ⟨by omega, ?_⟩
      have kk := (k1.trans k2).trans k3
      refine lc_run hgr xs (acc ++ [y]) M3 zs (R.keep kk) (k.trans kk) (by rw [List.length_append, List.length_singleton]; omega) e4 fun M' k' => ?_
      rw [List.append_assoc]
      exact q M' (kk.trans k')
    | false =>
      rw [if_neg Bool.false_ne_true] at h ⊢
      have kk := k1.trans k2
      exact lc_run hgr xs acc M2 ys (R.keep kk) (k.trans kk) (by omega) h fun M' k' => q M' (kk.trans k')
instance puX_lc {di : TDI} {fi : FE → Option (List D)} {g : TDG} {fg : D → FE → Option FE} {e : TD} {fe : FD} {vs : List Nat} [hi : PuC di fi] [hg : PuG g fg] [ht : PuT t ft] [he : PuX e fe] : PuX (dLc di g t e vs) (fLc fi fg ft fe vs) := ⟨fun R h0 q => by
  obtain ⟨ys, h1, rfl⟩ := map_some h0
  obtain ⟨xs, e1, h⟩ := bind_some h1
  split at h
  · refine hi.run R e1 fun grd M1 k1 hgr => ?_
    exact lc_run hgr xs [] M1 ys ((R.keep k1).wipe vs) Kp.refl (by simpa using ‹_›) h fun M' k' => q M' (k1.trans k')
  · cases h⟩
instance puO_lc {di : TDI} {fi : FE → Option (List D)} {g : TDG} {fg : D → FE → Option FE} {e : TD} {fe : FD} {vs : List Nat} [hi : PuC di fi] [hg : PuG g fg] [ht : PuT t ft] [he : PuX e fe] : PuO (dLcM di g t e vs) (fLcM fi fg ft fe vs) := ⟨fun R h0 q => by
  obtain ⟨ys, h1, rfl⟩ := map_some h0
  obtain ⟨xs, e1, h⟩ := bind_some h1
  split at h
  · refine hi.run R e1 fun grd M1 k1 hgr => ?_
    exact lc_run hgr xs [] M1 ys ((R.keep k1).wipe vs) Kp.refl (by simpa using ‹_›) h fun M' k' p hp => q p _ ((k1.trans k').trans (Kp.refl.put hp)) ((k1.trans k').none hp) mput_same
  · cases h⟩
end
end DL

set_option Elab.async false
set_option linter.all false
set_option maxRecDepth 100000
set_option maxHeartbeats 4000000
/-! FL: calls, statements, whole defs as functions. -/
namespace DL
open PySem PySem.Spec PyProof.Rows L2
noncomputable section
variable {t u : TDT} {ft fu : FE → Option Bool} {a b c : TD} {fa fb fc : FD} {da db : TDA} {fA fB : FE → Option (List D)}
/-! ### calls -/
/-- a def that gives data | a new object of its own -/
def pureSp (F : List D → Option D) : DSp := fun ds M Q => ∃ es d, VWs M ds es ∧ F es = some d ∧ Q d M
def pureSpO (F : List D → Option OV) : DSp := fun ds M Q => ∃ es d, VWs M ds es ∧ F es = some d ∧ ∀ p, M p = none → Q (.ref p) (mput M p d.mo)
def fCall {α : Type} (F : List D → Option α) (dds : List D) (a : FE → Option (List D)) : FE → Option α := fun Γ => (a Γ).bind fun xs => F (xs ++ dds)
def fCallN {α : Type} (F : List D → Option α) (ix : List Nat) (n m : Nat) (dds : List D) (a b : FE → Option (List D)) : FE → Option α := fun Γ => (a Γ).bind fun xs => (b Γ).bind fun ys => if xs.length = n ∧ ys.length = m then F (pick ix (xs ++ (ys ++ dds))) else none
instance puX_call {F : List D → Option D} {dds : List D} [ha : PuA da fA] : PuX (dCall (pureSp F) dds da) (fCall F dds fA) := ⟨fun R e q => by
  obtain ⟨xs, e1, e⟩ := bind_some e
  exact ha.run R e1 fun y M1 k1 v1 => ⟨xs ++ dds, _, v1.append .refl, e, q _ k1⟩⟩
instance puO_call {F : List D → Option OV} {dds : List D} [ha : PuA da fA] : PuO (dCall (pureSpO F) dds da) (fCall F dds fA) := ⟨fun R e q => by
  obtain ⟨xs, e1, e⟩ := bind_some e
  exact ha.run R e1 fun y M1 k1 v1 => ⟨xs ++ dds, _, v1.append .refl, e, fun p hp => q p _ (k1.trans (Kp.refl.put hp)) (k1.none hp) mput_same⟩⟩
instance puX_callN {F : List D → Option D} {ix : List Nat} {n m : Nat} {dds : List D} [ha : PuA da fA] [hb : PuA db fB] : PuX (dCallN (pureSp F) ix n m dds da db) (fCallN F ix n m dds fA fB) := ⟨fun R e q => by
  obtain ⟨xs, e1, e⟩ := bind_some e
  obtain ⟨ys, e2, e⟩ := bind_some e
  split at e
  · rename_i h
    exact ha.run R e1 fun y M1 k1 v1 => hb.run (R.keep k1) e2 fun z M2 k2 v2 => ⟨by rw [v1.length]; exact h.1, by rw [v2.length]; exact h.2, _, _, ((v1.mono k2).append (v2.append .refl)).pick ix, e, q _ (k1.trans k2)⟩
  · cases e⟩
instance puO_callN {F : List D → Option OV} {ix : List Nat} {n m : Nat} {dds : List D} [ha : PuA da fA] [hb : PuA db fB] : PuO (dCallN (pureSpO F) ix n m dds da db) (fCallN F ix n m dds fA fB) := ⟨fun R e q => by
  obtain ⟨xs, e1, e⟩ := bind_some e
  obtain ⟨ys, e2, e⟩ := bind_some e
  split at e
  · rename_i h
    exact ha.run R e1 fun y M1 k1 v1 => hb.run (R.keep k1) e2 fun z M2 k2 v2 => ⟨by rw [v1.length]; exact h.1, by rw [v2.length]; exact h.2, _, _, ((v1.mono k2).append (v2.append .refl)).pick ix, e, fun p hp => q p _ ((k1.trans k2).trans (Kp.refl.put hp)) ((k1.trans k2).none hp) mput_same⟩
  · cases e⟩
/-- __init__ of a plain class: it gives the attributes' values -/
def makeSp (C : Addr) (ns : List Str) (F : List D → Option (List D)) : DSp := fun ds M Q => ∃ p xs es vs, ds = .ref p :: xs ∧ VWs M xs es ∧ M p = some (.ins C [] []) ∧ F es = some vs ∧ Q .non (mput M p (.ins C ns vs))
def fMake (C : Addr) (ns : List Str) (F : List D → Option (List D)) (dds : List D) (a : FE → Option (List D)) : FD := fun Γ => (a Γ).bind fun xs => (F (xs ++ dds)).map fun vs => .obj C ns vs
theorem mdel_mput' {M : Mem} {p : Addr} {o : MO} (h : M p = none) : mdel (mput M p o) p = M := by
  funext b
  unfold mdel mput
  by_cases e : b = p
  · subst e; simp [h]
  · simp [e]
instance puX_make {C : Addr} {ns : List Str} {F : List D → Option (List D)} {dds : List D} [ha : PuA da fA] : PuX (dMake C (makeSp C ns F) dds da) (fMake C ns F dds fA) := ⟨fun R e q => by
  obtain ⟨xs, e1, e⟩ := bind_some e
  obtain ⟨vs, e2, rfl⟩ := map_some e
  refine ha.run R e1 fun y M1 k1 v1 => fun p hp => ⟨p, _, _, vs, rfl, (v1.append .refl).mono (Kp.refl.put hp), mput_same, e2, rfl, ?_⟩
  rw [mput_mput, mput_same]
  show _
  simp only []
  rw [mdel_mput' hp]
  exact q _ k1⟩

/-! ### dicts of one's own: the name stands at i -/
def lookK (Γ : FE) (i : Nat) : Option (List (Key × D)) := (lookF Γ i).bind fun x => match x with
  | .o (.k kvs) => some kvs
  | _ => none
theorem lookK_of {M0 M : Mem} {Γ : FE} {Γw : DE} {i : Nat} {kvs : List (Key × D)} (r : Rel M0 Γ Γw M) (h : lookK Γ i = some kvs) : Γ[i]? = some (some (.o (.k kvs))) ∧ ∃ p, Γw[i]? = some (some (.ref p)) ∧ M0 p = none ∧ M p = some (.dic kvs) := by
  obtain ⟨x, e, h⟩ := bind_some h
  split at h
  · cases h
    have e := lookF_of e
    obtain ⟨y, e1, p, rfl, h2, h3⟩ := r.get i _ e
    exact ⟨e, p, e1, h2, h3⟩
  · cases h
def fGetK (i : Nat) (b : FD) : FD := fun Γ => (lookK Γ i).bind fun kvs => (b Γ).bind fun y => (dKey y).bind fun k => valD kvs k
def fInK (b : FD) (i : Nat) : FD := fun Γ => (b Γ).bind fun y => (lookK Γ i).bind fun kvs => (dKey y).map fun k => .bl (valD kvs k).isSome
def fNotInK (b : FD) (i : Nat) : FD := fun Γ => (b Γ).bind fun y => (lookK Γ i).bind fun kvs => (dKey y).map fun k => .bl (!(valD kvs k).isSome)
def fLenK (i : Nat) : FD := fun Γ => (lookK Γ i).map fun kvs => .int (kvs.length : Nat)
def fListK (i : Nat) : FD := fun Γ => (lookK Γ i).map fun kvs => .lst (kvs.map fun kv => keyD kv.1)
theorem dKey_vw {M : Mem} {y d : D} {k : Key} (v : VW M y d) (h : dKey d = some k) : y = d := v.eq fun ds e => by rw [e] at h; cases h
instance {i : Nat} [hb : PuV b fb] : PuX (dGetK (dVar i) b) (fGetK i fb) := ⟨fun {M0 Γ Γw M x Q} R e q => by
  obtain ⟨kvs, e1, e⟩ := bind_some e
  obtain ⟨y, e2, e⟩ := bind_some e
  obtain ⟨k, e3, e⟩ := bind_some e
  obtain ⟨_, p, h1, h2, h3⟩ := lookK_of R e1
  refine look_at h1 (hb.run R e2 fun y' M1 k1 v1 => ?_)
  cases dKey_vw v1 e3
  exact ⟨p, kvs, k, x, dicAt_ref (k1 _ _ h3), e3, e, q _ k1⟩⟩
instance {i : Nat} [hb : PuV b fb] : PuX (dInK b (dVar i)) (fInK fb i) := ⟨fun {M0 Γ Γw M x Q} R e q => by
  obtain ⟨y, e2, e⟩ := bind_some e
  obtain ⟨kvs, e1, e⟩ := bind_some e
  obtain ⟨k, e3, rfl⟩ := map_some e
  refine hb.run R e2 fun y' M1 k1 v1 => ?_
  obtain ⟨_, p, h1, h2, h3⟩ := lookK_of (R.keep k1) e1
  cases dKey_vw v1 e3
  exact look_at h1 ⟨p, kvs, k, dicAt_ref h3, e3, q _ k1⟩⟩
instance {i : Nat} [hb : PuV b fb] : PuX (dNotInK b (dVar i)) (fNotInK fb i) := ⟨fun {M0 Γ Γw M x Q} R e q => by
  obtain ⟨y, e2, e⟩ := bind_some e
  obtain ⟨kvs, e1, e⟩ := bind_some e
  obtain ⟨k, e3, rfl⟩ := map_some e
  refine hb.run R e2 fun y' M1 k1 v1 => ?_
  obtain ⟨_, p, h1, h2, h3⟩ := lookK_of (R.keep k1) e1
  cases dKey_vw v1 e3
  exact look_at h1 ⟨p, kvs, k, dicAt_ref h3, e3, q _ k1⟩⟩
def fDicNew : FE → Option OV := fun _ => some (.k [])
instance : PuO dDicNew fDicNew := ⟨fun R e q => by cases e; exact fun p hp => q p _ (Kp.refl.put hp) hp mput_same⟩
/-- a dict written out -/
def fPairs : List (FD × FD) → FE → Option (List (Key × D))
  | [], _ => some []
  | (k, v) :: r, Γ => (k Γ).bind fun x => (dKey x).bind fun kk => (v Γ).bind fun y => (fPairs r Γ).map ((kk, y) :: ·)
def fDisp (prs : List (FD × FD)) : FE → Option OV := fun Γ => (fPairs prs Γ).bind fun kvs => if kvs.length ≤ 15 then some (.k (mergeD [] kvs)) else none

/-! ### statements -/
def fNext : FS := fun Γ => some (.nx Γ)
def fBreak : FS := fun Γ => some (.bk Γ)
def fCont : FS := fun Γ => some (.ct Γ)
def thenF (u : FS) : FOut → Option FOut
  | .nx Γ => u Γ
  | .rt x => some (.rt x)
  | .bk Γ => some (.bk Γ)
  | .ct Γ => some (.ct Γ)
def fSeq (t u : FS) : FS := fun Γ => (t Γ).bind (thenF u)
def fDrop (a : FD) : FS := fun Γ => (a Γ).map fun _ => .nx Γ
def fRet (a : FD) : FS := fun Γ => (a Γ).map fun x => .rt (.v x)
def fRetO (a : FE → Option OV) : FS := fun Γ => (a Γ).map fun x => .rt (.o x)
def rtv : FV → Option FOut
  | .v d => some (.rt (.v d))
  | .o x => some (.rt (.o x))
  | .w _ => none
def fRetVar (i : Nat) : FS := fun Γ => (lookF Γ i).bind rtv
def fRetN : FS := fun _ => some (.rt (.v .non))
def fIfS (t : FE → Option Bool) (u w : FS) : FS := fun Γ => (t Γ).bind fun c => if c = true then u Γ else w Γ
def fNever : FS := fun _ => none
def fAsg (a : FD) (g : D → FE → Option FE) : FS := fun Γ => (a Γ).bind fun x => (g x Γ).map .nx
def fAsgO (a : FE → Option OV) (i : Nat) : FS := fun Γ => (a Γ).map fun x => .nx (Γ.set i (some (.o x)))
def fAug (i : Nat) (r : D → D → Option D) (a : FD) : FS := fun Γ => (fVarX i Γ).bind fun x => (a Γ).bind fun y => (r x y).map fun z => .nx (Γ.set i (some (.v z)))
variable {s s1 s2 : TDS} {fs fs1 fs2 : FS}
instance puS_next : PuS dNext fNext := ⟨fun R e q => by cases e; exact q _ _ R⟩
instance : PuS dBreak fBreak := ⟨fun R e q => by cases e; exact q _ _ R⟩
instance : PuS dCont fCont := ⟨fun R e q => by cases e; exact q _ _ R⟩
instance puS_seq [h1 : PuS s1 fs1] [h2 : PuS s2 fs2] : PuS (dSeq s1 s2) (fSeq fs1 fs2) := ⟨fun {M0 Γ Γw M o E} R e q => by
  obtain ⟨o1, e1, e⟩ := bind_some e
  refine h1.run R e1 ?_
  cases o1 with
  | nx Γ1 => exact fun Γw1 M1 R1 => h2.run R1 e q
  | rt x => cases e; exact q
  | bk x => cases e; exact q
  | ct x => cases e; exact q⟩
instance [ha : PuV a fa] : PuS (dDrop a) (fDrop fa) := ⟨fun R e q => by
  obtain ⟨x, e1, rfl⟩ := map_some e
  exact ha.run R e1 fun y M1 k1 _ => q _ _ (R.keep k1)⟩
instance puS_ret [ha : PuX a fa] : PuS (dRet a) (fRet fa) := ⟨fun R e q => by
  obtain ⟨x, e1, rfl⟩ := map_some e
  exact ha.run R e1 fun M1 k1 => q _ _ (R.kp.trans k1) rfl⟩
instance {oa : FE → Option OV} [ha : PuO a oa] : PuS (dRet a) (fRetO oa) := ⟨fun R e q => by
  obtain ⟨x, e1, rfl⟩ := map_some e
  exact ha.run R e1 fun p M1 k1 h0 h1 => q _ _ (R.kp.trans k1) ⟨p, rfl, R.kp.none h0, h1⟩⟩
instance {i : Nat} : PuS (dRet (dVar i)) (fRetVar i) := ⟨fun {M0 Γ Γw M o E} R e q => by
  obtain ⟨z, e1, e⟩ := bind_some e
  obtain ⟨y, h1, s⟩ := R.get i z (lookF_of e1)
  refine look_at h1 ?_
  cases z with
  | v d => cases e; cases s; exact q _ _ R.kp rfl
  | w d => cases e
  | o x => cases e; obtain ⟨p, rfl, h2, h3⟩ := s; exact q _ _ R.kp ⟨p, rfl, h2, h3⟩⟩
instance : PuS dRetN fRetN := ⟨fun R e q => by cases e; exact q _ _ R.kp rfl⟩
instance puS_if [ht : PuT t ft] [h1 : PuS s1 fs1] [h2 : PuS s2 fs2] : PuS (dIfS t s1 s2) (fIfS ft fs1 fs2) := ⟨fun R e q => by
  obtain ⟨c, e1, e⟩ := bind_some e
  refine ht.run R e1 fun M1 k1 => ?_
  cases c with
  | true => rw [if_pos rfl] at e ⊢; exact h1.run (R.keep k1) e q
  | false => rw [if_neg Bool.false_ne_true] at e ⊢; exact h2.run (R.keep k1) e q⟩
instance : PuS s fNever := ⟨fun R e q => by cases e⟩
instance puS_asg {g : TDG} {fg : D → FE → Option FE} [ha : PuX a fa] [hg : PuG g fg] : PuS (dAsg a g) (fAsg fa fg) := ⟨fun R e q => by
  obtain ⟨x, e1, e⟩ := bind_some e
  obtain ⟨Γ1, e2, rfl⟩ := map_some e
  exact ha.run R e1 fun M1 k1 => hg.run (R.keep k1) e2 fun Γw1 M2 k2 R2 => q _ _ R2⟩
instance puS_asgO {oa : FE → Option OV} {i : Nat} [ha : PuO a oa] : PuS (dAsg a (dgName i)) (fAsgO oa i) := ⟨fun R e q => by
  obtain ⟨x, e1, rfl⟩ := map_some e
  exact ha.run R e1 fun p M1 k1 h0 h1 => q _ _ (R.setO i k1 h0 h1)⟩
instance {i : Nat} {r : R2D} {f : D → D → Option D} [hr : Op2 r f] [ha : PuV a fa] : PuS (dAug i r a) (fAug i f fa) := ⟨fun {M0 Γ Γw M o E} R e q => by
  obtain ⟨x, e0, e⟩ := bind_some e
  obtain ⟨z0, e1, e2⟩ := bind_some e0
  obtain ⟨y, e3, e⟩ := bind_some e
  obtain ⟨z, e4, rfl⟩ := map_some e
  obtain ⟨y0, h1, s⟩ := R.get i z0 (lookF_of e1)
  cases z0 with
  | v d => cases e2; cases s; exact look_at h1 (ha.run R e3 fun y' M1 k1 v1 => hr.run (.inl rfl) v1 e4 (q _ _ ((R.keep k1).setV i _)))
  | _ => cases e2⟩
/-! side by side: data and new objects -/
def fMNil : FE → Option (List FV) := fun _ => some []
def fMX (a : FD) (r : FE → Option (List FV)) : FE → Option (List FV) := fun Γ => (a Γ).bind fun x => (r Γ).map (.v x :: ·)
def fMO (a : FE → Option OV) (r : FE → Option (List FV)) : FE → Option (List FV) := fun Γ => (a Γ).bind fun x => (r Γ).map (.o x :: ·)
inductive MR : Mem → Mem → List D → List FV → Prop
  | nil {M M' : Mem} : Kp M M' → MR M M' [] []
  | v {M M1 M' : Mem} {d : D} {ys : List D} {xs : List FV} : Kp M M1 → MR M1 M' ys xs → MR M M' (d :: ys) (.v d :: xs)
  | o {M M1 M' : Mem} {p : Addr} {x : OV} {ys : List D} {xs : List FV} : Kp M M1 → M p = none → M1 p = some x.mo → MR M1 M' ys xs → MR M M' (.ref p :: ys) (.o x :: xs)
theorem MR.kp : ∀ {M M' : Mem} {ys : List D} {xs : List FV}, MR M M' ys xs → Kp M M'
  | _, _, _, _, .nil k => k
  | _, _, _, _, .v k r => k.trans (MR.kp r)
  | _, _, _, _, .o k _ _ r => k.trans (MR.kp r)
class PuM (d : TDA) (f : FE → Option (List FV)) : Prop where
  run : ∀ {M0 Γ Γw M x} {Q : List D → Mem → Prop}, Rel M0 Γ Γw M → f Γ = some x → (∀ y M', MR M M' y x → Q y M') → d Γw M Q
instance : PuM dNil fMNil := ⟨fun R e q => by cases e; exact q [] _ (.nil Kp.refl)⟩
instance {fr : FE → Option (List FV)} [ha : PuX a fa] [hr : PuM da fr] : PuM (dCons a da) (fMX fa fr) := ⟨fun R e q => by
  obtain ⟨x, e1, e⟩ := bind_some e
  obtain ⟨xs, e2, rfl⟩ := map_some e
  exact ha.run R e1 fun M1 k1 => hr.run (R.keep k1) e2 fun y M2 r2 => q _ M2 (.v k1 r2)⟩
instance {oa : FE → Option OV} {fr : FE → Option (List FV)} [ha : PuO a oa] [hr : PuM da fr] : PuM (dCons a da) (fMO oa fr) := ⟨fun R e q => by
  obtain ⟨x, e1, e⟩ := bind_some e
  obtain ⟨xs, e2, rfl⟩ := map_some e
  exact ha.run R e1 fun p M1 k1 h0 h1 => hr.run (R.keep k1) e2 fun y M2 r2 => q _ M2 (.o k1 h0 h1 r2)⟩
def setManyF : List Nat → List FV → FE → FE
  | i :: is, x :: xs, Γ => setManyF is xs (Γ.set i (some x))
  | _, _, Γ => Γ
theorem MR.set {M0 M M' : Mem} {ys : List D} {xs : List FV} (r : MR M M' ys xs) : ∀ {is : List Nat} {Γ : FE} {Γw : DE}, Rel M0 Γ Γw M → Rel M0 (setManyF is xs Γ) (setMany is ys Γw) M' := by
  induction r with
  | nil k => intro is Γ Γw R; cases is <;> exact R.keep k
  | v k r ih =>
    intro is Γ Γw R
    cases is with
    | nil => exact R.keep (k.trans r.kp)
    | cons i is => exact ih ((R.keep k).setV i _)
  | o k h0 h1 r ih =>
    intro is Γ Γw R
    cases is with
    | nil => exact R.keep (k.trans r.kp)
    | cons i is => exact ih (R.setO i k h0 h1)
theorem MR.length {M M' : Mem} {ys : List D} {xs : List FV} (r : MR M M' ys xs) : ys.length = xs.length := by
  induction r with
  | nil => rfl
  | v _ _ ih => rw [List.length_cons, List.length_cons, ih]
  | o _ _ _ _ ih => rw [List.length_cons, List.length_cons, ih]
def fPar (is : List Nat) (a : FE → Option (List FV)) : FS := fun Γ => (a Γ).bind fun xs => if xs.length = is.length then some (.nx (setManyF is xs Γ)) else none
instance puS_par {is : List Nat} {fm : FE → Option (List FV)} [ha : PuM da fm] : PuS (dPar is da) (fPar is fm) := ⟨fun R e q => by
  obtain ⟨x, e1, e⟩ := bind_some e
  split at e
  · rename_i h
    cases e
    exact ha.run R e1 fun y M1 r1 => ⟨by rw [r1.length]; exact h, q _ _ (r1.set R)⟩
  · cases e⟩
/-- n names = n values through a tuple -/
def dgNames : List Nat → TDGs
  | [] => dgNil
  | i :: is => dgCons (dgName i) (dgNames is)
class Names (g : TDGs) (is : List Nat) : Prop where
  eq : g = dgNames is
instance : Names dgNil [] := ⟨rfl⟩
instance {g : TDGs} {i : Nat} {is : List Nat} [h : Names g is] : Names (dgCons (dgName i) g) (i :: is) := ⟨by rw [h.eq]; rfl⟩
theorem names_set : ∀ {is : List Nat} {ys : List D} {Γ : DE} {M : Mem} {Q : DE → Mem → Prop}, ys.length = is.length → Q (setMany is ys Γ) M → dgNames is ys Γ M Q
  | [], [], _, _, _, _, q => ⟨rfl, q⟩
  | i :: is, y :: ys, _, _, _, h, q => names_set (is := is) (ys := ys) (by simpa using h) q
  | [], _ :: _, _, _, _, h, _ => by cases h
  | _ :: _, [], _, _, _, h, _ => by cases h
def fTupM (n : Nat) (is : List Nat) (fm : FE → Option (List FV)) : FS := fun Γ => (fPar is fm Γ).bind fun o => if is.length = n ∧ n ≤ sizeLine then some o else none
instance puS_tupM {n : Nat} {g : TDGs} {is : List Nat} {fm : FE → Option (List FV)} [hg : Names g is] [ha : PuM da fm] : PuS (dAsg (dTup da) (dgTup n g)) (fTupM n is fm) := ⟨fun R e0 q => by
  obtain ⟨x, e1, e2⟩ := bind_some e0
  split at e2
  · rename_i hn
    cases e2
    obtain ⟨x, e4, e5⟩ := bind_some e1
    split at e5
    · rename_i h
      cases e5
      refine ha.run R e4 fun y M1 r1 => ⟨by rw [r1.length, h, hn.1]; exact hn.2, by rw [r1.length, h]; exact hn.1, ?_⟩
      rw [hg.eq]
      exact names_set (by rw [r1.length]; exact h) (q _ _ (r1.set R))
    · cases e5
  · cases e2⟩
/-! loops -/
def forF (g : D → FE → Option FE) (b : FS) : List D → FS
  | [], Γ => some (.nx Γ)
  | x :: xs, Γ => (g x Γ).bind fun Γ1 => (b Γ1).bind fun o => match o with
    | .nx Γ2 => forF g b xs Γ2
    | .ct Γ2 => forF g b xs Γ2
    | .bk Γ2 => some (.nx Γ2)
    | .rt x => some (.rt x)
def fFor (it : FE → Option (List D)) (g : D → FE → Option FE) (b : FS) : FS := fun Γ => (it Γ).bind fun xs => forF g b xs Γ
theorem for_run {g : TDG} {fg : D → FE → Option FE} {b : TDS} {fb : FS} [hg : PuG g fg] [hb : PuS b fb] {M0 : Mem} {grd : Mem → Prop} {E : DEnds} {o : FOut} (hgr : ∀ M2, Kp M0 M2 → grd M2) (q : Fin M0 E o) :
    ∀ (xs : List D) (Γ : FE) (Γw : DE) (M : Mem), Rel M0 Γ Γw M → forF fg fb xs Γ = some o → forL grd g b E xs Γw M
  | [], Γ, Γw, M, R, e => by cases e; exact ⟨hgr _ R.kp, q _ _ R⟩
  | x :: xs, Γ, Γw, M, R, e => by
    obtain ⟨Γ1, e1, e⟩ := bind_some e
    obtain ⟨o1, e2, e⟩ := bind_some e
    refine ⟨hgr _ R.kp, hg.run R e1 fun Γw1 M1 k1 R1 => hb.run R1 e2 ?_⟩
    cases o1 with
    | nx Γ2 => exact fun Γw2 M2 R2 => for_run hgr q xs Γ2 Γw2 M2 R2 e
    | ct Γ2 => exact fun Γw2 M2 R2 => for_run hgr q xs Γ2 Γw2 M2 R2 e
    | bk Γ2 => cases e; exact q
    | rt x => cases e; exact q
instance puS_for {di : TDI} {fi : FE → Option (List D)} {g : TDG} {fg : D → FE → Option FE} [hi : PuI di fi] [hg : PuG g fg] [hb : PuS s fs] : PuS (dFor di g s) (fFor fi fg fs) := ⟨fun R e q => by
  obtain ⟨xs, e1, e⟩ := bind_some e
  exact hi.run R e1 fun grd M1 k1 hgr => for_run hgr q xs _ _ M1 (R.keep k1) e⟩
def whileF (c : FE → Option Bool) (b : FS) : Nat → FS
  | 0, _ => none
  | n + 1, Γ => (c Γ).bind fun k => if k = true then (b Γ).bind fun o => match o with
    | .nx Γ2 => whileF c b n Γ2
    | .ct Γ2 => whileF c b n Γ2
    | .bk Γ2 => some (.nx Γ2)
    | .rt x => some (.rt x) else some (.nx Γ)
def FUEL : Nat := 1000000
def fWhile (c : FE → Option Bool) (b : FS) : FS := fun Γ => whileF c b FUEL Γ
instance puS_while [ht : PuT t ft] [hb : PuS s fs] : PuS (dWhile t s) (fWhile ft fs) := ⟨fun {M0 Γ Γw M o E} R e q => by
  refine ⟨fun m Γw M => ∃ Γ, Rel M0 Γ Γw M ∧ whileF ft fs m Γ = some o, ⟨FUEL, Γ, R, e⟩, ?_⟩
  rintro m Γw M ⟨Γ, R, e⟩
  cases m with
  | zero => cases e
  | succ n =>
    obtain ⟨k, e1, e⟩ := bind_some e
    refine ht.run R e1 fun M1 k1 => ?_
    cases k with
    | false => rw [if_neg Bool.false_ne_true] at e ⊢; cases e; exact q _ _ (R.keep k1)
    | true =>
      rw [if_pos rfl] at e ⊢
      obtain ⟨o1, e2, e⟩ := bind_some e
      refine ⟨fun Γw M => ∃ Γ, Rel M0 Γ Γw M ∧ whileF ft fs n Γ = some o, fun Γ' M' ⟨Γ2, R2, e2⟩ => ⟨n, Nat.lt_succ_self n, Γ2, R2, e2⟩, ?_⟩
      refine hb.run (R.keep k1) e2 ?_
      cases o1 with
      | nx Γ2 => exact fun Γw2 M2 R2 => ⟨Γ2, R2, e⟩
      | ct Γ2 => exact fun Γw2 M2 R2 => ⟨Γ2, R2, e⟩
      | bk Γ2 => cases e; exact q
      | rt x => cases e; exact q⟩
/-! changes of one's own lists and dicts -/
def lookL (Γ : FE) (i : Nat) : Option (List D) := (lookF Γ i).bind fun x => match x with
  | .o (.l ds) => some ds
  | _ => none
theorem lookL_of {M0 M : Mem} {Γ : FE} {Γw : DE} {i : Nat} {ds : List D} (r : Rel M0 Γ Γw M) (h : lookL Γ i = some ds) : Γ[i]? = some (some (.o (.l ds))) ∧ ∃ p, Γw[i]? = some (some (.ref p)) ∧ M0 p = none ∧ M p = some (.lst ds) := by
  obtain ⟨x, e, h⟩ := bind_some h
  split at h
  · cases h
    have e := lookF_of e
    obtain ⟨y, e1, p, rfl, h2, h3⟩ := r.get i _ e
    exact ⟨e, p, e1, h2, h3⟩
  · cases h
def fApp (i : Nat) (a : FD) : FS := fun Γ => (lookL Γ i).bind fun ds => (a Γ).bind fun y => if ds.length < sizeLine then some (.nx (Γ.set i (some (.o (.l (ds ++ [y])))))) else none
instance {i : Nat} [ha : PuX a fa] : PuS (dDrop (dBM appD (dVar i) (dCons a dNil))) (fApp i fa) := ⟨fun {M0 Γ Γw M o E} R e q => by
  obtain ⟨ds, e1, e⟩ := bind_some e
  obtain ⟨y, e2, e⟩ := bind_some e
  split at e
  · rename_i hl
    cases e
    obtain ⟨h0, p, h1, h2, h3⟩ := lookL_of R e1
    refine look_at h1 ⟨isLst_ref h3, ha.run R e2 fun M1 k1 => ?_⟩
    show appD (.ref p) [y] M1 (fun _ M2 => E.nx Γw M2)
    unfold appD
    simp only [k1 _ _ h3]
    exact ⟨hl, q _ _ (R.write (x' := .l (ds ++ [y])) h0 h1 k1)⟩
  · cases e⟩
def fPutL (i : Nat) (k a : FD) : FS := fun Γ => (a Γ).bind fun y => (lookL Γ i).bind fun ds => (k Γ).bind fun x => (asI x).bind fun j => (ixN ds.length j).map fun n => .nx (Γ.set i (some (.o (.l (ds.set n y)))))
instance {i : Nat} [hb : PuV b fb] [ha : PuX a fa] : PuS (dAsg a (dgSub (dVar i) b)) (fPutL i fb fa) := ⟨fun {M0 Γ Γw M o E} R e q => by
  obtain ⟨y, e2, e⟩ := bind_some e
  obtain ⟨ds, e1, e⟩ := bind_some e
  obtain ⟨x, e3, e⟩ := bind_some e
  obtain ⟨j, e4, e5⟩ := bind_some e
  obtain ⟨n, e6, rfl⟩ := map_some e5
  cases asI_of e4
  refine ha.run R e2 fun M1 k1 => ?_
  obtain ⟨h0, p, h1, h2, h3⟩ := lookL_of (R.keep k1) e1
  refine look_at h1 (hb.run (R.keep k1) e3 fun x' M2 k2 v2 => ?_)
  cases v2.int
  show match M2 p with | some (.lst xs) => _ | _ => _
  rw [k2 _ _ h3]
  show match ixN ds.length j with | some j => _ | none => _
  rw [e6]
  exact q _ _ (R.write (x' := .l (ds.set n y)) h0 h1 (k1.trans k2))⟩
def fPutK (i : Nat) (k a : FD) : FS := fun Γ => (a Γ).bind fun y => (lookK Γ i).bind fun kvs => (k Γ).bind fun x => (dKey x).bind fun kk => if kvs.length < sizeLine then some (.nx (Γ.set i (some (.o (.k (putD kvs kk y)))))) else none
instance {i : Nat} [hb : PuV b fb] [ha : PuX a fa] : PuS (dPutK (dVar i) b a) (fPutK i fb fa) := ⟨fun {M0 Γ Γw M o E} R e q => by
  obtain ⟨y, e2, e⟩ := bind_some e
  obtain ⟨kvs, e1, e⟩ := bind_some e
  obtain ⟨x, e3, e⟩ := bind_some e
  obtain ⟨kk, e4, e⟩ := bind_some e
  split at e
  · rename_i hl
    cases e
    refine ha.run R e2 fun M1 k1 => ?_
    obtain ⟨h0, p, h1, h2, h3⟩ := lookK_of (R.keep k1) e1
    refine look_at h1 (hb.run (R.keep k1) e3 fun x' M2 k2 v2 => ?_)
    cases dKey_vw v2 e4
    exact ⟨p, kvs, kk, dicAt_ref (k2 _ _ h3), e4, hl, q _ _ (R.write (x' := .k (putD kvs kk y)) h0 h1 (k1.trans k2))⟩
  · cases e⟩

/-! ### whole defs -/
def toW : D → FV
  | .lst ds => .w (.lst ds)
  | d => .v d
def startF (N : List Str) (ds : List D) : FE := ds.map (fun d => some (toW d)) ++ List.replicate (N.length - ds.length) none
theorem vw_toW {M : Mem} {y d : D} (h : VW M y d) : SR M M (toW d) y := by
  rcases h with rfl | ⟨p, ds, rfl, h2, rfl⟩
  · cases y <;> first | rfl | exact .inl rfl
  · exact .inr ⟨p, ds, rfl, h2, rfl⟩
theorem toW_own {d : D} {x : OV} : toW d ≠ .o x := by cases d <;> (intro e; cases e)
theorem start_get {N : List Str} {ds : List D} {i : Nat} {x : FV} (h : (startF N ds)[i]? = some (some x)) : ∃ d, ds[i]? = some d ∧ x = toW d := by
  unfold startF at h
  by_cases hi : i < ds.length
  · rw [List.getElem?_append_left (by simpa using hi), List.getElem?_map] at h
    cases e : ds[i]? with
    | none => rw [e] at h; cases h
    | some d => rw [e] at h; cases h; exact ⟨d, rfl, rfl⟩
  · rw [List.getElem?_append_right (by simpa using hi), List.getElem?_replicate] at h
    split at h <;> cases h
theorem Rel.start {N : List Str} {M : Mem} {ds es : List D} (v : VWs M ds es) : Rel M (startF N es) (startD N ds) M := by
  refine ⟨Kp.refl, by unfold startF startD; simp [v.length], fun i x h => ?_, fun i j x x' p ne h1 h2 h3 => ?_⟩
  · obtain ⟨d, e, rfl⟩ := start_get h
    obtain ⟨y, e1, v1⟩ := v.get e
    refine ⟨y, ?_, vw_toW v1⟩
    have hi : i < ds.length := (List.getElem?_eq_some_iff.mp e1).1
    unfold startD
    rw [List.getElem?_append_left (by simpa using hi), List.getElem?_map, e1]; rfl
  · obtain ⟨d, _, e⟩ := start_get h1
    exact absurd e.symm toW_own
def retV : FOut → Option D
  | .rt (.v d) => some d
  | .rt (.o (.l ds)) => some (.lst ds)
  | .nx _ => some .non
  | _ => none
def retO : FOut → Option OV
  | .rt (.o d) => some d
  | _ => none
def runF (N : List Str) (n : Nat) (f : FS) (ds : List D) : Option D := if ds.length = n then (f (startF N ds)).bind retV else none
def runO (N : List Str) (n : Nat) (f : FS) (ds : List D) : Option OV := if ds.length = n then (f (startF N ds)).bind retO else none
theorem runF_len {N : List Str} {n : Nat} {f : FS} {ds : List D} {d : D} (h : runF N n f ds = some d) : ds.length = n := by
  unfold runF at h
  split at h
  · assumption
  · cases h
theorem runO_len {N : List Str} {n : Nat} {f : FS} {ds : List D} {d : OV} (h : runO N n f ds = some d) : ds.length = n := by
  unfold runO at h
  split at h
  · assumption
  · cases h
/-- what is no longer needed may be forgotten; a list given back may be taken as one that never changes -/
def gcQ (Q : QD) : QD := fun x M' => (∃ M1, Kp M1 M' ∧ Q x M1) ∨ ∃ p ds M1, x = .ref p ∧ M' p = some (.lst ds) ∧ Kp M1 (mdel M' p) ∧ Q (.lst ds) M1
theorem pure_sem {N : List Str} {n : Nat} {b : TDS} {f : FS} (h : PuS b f) : ∀ ds M Q, pureSp (runF N n f) ds M Q → b { nx := fun _ M => gcQ Q .non M, rt := gcQ Q } (startD N ds) M := by
  rintro ds M Q ⟨es, d, v, e, q⟩
  have e : (f (startF N es)).bind retV = some d := by
    unfold runF at e
    split at e
    · exact e
    · cases e
  obtain ⟨o, e1, e⟩ := bind_some e
  refine h.run (Rel.start v) e1 ?_
  cases o with
  | nx Γ => cases e; exact fun Γw M' R => .inl ⟨M, R.kp, q⟩
  | rt x =>
    cases x with
    | v d => cases e; rintro y M' k rfl; exact .inl ⟨M, k, q⟩
    | w d => cases e
    | o x =>
      cases x with
      | l ds =>
        cases e
        rintro y M' k ⟨p, rfl, h0, h1⟩
        refine .inr ⟨p, ds, M, rfl, h1, fun a o ea => ?_, q⟩
        rw [mdel_ne (fun z => by rw [z, h0] at ea; cases ea)]
        exact k _ _ ea
      | _ => cases e
  | _ => cases e
theorem pure_semO {N : List Str} {n : Nat} {b : TDS} {f : FS} (h : PuS b f) : ∀ ds M Q, pureSpO (runO N n f) ds M Q → b { nx := fun _ M => gcQ Q .non M, rt := gcQ Q } (startD N ds) M := by
  rintro ds M Q ⟨es, d, v, e, q⟩
  have e : (f (startF N es)).bind retO = some d := by
    unfold runO at e
    split at e
    · exact e
    · cases e
  obtain ⟨o, e1, e⟩ := bind_some e
  refine h.run (Rel.start v) e1 ?_
  cases o with
  | rt x =>
    cases x with
    | o d =>
      cases e
      rintro y M' k ⟨p, rfl, h0, h1⟩
      refine .inl ⟨_, ?_, q p h0⟩
      intro a u ea
      by_cases ap : a = p
      · subst ap; rw [mput_same] at ea; cases ea; exact h1
      · rw [mput_ne ap] at ea; exact k _ _ ea
    | _ => cases e
  | _ => cases e
/-- garbage in, garbage out -/
theorem sem_gc {N : List Str} {b : TDS} {S : DSp} (mono : ∀ ds M (Q R : QD), (∀ x M', Q x M' → R x M') → S ds M Q → S ds M R) (h : ∀ ds M Q, S ds M Q → b { nx := fun _ M => Q .non M, rt := Q } (startD N ds) M) : ∀ ds M Q, S ds M Q → b { nx := fun _ M => gcQ Q .non M, rt := gcQ Q } (startD N ds) M := fun ds M Q s =>
  h ds M (gcQ Q) (mono ds M Q _ (fun x M' q => .inl ⟨M', Kp.refl, q⟩) s)
theorem CV.gc {K : PySem.W.Frag} {F H : Hp} {M : Mem} {Q : QD} {R : VK} (c : CV K F H M Q R) : CV K F H M (gcQ Q) R := by
  rintro v F' H' M' x g k r (⟨M1, kp, q⟩ | ⟨p, ds, M1, rfl, hp, kp, q⟩)
  · refine c v F' H' M1 x ⟨g.ext, fun a o h1 h2 h3 => ?_⟩ ⟨k.sub, fun a o e => k.mem a o (kp a o e)⟩ r q
    have z := g.fr a o h1 h2 h3
    exact ⟨z.1, z.2.1, kp.none z.2.2⟩
  · cases r
    obtain ⟨vs, hv, k2, g2, r2⟩ := k.freezeL hp
    have g3 := g.trans g2
    refine c _ _ H' M1 _ ⟨g3.ext, fun a o h1 h2 h3 => ?_⟩ ⟨k2.sub, fun a o e => k2.mem a o (kp a o e)⟩ r2 q
    have z := g3.fr a o h1 h2 h3
    exact ⟨z.1, z.2.1, kp.none z.2.2⟩
section
variable {P : Program} {w : World} {K : PySem.W.Frag} {mg : Str → Option Value} {base : Heap} {x qual : Str} {pa : Arguments} {body : List Stmt} {scope : Scope} {dvs : List V} {kws : List (Str × V)} {f : Addr} {fd : FuncData}
theorem fn_g {N ps : List Str} {k : Nat} {S : DSp} {d : TDS} (F : FunD K x qual pa body scope dvs kws f fd) (Sc : FnScope N ps scope) (len : ∀ ds M Q, S ds M Q → ds.length = ps.length)
    (hbody : ∀ (cdv : Value) (A : Around) (outer : List Env) (s : Shared) (H : Hp) (E : XK), Room k (A.deeper (envOfC qual scope s.heap.objs.size f cdv)) → ∃ t, PDSs (cxOf CX0 P w K mg base N qual scope f cdv A outer s H E).nox body t d)
    (hsem : ∀ ds M Q, S ds M Q → d { nx := fun _ M => gcQ Q .non M, rt := gcQ Q } (startD N ds) M) : FnOk P w K mg base CX0 (k + 1) f fd ps (spD K S) := by
  refine F.ok Sc (fun vs H Q E h => ?_) (fun cdv A outer s H vs Q E hr h => ?_)
  · obtain ⟨F, M, ds, Q0, _, r, h, _⟩ := h
    rw [r.length]
    exact len ds M Q0 h
  · obtain ⟨t, q⟩ := hbody cdv A outer s H E hr
    refine ⟨t, q.pe.nox, ?_⟩
    obtain ⟨F, M, ds, Q0, k, r, h, c⟩ := h
    have c := c.gc
    exact q.sim F H M (L2.start N vs) (startD N ds) _ _ k (SRel.start r) (hsem ds M Q0 h) (fun σ F' H' M' Γ g k' s h => c .non F' H' M' .non g k' .non h) c
      (fun σ F' H' M' Γ g k' s h => h.elim) (fun σ F' H' M' Γ g k' s h => h.elim)
end
end
end DL

set_option Elab.async false
set_option linter.all false
set_option maxRecDepth 100000
set_option maxHeartbeats 4000000
/-! FL: more: dicts, index, __init__. -/
namespace DL
open PySem PySem.Spec PyProof.Rows L2
noncomputable section
variable {t u : TDT} {ft fu : FE → Option Bool} {a b c : TD} {fa fb fc : FD} {da db : TDA} {fA fB : FE → Option (List D)}
instance {i : Nat} : PuX (dCB lenKD (dCons (dVar i) dNil)) (fLenK i) := ⟨fun {M0 Γ Γw M x Q} R e q => by
  obtain ⟨kvs, e1, rfl⟩ := map_some e
  obtain ⟨_, p, h1, h2, h3⟩ := lookK_of R e1
  refine look_at h1 ?_
  show lenKD [.ref p] M Q
  unfold lenKD
  simp only [dicAt_ref h3]
  exact ⟨p, kvs, rfl, q _ Kp.refl⟩⟩
instance {i : Nat} : PuX (dCB listKD (dCons (dVar i) dNil)) (fListK i) := ⟨fun {M0 Γ Γw M x Q} R e q => by
  obtain ⟨kvs, e1, rfl⟩ := map_some e
  obtain ⟨_, p, h1, h2, h3⟩ := lookK_of R e1
  refine look_at h1 ?_
  show listKD [.ref p] M Q
  unfold listKD
  simp only [dicAt_ref h3]
  exact ⟨p, kvs, rfl, q _ Kp.refl⟩⟩
open Classical in
/-- the first place of a plain value -/
def fo_index (x y : D) : Option D := match x with
  | .lst ds => if flatD y = true ∧ ds.all flatD = true then (ds.findIdx? fun z => eqF z y).map fun j => .int (j : Nat) else none
  | _ => none
def fIndex (o a : FD) : FD := fun Γ => (o Γ).bind fun x => (a Γ).bind fun y => fo_index x y
instance [ha : PuV a fa] [hb : PuV b fb] : PuX (dBM indexD a (dCons b dNil)) (fIndex fa fb) := ⟨fun {M0 Γ Γw M z Q} R e q => by
  obtain ⟨x, e1, e⟩ := bind_some e
  obtain ⟨y, e2, e⟩ := bind_some e
  unfold fo_index at e
  split at e
  · split at e
    · rename_i hf
      obtain ⟨j, e3, rfl⟩ := map_some e
      refine ha.run R e1 fun x' M1 k1 v1 => ⟨?_, hb.run (R.keep k1) e2 fun y' M2 k2 v2 => ?_⟩
      · unfold isLstD; rw [v1.view rfl]; trivial
      · have ey := vw_flat v2 hf.1
        subst ey
        show indexD x' [_] M2 Q
        obtain ⟨hj, h1, h2⟩ := List.findIdx?_eq_some_iff_getElem.mp e3
        refine ⟨_, (v1.mono k2).view rfl, hf.1, hf.2, j, _, List.getElem?_eq_getElem hj, h1, fun m z' hm hz => ?_, q _ (k1.trans k2)⟩
        have := h2 m hm
        rw [List.getElem?_eq_getElem (by omega)] at hz
        cases hz
        simpa using this
    · cases e
  · cases e⟩
/-- a dict written out -/
class PuPs (d : List (TD × TD)) (f : List (FD × FD)) : Prop where
  run : ∀ {M0 Γ Γw M x} {Q : List (D × D) → Mem → Prop}, Rel M0 Γ Γw M → fPairs f Γ = some x → (∀ M', Kp M M' → Q (x.map fun kv => (keyD kv.1, kv.2)) M') → dPairs d Γw M Q
theorem keyD_dKey {x : D} {k : Key} (h : dKey x = some k) : keyD k = x := by
  cases x <;> first | (cases h; rfl) | cases h
instance : PuPs [] [] := ⟨fun R e q => by cases e; exact q _ Kp.refl⟩
instance {ds : List (TD × TD)} {fs : List (FD × FD)} [ha : PuV a fa] [hb : PuX b fb] [hr : PuPs ds fs] : PuPs ((a, b) :: ds) ((fa, fb) :: fs) := ⟨fun {M0 Γ Γw M z Q} R e q => by
  obtain ⟨x, e1, e⟩ := bind_some e
  obtain ⟨k, e2, e⟩ := bind_some e
  obtain ⟨y, e3, e⟩ := bind_some e
  obtain ⟨r, e4, rfl⟩ := map_some e
  refine ha.run R e1 fun x' M1 k1 v1 => hb.run (R.keep k1) e3 fun M2 k2 => hr.run (R.keep (k1.trans k2)) e4 fun M3 k3 => ?_
  cases dKey_vw v1 e2
  have := q M3 ((k1.trans k2).trans k3)
  rw [List.map_cons, keyD_dKey e2] at this
  exact this⟩
instance {prs : List (TD × TD)} {fps : List (FD × FD)} [h : PuPs prs fps] : PuO (dDisp prs) (fDisp fps) := ⟨fun {M0 Γ Γw M z Q} R e q => by
  obtain ⟨kvs, e1, e⟩ := bind_some e
  split at e
  · cases e
    intro p hp
    have kp : Kp M (mput M p (.dic [])) := Kp.refl.put hp
    refine h.run (R.keep kp) e1 fun M1 k1 => ⟨k1 _ _ mput_same, kvs, rfl, ‹_›, q p _ ?_ hp mput_same⟩
    exact (kp.trans k1).put hp
  · cases e⟩
/-! __init__ of a plain class: what is looked at first, then the attributes -/
theorem Rel.side {M0 M : Mem} {Γ : FE} {Γw : DE} (R : Rel M0 Γ Γw M) {p C : Addr} {ns ns' : List Str} {ds ds' : List D} (h : M p = some (.ins C ns ds)) (h0 : M0 p = none) : Rel M0 Γ Γw (mput M p (.ins C ns' ds')) := by
  refine ⟨fun a o e => ?_, R.len, fun i x h1 => ?_, R.inj⟩
  · rw [mput_ne (fun z => by rw [z, h0] at e; cases e)]; exact R.kp a o e
  · obtain ⟨y, e1, e2⟩ := R.get i x h1
    refine ⟨y, e1, ?_⟩
    cases x with
    | v d => exact e2
    | w d => exact e2
    | o z =>
      obtain ⟨q, q1, q2, q3⟩ := e2
      refine ⟨q, q1, q2, ?_⟩
      rw [mput_ne (fun e => by rw [e, h] at q3; cases z <;> cases q3)]
      exact q3
theorem Rel.unknow {M0 M : Mem} {Γ : FE} {Γw : DE} (R : Rel M0 Γ Γw M) {p C : Addr} {ns : List Str} {ds : List D} (h : M0 p = some (.ins C ns ds)) : Rel (mdel M0 p) Γ Γw M := by
  have k : ∀ a o, mdel M0 p a = some o → M0 a = some o := fun a o e => by
    by_cases z : a = p
    · subst z; rw [mdel_same] at e; cases e
    · rw [mdel_ne z] at e; exact e
  refine ⟨fun a o e => R.kp a o (k a o e), R.len, fun i x h1 => ?_, R.inj⟩
  obtain ⟨y, e1, e2⟩ := R.get i x h1
  refine ⟨y, e1, ?_⟩
  cases x with
  | v d => exact e2
  | w d =>
    rcases e2 with q | ⟨q, xs, h1, h2, h3⟩
    · exact .inl q
    · exact .inr ⟨q, xs, h1, by rw [mdel_ne (fun z => by rw [z, h] at h2; cases h2)]; exact h2, h3⟩
  | o z =>
    obtain ⟨q, q1, q2, q3⟩ := e2
    refine ⟨q, q1, ?_, q3⟩
    by_cases z : q = p
    · subst z; exact mdel_same
    · rw [mdel_ne z]; exact q2
/-- the attributes set, one behind another -/
class PuSets (C : Addr) (s : TDS) (f : FE → Option (List (Str × D))) : Prop where
  run : ∀ {M0 Γ Γw M p ns ds fs} {E : DEnds}, Rel M0 Γ Γw M → lookF Γ 0 = some (.v (.ref p)) → M0 p = none → M p = some (.ins C ns ds) → ns.length + fs.length < 1000 → (ns ++ fs.map (·.1)).Nodup → f Γ = some fs →
    (∀ Γw' M', Kp M0 M' → M' p = some (.ins C (ns ++ fs.map (·.1)) (ds ++ fs.map (·.2))) → E.nx Γw' M') → s E Γw M
def fSet1 (f : Str) (a : FD) : FE → Option (List (Str × D)) := fun Γ => (a Γ).map fun y => [(f, y)]
def fSetC (f : Str) (a : FD) (r : FE → Option (List (Str × D))) : FE → Option (List (Str × D)) := fun Γ => (a Γ).bind fun y => (r Γ).map ((f, y) :: ·)
theorem set_run {C : Addr} {f : Str} [ha : PuX a fa] {M0 M : Mem} {Γ : FE} {Γw : DE} {p : Addr} {ns : List Str} {ds : List D} {y : D} {E : DEnds} (R : Rel M0 Γ Γw M) (h0 : lookF Γ 0 = some (.v (.ref p))) (hm : M0 p = none) (hp : M p = some (.ins C ns ds)) (hl : ns.length < 1000) (hn : f ∉ ns) (e : fa Γ = some y)
    (q : ∀ M', Rel M0 Γ Γw M' → M' p = some (.ins C (ns ++ [f]) (ds ++ [y])) → E.nx Γw M') : dSetNew C f (dVar 0) a E Γw M := by
  obtain ⟨y0, h1, e2⟩ := R.get 0 _ (lookF_of h0)
  cases e2
  refine ha.run R e fun M1 k1 => look_at h1 ?_
  show match M1 p with | some (.ins C' ns ds) => _ | _ => _
  rw [k1 _ _ hp]
  refine ⟨rfl, hl, by simpa using hn, q _ ((R.keep k1).side (k1 _ _ hp) hm) mput_same⟩
instance {C : Addr} {f : Str} [ha : PuX a fa] : PuSets C (dSetNew C f (dVar 0) a) (fSet1 f fa) := ⟨fun R h0 hm hp hl hn e q => by
  obtain ⟨y, e1, rfl⟩ := map_some e
  refine set_run R h0 hm hp (by simp at hl; omega) (fun z => ?_) e1 fun M' R' hp' => q _ _ R'.kp hp'
  rw [List.nodup_append] at hn
  exact hn.2.2 _ z f (by simp) rfl⟩
instance {C : Addr} {f : Str} {s : TDS} {fr : FE → Option (List (Str × D))} [ha : PuX a fa] [hr : PuSets C s fr] : PuSets C (dSeq (dSetNew C f (dVar 0) a) s) (fSetC f fa fr) := ⟨fun {M0 Γ Γw M p ns ds fs E} R h0 hm hp hl hn e q => by
  obtain ⟨y, e1, e⟩ := bind_some e
  obtain ⟨r, e2, rfl⟩ := map_some e
  refine set_run (E := { E with nx := s E }) R h0 hm hp (by simp at hl; omega) (fun z => ?_) e1 fun M' R' hp' => ?_
  · rw [List.nodup_append] at hn
    exact hn.2.2 _ z f (by simp) rfl
  · refine hr.run R' h0 hm hp' (by simp at hl ⊢; omega) (by simpa using hn) e2 fun Γw' M2 k2 h2 => q Γw' M2 k2 ?_
    simpa using h2⟩
class PuIn (C : Addr) (s : TDS) (f : Addr → FE → Option (List (Str × D))) : Prop where
  run : ∀ {M0 Γ Γw M p fs} {E : DEnds}, Rel M0 Γ Γw M → lookF Γ 0 = some (.v (.ref p)) → M0 p = some (.ins C [] []) → fs.length < 1000 → (fs.map (·.1)).Nodup → f p Γ = some fs →
    (∀ Γw' M', Kp (mdel M0 p) M' → M' p = some (.ins C (fs.map (·.1)) (fs.map (·.2))) → E.nx Γw' M') → s E Γw M
open Classical in
def fInC (c : FS) (r : Addr → FE → Option (List (Str × D))) : Addr → FE → Option (List (Str × D)) := fun p Γ => (c Γ).bind fun o => match o with
  | .nx Γ' => if lookF Γ' 0 = some (.v (.ref p)) then r p Γ' else none
  | _ => none
def fInS (r : FE → Option (List (Str × D))) : Addr → FE → Option (List (Str × D)) := fun _ Γ => r Γ
instance {C : Addr} {c s : TDS} {fc : FS} {fr : Addr → FE → Option (List (Str × D))} [hc : PuS c fc] [hr : PuIn C s fr] : PuIn C (dSeq c s) (fInC fc fr) := ⟨fun {M0 Γ Γw M p fs E} R h0 hm hl hn e q => by
  obtain ⟨o, e1, e⟩ := bind_some e
  refine hc.run R e1 ?_
  split at e
  · split at e
    · intro Γw' M' R'
      exact hr.run R' ‹_› hm hl hn e q
    · cases e
  · cases e⟩
instance (priority := low) {C : Addr} {s : TDS} {fr : FE → Option (List (Str × D))} [hr : PuSets C s fr] : PuIn C s (fInS fr) := ⟨fun {M0 Γ Γw M p fs E} R h0 hm hl hn e q => by
  refine hr.run (ns := []) (ds := []) (R.unknow hm) h0 mdel_same (R.kp _ _ hm) (by simpa using hl) (by simpa using hn) e fun Γw' M' k h => q Γw' M' k (by simpa using h)⟩
open Classical in
/-- the values of the attributes -/
def runI (ns : List Str) (N : List Str) (f : Addr → FE → Option (List (Str × D))) (p : Addr) (ds : List D) : Option (List D) := (f p (startF N (.ref p :: ds))).bind fun fs => if fs.map (·.1) = ns then some (fs.map (·.2)) else none
theorem pure_semI {C : Addr} {ns : List Str} {N : List Str} {b : TDS} {f : Addr → FE → Option (List (Str × D))} {F : List D → Option (List D)} (h : PuIn C b f) (hns : ns.Nodup) (hl : ns.length < 1000) (hF : ∀ p es vs, F es = some vs → runI ns N f p es = some vs) :
    ∀ ds M Q, makeSp C ns F ds M Q → b { nx := fun _ M => gcQ Q .non M, rt := gcQ Q } (startD N ds) M := by
  rintro ds M Q ⟨p, xs, es, vs, rfl, v, hp, e, q⟩
  obtain ⟨fs, e1, e⟩ := bind_some (hF p es vs e)
  split at e
  · rename_i hn
    cases e
    subst hn
    refine h.run (Rel.start (.cons (.inl rfl) v)) rfl hp (by simpa using hl) hns e1 fun Γw' M' k h1 => .inl ⟨_, ?_, q⟩
    intro a o ea
    by_cases ap : a = p
    · subst ap; rw [mput_same] at ea; cases ea; exact h1
    · rw [mput_ne ap] at ea; exact k _ _ (by rw [mdel_ne ap]; exact ea)
  · cases e
end
end DL

set_option Elab.async false
set_option linter.all false
set_option maxRecDepth 100000
set_option maxHeartbeats 4000000
/-! What plain functions are evaluated by. Written by gen/mkfl6.py -/
namespace DL
open PySem PySem.Spec PyProof.Rows L2
theorem isi_f_of {x : D} {t n : String} {r : Bool} (e : tyNm x = some t) (h : kitB t n = some (isA t n)) (hr : isA t n = r) : fo_isi [x, .ty n] = some (.bl r) := by
  show (tyNm x).bind _ = _
  rw [e]
  show gOk _ _ = _
  rw [gOk_t h, hr]
noncomputable section
theorem ap_fTest {a : FD} {Γ : FE} : fTest a Γ = ((a Γ).bind asB) := rfl
theorem ap_fAnd {t u : FE → Option Bool} {Γ : FE} : fAnd t u Γ = ((t Γ).bind fun b => if b = true then u Γ else some false) := rfl
theorem ap_fOr {t u : FE → Option Bool} {Γ : FE} : fOr t u Γ = ((t Γ).bind fun b => if b = true then some true else u Γ) := rfl
theorem ap_fNot {t : FE → Option Bool} {Γ : FE} : fNot t Γ = ((t Γ).map (!·)) := rfl
theorem ap_fAndV {a b : FD} {Γ : FE} : fAndV a b Γ = ((a Γ).bind fun x => (asB x).bind fun c => if c = true then b Γ else some (.bl false)) := rfl
theorem ap_fOrV {a b : FD} {Γ : FE} : fOrV a b Γ = ((a Γ).bind fun x => (asB x).bind fun c => if c = true then some (.bl true) else b Γ) := rfl
theorem ap_fNotV {a : FD} {Γ : FE} : fNotV a Γ = ((a Γ).bind fun x => (asB x).map fun c => .bl (!c)) := rfl
theorem ap_fIf {α : Type} {t : FE → Option Bool} {a b : FE → Option α} {Γ : FE} : fIf t a b Γ = ((t Γ).bind fun c => if c = true then a Γ else b Γ) := rfl
theorem ap_fChain {r r' : D → D → Option D} {a b c : FD} {Γ : FE} : fChain r r' a b c Γ = ((a Γ).bind fun x => (b Γ).bind fun y => (r x y).bind fun z => (asB z).bind fun k => if k = true then (c Γ).bind fun w => (r' y w).bind fun u => (asB u).map .bl else some (.bl false)) := rfl
theorem ap_fYes {z0 : FE} : fYes z0 = (some true) := rfl
theorem ap_fNoPart {z0 : FE} : fNoPart z0 = (some none) := rfl
theorem ap_fPart {t : FD} {Γ : FE} : fPart t Γ = ((t Γ).bind fun x => (asI x).map some) := rfl
theorem ap_fSl {a : FD} {l h : FE → Option (Option Int)} {Γ : FE} : fSl a l h Γ = ((a Γ).bind fun x => (l Γ).bind fun lo => (h Γ).bind fun hi => fo_sl x lo hi) := rfl
theorem ap_fRev {a : FD} {Γ : FE} : fRev a Γ = ((a Γ).bind fo_rev) := rfl
theorem ap_fRevM {a : FD} {Γ : FE} : fRevM a Γ = ((a Γ).bind fo_revM) := rfl
theorem ap_fListM {a : FE → Option (List D)} {Γ : FE} : fListM a Γ = ((a Γ).bind fun xs => match xs with
  | [x] => (itemsF x).map .l
  | _ => none) := rfl
theorem ap_fSortM {a : FE → Option (List D)} {Γ : FE} : fSortM a Γ = ((a Γ).bind fun xs => match xs with
  | [x] => (itemsF x).bind fun ds => (asInts ds).map fun ns => .l ((sortI ns).map D.int)
  | _ => none) := rfl
theorem ap_fFld {C : Addr} {ns : List Str} {i : Nat} {a : FD} {Γ : FE} : fFld C ns i a Γ = ((a Γ).bind (fo_fld C ns i)) := rfl
theorem ap_fTupRg1 {a : FD} {Γ : FE} : fTupRg1 a Γ = ((a Γ).bind fun x => (asI x).bind fun n => gOk (RgOk 0 n) (.tup (rngD 0 n.toNat))) := rfl
theorem ap_fTupRg2 {a b : FD} {Γ : FE} : fTupRg2 a b Γ = ((a Γ).bind fun x => (b Γ).bind fun y => (asI x).bind fun i => (asI y).bind fun j => gOk (RgOk i j) (.tup (rngD i (j - i).toNat))) := rfl
theorem ap_fLstRg1 {a : FD} {Γ : FE} : fLstRg1 a Γ = ((a Γ).bind fun x => (asI x).bind fun n => gOk (RgOk 0 n) (.lst (rngD 0 n.toNat))) := rfl
theorem ap_fLstRg2 {a b : FD} {Γ : FE} : fLstRg2 a b Γ = ((a Γ).bind fun x => (b Γ).bind fun y => (asI x).bind fun i => (asI y).bind fun j => gOk (RgOk i j) (.lst (rngD i (j - i).toNat))) := rfl
theorem ap_fIsi2 {n1 n2 : String} {a : FD} {Γ : FE} : fIsi2 n1 n2 a Γ = ((a Γ).bind fun x => (tyNm x).bind fun t => gOk (kitB t n1 = some (isA t n1) ∧ kitB t n2 = some (isA t n2)) (.bl (isA t n1 || isA t n2))) := rfl
theorem ap_fVarX {i : Nat} {Γ : FE} : fVarX i Γ = ((lookF Γ i).bind rdX) := rfl
theorem ap_fVarV {i : Nat} {Γ : FE} : fVarV i Γ = ((lookF Γ i).bind rdV) := rfl
theorem ap_fVarW {i : Nat} {Γ : FE} : fVarW i Γ = ((lookF Γ i).bind rdW) := rfl
theorem ap_fC {d : D} {z0 : FE} : fC d z0 = (some d) := rfl
theorem ap_fOV {f : FE → Option OV} {Γ : FE} : fOV f Γ = ((f Γ).bind asL) := rfl
theorem ap_fOp {r : D → D → Option D} {a b : FD} {Γ : FE} : fOp r a b Γ = ((a Γ).bind fun x => (b Γ).bind fun y => r x y) := rfl
theorem ap_fUn {r : D → Option D} {a : FD} {Γ : FE} : fUn r a Γ = ((a Γ).bind r) := rfl
theorem ap_fCB {r : List D → Option D} {a : FE → Option (List D)} {Γ : FE} : fCB r a Γ = ((a Γ).bind r) := rfl
theorem ap_fNil {z0 : FE} : fNil z0 = (some []) := rfl
theorem ap_fCons {a : FD} {r : FE → Option (List D)} {Γ : FE} : fCons a r Γ = ((a Γ).bind fun x => (r Γ).bind fun xs => some (x :: xs)) := rfl
theorem ap_fTup {a : FE → Option (List D)} {Γ : FE} : fTup a Γ = ((a Γ).bind fun xs => gOk (xs.length ≤ sizeLine) (.tup xs)) := rfl
theorem ap_fLst {a : FE → Option (List D)} {Γ : FE} : fLst a Γ = ((a Γ).bind fun xs => gOk (xs.length ≤ sizeLine) (.lst xs)) := rfl
theorem ap_fLstM {a : FE → Option (List D)} {Γ : FE} : fLstM a Γ = ((a Γ).bind fun xs => if xs.length ≤ sizeLine then some (.l xs) else none) := rfl
theorem ap_fCall {α : Type} {F : List D → Option α} {dds : List D} {a : FE → Option (List D)} {Γ : FE} : fCall F dds a Γ = ((a Γ).bind fun xs => F (xs ++ dds)) := rfl
theorem ap_fCallN {α : Type} {F : List D → Option α} {ix : List Nat} {n m : Nat} {dds : List D} {a b : FE → Option (List D)} {Γ : FE} : fCallN F ix n m dds a b Γ = ((a Γ).bind fun xs => (b Γ).bind fun ys => if xs.length = n ∧ ys.length = m then F (pick ix (xs ++ (ys ++ dds))) else none) := rfl
theorem ap_fMake {C : Addr} {ns : List Str} {F : List D → Option (List D)} {dds : List D} {a : FE → Option (List D)} {Γ : FE} : fMake C ns F dds a Γ = ((a Γ).bind fun xs => (F (xs ++ dds)).map fun vs => .obj C ns vs) := rfl
theorem ap_fNext {Γ : FE} : fNext Γ = (some (.nx Γ)) := rfl
theorem ap_fBreak {Γ : FE} : fBreak Γ = (some (.bk Γ)) := rfl
theorem ap_fCont {Γ : FE} : fCont Γ = (some (.ct Γ)) := rfl
theorem ap_fSeq {t u : FS} {Γ : FE} : fSeq t u Γ = ((t Γ).bind (thenF u)) := rfl
theorem ap_fDrop {a : FD} {Γ : FE} : fDrop a Γ = ((a Γ).map fun _ => .nx Γ) := rfl
theorem ap_fRet {a : FD} {Γ : FE} : fRet a Γ = ((a Γ).map fun x => .rt (.v x)) := rfl
theorem ap_fRetO {a : FE → Option OV} {Γ : FE} : fRetO a Γ = ((a Γ).map fun x => .rt (.o x)) := rfl
theorem ap_fRetVar {i : Nat} {Γ : FE} : fRetVar i Γ = ((lookF Γ i).bind rtv) := rfl
theorem ap_fRetN {z0 : FE} : fRetN z0 = (some (.rt (.v .non))) := rfl
theorem ap_fIfS {t : FE → Option Bool} {u w : FS} {Γ : FE} : fIfS t u w Γ = ((t Γ).bind fun c => if c = true then u Γ else w Γ) := rfl
theorem ap_fNever {z0 : FE} : fNever z0 = (none) := rfl
theorem ap_fAsg {a : FD} {g : D → FE → Option FE} {Γ : FE} : fAsg a g Γ = ((a Γ).bind fun x => (g x Γ).map .nx) := rfl
theorem ap_fAsgO {a : FE → Option OV} {i : Nat} {Γ : FE} : fAsgO a i Γ = ((a Γ).map fun x => .nx (Γ.set i (some (.o x)))) := rfl
theorem ap_fAug {i : Nat} {r : D → D → Option D} {a : FD} {Γ : FE} : fAug i r a Γ = ((fVarX i Γ).bind fun x => (a Γ).bind fun y => (r x y).map fun z => .nx (Γ.set i (some (.v z)))) := rfl
theorem ap_fMNil {z0 : FE} : fMNil z0 = (some []) := rfl
theorem ap_fMX {a : FD} {r : FE → Option (List FV)} {Γ : FE} : fMX a r Γ = ((a Γ).bind fun x => (r Γ).map (.v x :: ·)) := rfl
theorem ap_fMO {a : FE → Option OV} {r : FE → Option (List FV)} {Γ : FE} : fMO a r Γ = ((a Γ).bind fun x => (r Γ).map (.o x :: ·)) := rfl
theorem ap_fPar {is : List Nat} {a : FE → Option (List FV)} {Γ : FE} : fPar is a Γ = ((a Γ).bind fun xs => if xs.length = is.length then some (.nx (setManyF is xs Γ)) else none) := rfl
theorem ap_fTupM {n : Nat} {is : List Nat} {fm : FE → Option (List FV)} {Γ : FE} : fTupM n is fm Γ = ((fPar is fm Γ).bind fun o => if is.length = n ∧ n ≤ sizeLine then some o else none) := rfl
theorem ap_fApp {i : Nat} {a : FD} {Γ : FE} : fApp i a Γ = ((lookL Γ i).bind fun ds => (a Γ).bind fun y => if ds.length < sizeLine then some (.nx (Γ.set i (some (.o (.l (ds ++ [y])))))) else none) := rfl
theorem ap_fPutK {i : Nat} {k a : FD} {Γ : FE} : fPutK i k a Γ = ((a Γ).bind fun y => (lookK Γ i).bind fun kvs => (k Γ).bind fun x => (dKey x).bind fun kk => if kvs.length < sizeLine then some (.nx (Γ.set i (some (.o (.k (putD kvs kk y)))))) else none) := rfl
theorem ap_fPutL {i : Nat} {k a : FD} {Γ : FE} : fPutL i k a Γ = ((a Γ).bind fun y => (lookL Γ i).bind fun ds => (k Γ).bind fun x => (asI x).bind fun j => (ixN ds.length j).map fun n => .nx (Γ.set i (some (.o (.l (ds.set n y)))))) := rfl
theorem ap_fGetK {i : Nat} {b : FD} {Γ : FE} : fGetK i b Γ = ((lookK Γ i).bind fun kvs => (b Γ).bind fun y => (dKey y).bind fun k => valD kvs k) := rfl
theorem ap_fInK {b : FD} {i : Nat} {Γ : FE} : fInK b i Γ = ((b Γ).bind fun y => (lookK Γ i).bind fun kvs => (dKey y).map fun k => .bl (valD kvs k).isSome) := rfl
theorem ap_fNotInK {b : FD} {i : Nat} {Γ : FE} : fNotInK b i Γ = ((b Γ).bind fun y => (lookK Γ i).bind fun kvs => (dKey y).map fun k => .bl (!(valD kvs k).isSome)) := rfl
theorem ap_fLenK {i : Nat} {Γ : FE} : fLenK i Γ = ((lookK Γ i).map fun kvs => .int (kvs.length : Nat)) := rfl
theorem ap_fListK {i : Nat} {Γ : FE} : fListK i Γ = ((lookK Γ i).map fun kvs => .lst (kvs.map fun kv => keyD kv.1)) := rfl
theorem ap_fDicNew {z0 : FE} : fDicNew z0 = (some (.k [])) := rfl
theorem ap_fDisp {prs : List (FD × FD)} {Γ : FE} : fDisp prs Γ = ((fPairs prs Γ).bind fun kvs => if kvs.length ≤ 15 then some (.k (mergeD [] kvs)) else none) := rfl
theorem ap_fIndex {o a : FD} {Γ : FE} : fIndex o a Γ = ((o Γ).bind fun x => (a Γ).bind fun y => fo_index x y) := rfl
theorem ap_fgName {i : Nat} {d : D} {Γ : FE} : fgName i d Γ = (some (Γ.set i (some (.v d)))) := rfl
theorem ap_fgNil {xs : List D} {Γ : FE} : fgNil xs Γ = (match xs with | [] => some Γ | _ => none) := rfl
theorem ap_fgCons {g : D → FE → Option FE} {u : List D → FE → Option FE} {xs : List D} {Γ : FE} : fgCons g u xs Γ = (match xs with
  | [] => none
  | x :: r => (g x Γ).bind fun Γ1 => u r Γ1) := rfl
theorem ap_fgTup {n : Nat} {u : List D → FE → Option FE} {x : D} {Γ : FE} : fgTup n u x Γ = (match x with
  | .tup xs => if xs.length = n then u xs Γ else none
  | _ => none) := rfl
theorem ap_fiAny {a : FD} {Γ : FE} : fiAny a Γ = ((a Γ).bind itemsF) := rfl
theorem ap_fiEnum {a : FD} {Γ : FE} : fiEnum a Γ = ((a Γ).bind fun x => (itemsF x).map enumD) := rfl
theorem ap_fiZip {a : FE → Option (List D)} {Γ : FE} : fiZip a Γ = ((a Γ).bind fun xs => match xs with
  | [.lst xs, .lst ys] => some (zipD xs ys)
  | [.tup xs, .tup ys] => some (zipD xs ys)
  | _ => none) := rfl
theorem ap_fFor {it : FE → Option (List D)} {g : D → FE → Option FE} {b : FS} {Γ : FE} : fFor it g b Γ = ((it Γ).bind fun xs => forF g b xs Γ) := rfl
theorem ap_fLcM {it : FE → Option (List D)} {g : D → FE → Option FE} {t : FE → Option Bool} {e : FD} {vs : List Nat} {Γ : FE} : fLcM it g t e vs Γ = ((fLc0 it g t e vs Γ).map .l) := rfl
end

/-- membership among numbers -/
theorem flat_intsF (l : List Int) : (l.map D.int).all flatD = true := by
  rw [List.all_eq_true]
  intro d hd
  obtain ⟨x, _, rfl⟩ := List.mem_map.mp hd
  rfl
theorem any_intF (l : List Int) (h : Int) : ((l.map D.int).any fun z => eqF z (.int h)) = decide (h ∈ l) := by
  rw [Bool.eq_iff_iff, List.any_eq_true, decide_eq_true_iff]
  constructor
  · rintro ⟨d, hd, e⟩
    obtain ⟨x, hx, rfl⟩ := List.mem_map.mp hd
    have : x = h := by simpa [eqF] using e
    exact this ▸ hx
  · intro hx
    exact ⟨.int h, List.mem_map.mpr ⟨h, hx, rfl⟩, by simp [eqF]⟩
theorem in_intsT {l : List Int} {x : Int} : fo_in (.int x) (.tup (l.map D.int)) = some (.bl (decide (x ∈ l))) := by
  show gOk _ _ = _
  rw [gOk_t ⟨rfl, flat_intsF l⟩, any_intF]
theorem in_intsL {l : List Int} {x : Int} : fo_in (.int x) (.lst (l.map D.int)) = some (.bl (decide (x ∈ l))) := by
  show gOk _ _ = _
  rw [gOk_t ⟨rfl, flat_intsF l⟩, any_intF]
theorem notIn_intsT {l : List Int} {x : Int} : fo_notIn (.int x) (.tup (l.map D.int)) = some (.bl (!decide (x ∈ l))) := by
  show gOk _ _ = _
  rw [gOk_t ⟨rfl, flat_intsF l⟩, any_intF]
theorem notIn_intsL {l : List Int} {x : Int} : fo_notIn (.int x) (.lst (l.map D.int)) = some (.bl (!decide (x ∈ l))) := by
  show gOk _ _ = _
  rw [gOk_t ⟨rfl, flat_intsF l⟩, any_intF]
def forK (k : FS) : FOut → Option FOut
  | .nx Γ => k Γ
  | .ct Γ => k Γ
  | .bk Γ => some (.nx Γ)
  | .rt x => some (.rt x)
theorem xv_forN {g : D → FE → Option FE} {b : FS} {Γ : FE} : forF g b [] Γ = some (.nx Γ) := rfl
theorem xv_forC {g : D → FE → Option FE} {b : FS} {Γ : FE} {x : D} {xs : List D} : forF g b (x :: xs) Γ = (g x Γ).bind fun Γ1 => (b Γ1).bind (forK (forF g b xs)) := by
  rw [forF]
  apply congrArg
  funext Γ1
  apply congrArg
  funext o
  cases o <;> rfl
theorem xv_forK1 {k : FS} {Γ : FE} : forK k (.nx Γ) = k Γ := rfl
theorem xv_forK2 {k : FS} {Γ : FE} : forK k (.ct Γ) = k Γ := rfl
theorem xv_forK3 {k : FS} {Γ : FE} : forK k (.bk Γ) = some (.nx Γ) := rfl
theorem xv_forK4 {k : FS} {x : FV} : forK k (.rt x) = some (.rt x) := rfl
theorem l_forK {c : Prop} [Decidable c] {k : FS} {a b : FOut} : forK k (if c then a else b) = if c then forK k a else forK k b := by split <;> rfl
theorem xv_lcN {g : D → FE → Option FE} {t : FE → Option Bool} {e : FD} {Γ : FE} : lcF g t e Γ [] = some [] := rfl
theorem xv_lcC {g : D → FE → Option FE} {t : FE → Option Bool} {e : FD} {Γ : FE} {x : D} {xs : List D} : lcF g t e Γ (x :: xs) = (g x Γ).bind fun Γ1 => (t Γ1).bind fun b => if b = true then (e Γ1).bind fun y => (lcF g t e Γ xs).map (y :: ·) else lcF g t e Γ xs := rfl
theorem xv_mx1 {a : Int} : [a].max? = some a := rfl
theorem xv_mx2 {a b : Int} : [a, b].max? = some (max a b) := rfl
theorem xv_mx3 {a b c : Int} : [a, b, c].max? = some (max (max a b) c) := rfl
theorem xv_mx4 {a b c d : Int} : [a, b, c, d].max? = some (max (max (max a b) c) d) := rfl
theorem xv_mn1 {a : Int} : [a].min? = some a := rfl
theorem xv_mn2 {a b : Int} : [a, b].min? = some (min a b) := rfl
theorem xv_mn3 {a b c : Int} : [a, b, c].min? = some (min (min a b) c) := rfl
theorem xv_mn4 {a b c d : Int} : [a, b, c, d].min? = some (min (min (min a b) c) d) := rfl
theorem eqOk_nil {ns : List Int} : eqOk (.lst (ns.map D.int)) (.lst []) := ⟨by rw [isPy]; exact isPyL_ints ns, rfl, by rw [py, pyL_ints]; exact shaped_ints ns, by decide⟩
theorem eqv_nil {ns : List Int} : PyData.eqv (py (.lst (ns.map D.int))) (py (.lst [])) = ns.isEmpty := by
  rw [py, py, pyL_ints, pyL]
  cases ns <;> rfl
theorem xv_ne_nil {ns : List Int} : fo_ne (.lst (ns.map D.int)) (.lst []) = some (.bl (!ns.isEmpty)) := by
  show gOk _ _ = _
  rw [gOk_t eqOk_nil, eqv_nil]
theorem xv_eq_nil {ns : List Int} : fo_eq (.lst (ns.map D.int)) (.lst []) = some (.bl ns.isEmpty) := by
  show gOk _ _ = _
  rw [gOk_t eqOk_nil, eqv_nil]
theorem xv_zip0 : zipD [] [] = [] := rfl
theorem xv_zipC {x y : D} {xs ys : List D} : zipD (x :: xs) (y :: ys) = .tup [x, y] :: zipD xs ys := rfl
def iota (lo : Int) (n : Nat) : List Int := (List.range n).map fun i => lo + (i : Nat)
theorem rngD_iota (lo : Int) (n : Nat) : rngD lo n = (iota lo n).map D.int := by unfold rngD iota; rw [List.map_map]; rfl
theorem iota_length (lo : Int) (n : Nat) : (iota lo n).length = n := by unfold iota; simp
theorem mem_iota {lo : Int} {n : Nat} {x : Int} : x ∈ iota lo n ↔ lo ≤ x ∧ x < lo + n := by
  unfold iota
  rw [List.mem_map]
  constructor
  · rintro ⟨i, hi, rfl⟩
    rw [List.mem_range] at hi
    omega
  · rintro ⟨h1, h2⟩
    exact ⟨(x - lo).toNat, by rw [List.mem_range]; omega, by omega⟩
def rng1F : List D → Option (List D) := fun xs => match xs with
  | [.int j] => if -(2 ^ 62) ≤ j ∧ j < 2 ^ 62 then some (rngD 0 j.toNat) else none
  | _ => none
def rng2F : List D → Option (List D) := fun xs => match xs with
  | [.int i, .int j] => if -(2 ^ 62) ≤ i ∧ i < 2 ^ 62 ∧ -(2 ^ 62) ≤ j ∧ j < 2 ^ 62 then some (rngD i (j - i).toNat) else none
  | _ => none
theorem asInts_map : ∀ ns : List Int, asInts (ns.map D.int) = some ns
  | [] => rfl
  | n :: ns => by rw [List.map_cons, asInts, asInts_map ns]; rfl
theorem asInts_mapF {α : Type} (g : α → Int) : ∀ l : List α, asInts (l.map fun x => D.int (g x)) = some (l.map g)
  | [] => rfl
  | n :: ns => by rw [List.map_cons, asInts, asInts_mapF g ns]; rfl
theorem asBls_map : ∀ ns : List Bool, asBls (ns.map D.bl) = some ns
  | [] => rfl
  | n :: ns => by rw [List.map_cons, asBls, asBls_map ns]; rfl
theorem asBls_mapF {α : Type} (g : α → Bool) : ∀ l : List α, asBls (l.map fun x => D.bl (g x)) = some (l.map g)
  | [] => rfl
  | n :: ns => by rw [List.map_cons, asBls, asBls_mapF g ns]; rfl
theorem atI_0 {d : D} {xs : List D} : L2.atI (d :: xs) 0 = some d := by
  unfold L2.atI L2.ixN
  simp
theorem atI_s {d0 x : D} {xs : List D} {n : Nat} (h : L2.atI xs (n : Int) = some x) : L2.atI (d0 :: xs) ((n : Int) + 1) = some x := by
  unfold L2.atI L2.ixN at h ⊢
  have e1 : (0 : Int) ≤ (n : Int) := by omega
  have e2 : (0 : Int) ≤ (n : Int) + 1 := by omega
  rw [if_pos e1] at h
  rw [if_pos e2]
  by_cases hl : (n : Int) < xs.length
  · rw [if_pos hl] at h
    rw [if_pos (by rw [List.length_cons]; omega)]
    have e3 : ((n : Int) + 1).toNat = n + 1 := by omega
    have e4 : ((n : Int)).toNat = n := by omega
    rw [e4] at h
    rw [e3]
    exact h
  · rw [if_neg hl] at h
    cases h
theorem lk_0 {o0 : Option FV} {Γ : FE} : lookF (o0 :: Γ) 0 = o0 := rfl
theorem st_0 {o0 x : Option FV} {Γ : FE} : List.set (o0 :: Γ) 0 x = x :: Γ := rfl
theorem lk_1 {o0 o1 : Option FV} {Γ : FE} : lookF (o0 :: o1 :: Γ) 1 = o1 := rfl
theorem st_1 {o0 o1 x : Option FV} {Γ : FE} : List.set (o0 :: o1 :: Γ) 1 x = o0 :: x :: Γ := rfl
theorem lk_2 {o0 o1 o2 : Option FV} {Γ : FE} : lookF (o0 :: o1 :: o2 :: Γ) 2 = o2 := rfl
theorem st_2 {o0 o1 o2 x : Option FV} {Γ : FE} : List.set (o0 :: o1 :: o2 :: Γ) 2 x = o0 :: o1 :: x :: Γ := rfl
theorem lk_3 {o0 o1 o2 o3 : Option FV} {Γ : FE} : lookF (o0 :: o1 :: o2 :: o3 :: Γ) 3 = o3 := rfl
theorem st_3 {o0 o1 o2 o3 x : Option FV} {Γ : FE} : List.set (o0 :: o1 :: o2 :: o3 :: Γ) 3 x = o0 :: o1 :: o2 :: x :: Γ := rfl
theorem lk_4 {o0 o1 o2 o3 o4 : Option FV} {Γ : FE} : lookF (o0 :: o1 :: o2 :: o3 :: o4 :: Γ) 4 = o4 := rfl
theorem st_4 {o0 o1 o2 o3 o4 x : Option FV} {Γ : FE} : List.set (o0 :: o1 :: o2 :: o3 :: o4 :: Γ) 4 x = o0 :: o1 :: o2 :: o3 :: x :: Γ := rfl
theorem lk_5 {o0 o1 o2 o3 o4 o5 : Option FV} {Γ : FE} : lookF (o0 :: o1 :: o2 :: o3 :: o4 :: o5 :: Γ) 5 = o5 := rfl
theorem st_5 {o0 o1 o2 o3 o4 o5 x : Option FV} {Γ : FE} : List.set (o0 :: o1 :: o2 :: o3 :: o4 :: o5 :: Γ) 5 x = o0 :: o1 :: o2 :: o3 :: o4 :: x :: Γ := rfl
theorem lk_6 {o0 o1 o2 o3 o4 o5 o6 : Option FV} {Γ : FE} : lookF (o0 :: o1 :: o2 :: o3 :: o4 :: o5 :: o6 :: Γ) 6 = o6 := rfl
theorem st_6 {o0 o1 o2 o3 o4 o5 o6 x : Option FV} {Γ : FE} : List.set (o0 :: o1 :: o2 :: o3 :: o4 :: o5 :: o6 :: Γ) 6 x = o0 :: o1 :: o2 :: o3 :: o4 :: o5 :: x :: Γ := rfl
theorem lk_7 {o0 o1 o2 o3 o4 o5 o6 o7 : Option FV} {Γ : FE} : lookF (o0 :: o1 :: o2 :: o3 :: o4 :: o5 :: o6 :: o7 :: Γ) 7 = o7 := rfl
theorem st_7 {o0 o1 o2 o3 o4 o5 o6 o7 x : Option FV} {Γ : FE} : List.set (o0 :: o1 :: o2 :: o3 :: o4 :: o5 :: o6 :: o7 :: Γ) 7 x = o0 :: o1 :: o2 :: o3 :: o4 :: o5 :: o6 :: x :: Γ := rfl
theorem lk_8 {o0 o1 o2 o3 o4 o5 o6 o7 o8 : Option FV} {Γ : FE} : lookF (o0 :: o1 :: o2 :: o3 :: o4 :: o5 :: o6 :: o7 :: o8 :: Γ) 8 = o8 := rfl
theorem st_8 {o0 o1 o2 o3 o4 o5 o6 o7 o8 x : Option FV} {Γ : FE} : List.set (o0 :: o1 :: o2 :: o3 :: o4 :: o5 :: o6 :: o7 :: o8 :: Γ) 8 x = o0 :: o1 :: o2 :: o3 :: o4 :: o5 :: o6 :: o7 :: x :: Γ := rfl
theorem lk_9 {o0 o1 o2 o3 o4 o5 o6 o7 o8 o9 : Option FV} {Γ : FE} : lookF (o0 :: o1 :: o2 :: o3 :: o4 :: o5 :: o6 :: o7 :: o8 :: o9 :: Γ) 9 = o9 := rfl
theorem st_9 {o0 o1 o2 o3 o4 o5 o6 o7 o8 o9 x : Option FV} {Γ : FE} : List.set (o0 :: o1 :: o2 :: o3 :: o4 :: o5 :: o6 :: o7 :: o8 :: o9 :: Γ) 9 x = o0 :: o1 :: o2 :: o3 :: o4 :: o5 :: o6 :: o7 :: o8 :: x :: Γ := rfl
theorem lk_10 {o0 o1 o2 o3 o4 o5 o6 o7 o8 o9 o10 : Option FV} {Γ : FE} : lookF (o0 :: o1 :: o2 :: o3 :: o4 :: o5 :: o6 :: o7 :: o8 :: o9 :: o10 :: Γ) 10 = o10 := rfl
theorem st_10 {o0 o1 o2 o3 o4 o5 o6 o7 o8 o9 o10 x : Option FV} {Γ : FE} : List.set (o0 :: o1 :: o2 :: o3 :: o4 :: o5 :: o6 :: o7 :: o8 :: o9 :: o10 :: Γ) 10 x = o0 :: o1 :: o2 :: o3 :: o4 :: o5 :: o6 :: o7 :: o8 :: o9 :: x :: Γ := rfl
theorem lk_11 {o0 o1 o2 o3 o4 o5 o6 o7 o8 o9 o10 o11 : Option FV} {Γ : FE} : lookF (o0 :: o1 :: o2 :: o3 :: o4 :: o5 :: o6 :: o7 :: o8 :: o9 :: o10 :: o11 :: Γ) 11 = o11 := rfl
theorem st_11 {o0 o1 o2 o3 o4 o5 o6 o7 o8 o9 o10 o11 x : Option FV} {Γ : FE} : List.set (o0 :: o1 :: o2 :: o3 :: o4 :: o5 :: o6 :: o7 :: o8 :: o9 :: o10 :: o11 :: Γ) 11 x = o0 :: o1 :: o2 :: o3 :: o4 :: o5 :: o6 :: o7 :: o8 :: o9 :: o10 :: x :: Γ := rfl
theorem lk_12 {o0 o1 o2 o3 o4 o5 o6 o7 o8 o9 o10 o11 o12 : Option FV} {Γ : FE} : lookF (o0 :: o1 :: o2 :: o3 :: o4 :: o5 :: o6 :: o7 :: o8 :: o9 :: o10 :: o11 :: o12 :: Γ) 12 = o12 := rfl
theorem st_12 {o0 o1 o2 o3 o4 o5 o6 o7 o8 o9 o10 o11 o12 x : Option FV} {Γ : FE} : List.set (o0 :: o1 :: o2 :: o3 :: o4 :: o5 :: o6 :: o7 :: o8 :: o9 :: o10 :: o11 :: o12 :: Γ) 12 x = o0 :: o1 :: o2 :: o3 :: o4 :: o5 :: o6 :: o7 :: o8 :: o9 :: o10 :: o11 :: x :: Γ := rfl
theorem lk_13 {o0 o1 o2 o3 o4 o5 o6 o7 o8 o9 o10 o11 o12 o13 : Option FV} {Γ : FE} : lookF (o0 :: o1 :: o2 :: o3 :: o4 :: o5 :: o6 :: o7 :: o8 :: o9 :: o10 :: o11 :: o12 :: o13 :: Γ) 13 = o13 := rfl
theorem st_13 {o0 o1 o2 o3 o4 o5 o6 o7 o8 o9 o10 o11 o12 o13 x : Option FV} {Γ : FE} : List.set (o0 :: o1 :: o2 :: o3 :: o4 :: o5 :: o6 :: o7 :: o8 :: o9 :: o10 :: o11 :: o12 :: o13 :: Γ) 13 x = o0 :: o1 :: o2 :: o3 :: o4 :: o5 :: o6 :: o7 :: o8 :: o9 :: o10 :: o11 :: o12 :: x :: Γ := rfl
theorem lk_14 {o0 o1 o2 o3 o4 o5 o6 o7 o8 o9 o10 o11 o12 o13 o14 : Option FV} {Γ : FE} : lookF (o0 :: o1 :: o2 :: o3 :: o4 :: o5 :: o6 :: o7 :: o8 :: o9 :: o10 :: o11 :: o12 :: o13 :: o14 :: Γ) 14 = o14 := rfl
theorem st_14 {o0 o1 o2 o3 o4 o5 o6 o7 o8 o9 o10 o11 o12 o13 o14 x : Option FV} {Γ : FE} : List.set (o0 :: o1 :: o2 :: o3 :: o4 :: o5 :: o6 :: o7 :: o8 :: o9 :: o10 :: o11 :: o12 :: o13 :: o14 :: Γ) 14 x = o0 :: o1 :: o2 :: o3 :: o4 :: o5 :: o6 :: o7 :: o8 :: o9 :: o10 :: o11 :: o12 :: o13 :: x :: Γ := rfl
theorem lk_15 {o0 o1 o2 o3 o4 o5 o6 o7 o8 o9 o10 o11 o12 o13 o14 o15 : Option FV} {Γ : FE} : lookF (o0 :: o1 :: o2 :: o3 :: o4 :: o5 :: o6 :: o7 :: o8 :: o9 :: o10 :: o11 :: o12 :: o13 :: o14 :: o15 :: Γ) 15 = o15 := rfl
theorem st_15 {o0 o1 o2 o3 o4 o5 o6 o7 o8 o9 o10 o11 o12 o13 o14 o15 x : Option FV} {Γ : FE} : List.set (o0 :: o1 :: o2 :: o3 :: o4 :: o5 :: o6 :: o7 :: o8 :: o9 :: o10 :: o11 :: o12 :: o13 :: o14 :: o15 :: Γ) 15 x = o0 :: o1 :: o2 :: o3 :: o4 :: o5 :: o6 :: o7 :: o8 :: o9 :: o10 :: o11 :: o12 :: o13 :: o14 :: x :: Γ := rfl
theorem lk_16 {o0 o1 o2 o3 o4 o5 o6 o7 o8 o9 o10 o11 o12 o13 o14 o15 o16 : Option FV} {Γ : FE} : lookF (o0 :: o1 :: o2 :: o3 :: o4 :: o5 :: o6 :: o7 :: o8 :: o9 :: o10 :: o11 :: o12 :: o13 :: o14 :: o15 :: o16 :: Γ) 16 = o16 := rfl
theorem st_16 {o0 o1 o2 o3 o4 o5 o6 o7 o8 o9 o10 o11 o12 o13 o14 o15 o16 x : Option FV} {Γ : FE} : List.set (o0 :: o1 :: o2 :: o3 :: o4 :: o5 :: o6 :: o7 :: o8 :: o9 :: o10 :: o11 :: o12 :: o13 :: o14 :: o15 :: o16 :: Γ) 16 x = o0 :: o1 :: o2 :: o3 :: o4 :: o5 :: o6 :: o7 :: o8 :: o9 :: o10 :: o11 :: o12 :: o13 :: o14 :: o15 :: x :: Γ := rfl
theorem lk_17 {o0 o1 o2 o3 o4 o5 o6 o7 o8 o9 o10 o11 o12 o13 o14 o15 o16 o17 : Option FV} {Γ : FE} : lookF (o0 :: o1 :: o2 :: o3 :: o4 :: o5 :: o6 :: o7 :: o8 :: o9 :: o10 :: o11 :: o12 :: o13 :: o14 :: o15 :: o16 :: o17 :: Γ) 17 = o17 := rfl
theorem st_17 {o0 o1 o2 o3 o4 o5 o6 o7 o8 o9 o10 o11 o12 o13 o14 o15 o16 o17 x : Option FV} {Γ : FE} : List.set (o0 :: o1 :: o2 :: o3 :: o4 :: o5 :: o6 :: o7 :: o8 :: o9 :: o10 :: o11 :: o12 :: o13 :: o14 :: o15 :: o16 :: o17 :: Γ) 17 x = o0 :: o1 :: o2 :: o3 :: o4 :: o5 :: o6 :: o7 :: o8 :: o9 :: o10 :: o11 :: o12 :: o13 :: o14 :: o15 :: o16 :: x :: Γ := rfl
theorem lk_18 {o0 o1 o2 o3 o4 o5 o6 o7 o8 o9 o10 o11 o12 o13 o14 o15 o16 o17 o18 : Option FV} {Γ : FE} : lookF (o0 :: o1 :: o2 :: o3 :: o4 :: o5 :: o6 :: o7 :: o8 :: o9 :: o10 :: o11 :: o12 :: o13 :: o14 :: o15 :: o16 :: o17 :: o18 :: Γ) 18 = o18 := rfl
theorem st_18 {o0 o1 o2 o3 o4 o5 o6 o7 o8 o9 o10 o11 o12 o13 o14 o15 o16 o17 o18 x : Option FV} {Γ : FE} : List.set (o0 :: o1 :: o2 :: o3 :: o4 :: o5 :: o6 :: o7 :: o8 :: o9 :: o10 :: o11 :: o12 :: o13 :: o14 :: o15 :: o16 :: o17 :: o18 :: Γ) 18 x = o0 :: o1 :: o2 :: o3 :: o4 :: o5 :: o6 :: o7 :: o8 :: o9 :: o10 :: o11 :: o12 :: o13 :: o14 :: o15 :: o16 :: o17 :: x :: Γ := rfl
theorem lk_19 {o0 o1 o2 o3 o4 o5 o6 o7 o8 o9 o10 o11 o12 o13 o14 o15 o16 o17 o18 o19 : Option FV} {Γ : FE} : lookF (o0 :: o1 :: o2 :: o3 :: o4 :: o5 :: o6 :: o7 :: o8 :: o9 :: o10 :: o11 :: o12 :: o13 :: o14 :: o15 :: o16 :: o17 :: o18 :: o19 :: Γ) 19 = o19 := rfl
theorem st_19 {o0 o1 o2 o3 o4 o5 o6 o7 o8 o9 o10 o11 o12 o13 o14 o15 o16 o17 o18 o19 x : Option FV} {Γ : FE} : List.set (o0 :: o1 :: o2 :: o3 :: o4 :: o5 :: o6 :: o7 :: o8 :: o9 :: o10 :: o11 :: o12 :: o13 :: o14 :: o15 :: o16 :: o17 :: o18 :: o19 :: Γ) 19 x = o0 :: o1 :: o2 :: o3 :: o4 :: o5 :: o6 :: o7 :: o8 :: o9 :: o10 :: o11 :: o12 :: o13 :: o14 :: o15 :: o16 :: o17 :: o18 :: x :: Γ := rfl
theorem lk_20 {o0 o1 o2 o3 o4 o5 o6 o7 o8 o9 o10 o11 o12 o13 o14 o15 o16 o17 o18 o19 o20 : Option FV} {Γ : FE} : lookF (o0 :: o1 :: o2 :: o3 :: o4 :: o5 :: o6 :: o7 :: o8 :: o9 :: o10 :: o11 :: o12 :: o13 :: o14 :: o15 :: o16 :: o17 :: o18 :: o19 :: o20 :: Γ) 20 = o20 := rfl
theorem st_20 {o0 o1 o2 o3 o4 o5 o6 o7 o8 o9 o10 o11 o12 o13 o14 o15 o16 o17 o18 o19 o20 x : Option FV} {Γ : FE} : List.set (o0 :: o1 :: o2 :: o3 :: o4 :: o5 :: o6 :: o7 :: o8 :: o9 :: o10 :: o11 :: o12 :: o13 :: o14 :: o15 :: o16 :: o17 :: o18 :: o19 :: o20 :: Γ) 20 x = o0 :: o1 :: o2 :: o3 :: o4 :: o5 :: o6 :: o7 :: o8 :: o9 :: o10 :: o11 :: o12 :: o13 :: o14 :: o15 :: o16 :: o17 :: o18 :: o19 :: x :: Γ := rfl
theorem lk_21 {o0 o1 o2 o3 o4 o5 o6 o7 o8 o9 o10 o11 o12 o13 o14 o15 o16 o17 o18 o19 o20 o21 : Option FV} {Γ : FE} : lookF (o0 :: o1 :: o2 :: o3 :: o4 :: o5 :: o6 :: o7 :: o8 :: o9 :: o10 :: o11 :: o12 :: o13 :: o14 :: o15 :: o16 :: o17 :: o18 :: o19 :: o20 :: o21 :: Γ) 21 = o21 := rfl
theorem st_21 {o0 o1 o2 o3 o4 o5 o6 o7 o8 o9 o10 o11 o12 o13 o14 o15 o16 o17 o18 o19 o20 o21 x : Option FV} {Γ : FE} : List.set (o0 :: o1 :: o2 :: o3 :: o4 :: o5 :: o6 :: o7 :: o8 :: o9 :: o10 :: o11 :: o12 :: o13 :: o14 :: o15 :: o16 :: o17 :: o18 :: o19 :: o20 :: o21 :: Γ) 21 x = o0 :: o1 :: o2 :: o3 :: o4 :: o5 :: o6 :: o7 :: o8 :: o9 :: o10 :: o11 :: o12 :: o13 :: o14 :: o15 :: o16 :: o17 :: o18 :: o19 :: o20 :: x :: Γ := rfl
theorem lk_22 {o0 o1 o2 o3 o4 o5 o6 o7 o8 o9 o10 o11 o12 o13 o14 o15 o16 o17 o18 o19 o20 o21 o22 : Option FV} {Γ : FE} : lookF (o0 :: o1 :: o2 :: o3 :: o4 :: o5 :: o6 :: o7 :: o8 :: o9 :: o10 :: o11 :: o12 :: o13 :: o14 :: o15 :: o16 :: o17 :: o18 :: o19 :: o20 :: o21 :: o22 :: Γ) 22 = o22 := rfl
theorem st_22 {o0 o1 o2 o3 o4 o5 o6 o7 o8 o9 o10 o11 o12 o13 o14 o15 o16 o17 o18 o19 o20 o21 o22 x : Option FV} {Γ : FE} : List.set (o0 :: o1 :: o2 :: o3 :: o4 :: o5 :: o6 :: o7 :: o8 :: o9 :: o10 :: o11 :: o12 :: o13 :: o14 :: o15 :: o16 :: o17 :: o18 :: o19 :: o20 :: o21 :: o22 :: Γ) 22 x = o0 :: o1 :: o2 :: o3 :: o4 :: o5 :: o6 :: o7 :: o8 :: o9 :: o10 :: o11 :: o12 :: o13 :: o14 :: o15 :: o16 :: o17 :: o18 :: o19 :: o20 :: o21 :: x :: Γ := rfl
theorem lk_23 {o0 o1 o2 o3 o4 o5 o6 o7 o8 o9 o10 o11 o12 o13 o14 o15 o16 o17 o18 o19 o20 o21 o22 o23 : Option FV} {Γ : FE} : lookF (o0 :: o1 :: o2 :: o3 :: o4 :: o5 :: o6 :: o7 :: o8 :: o9 :: o10 :: o11 :: o12 :: o13 :: o14 :: o15 :: o16 :: o17 :: o18 :: o19 :: o20 :: o21 :: o22 :: o23 :: Γ) 23 = o23 := rfl
theorem st_23 {o0 o1 o2 o3 o4 o5 o6 o7 o8 o9 o10 o11 o12 o13 o14 o15 o16 o17 o18 o19 o20 o21 o22 o23 x : Option FV} {Γ : FE} : List.set (o0 :: o1 :: o2 :: o3 :: o4 :: o5 :: o6 :: o7 :: o8 :: o9 :: o10 :: o11 :: o12 :: o13 :: o14 :: o15 :: o16 :: o17 :: o18 :: o19 :: o20 :: o21 :: o22 :: o23 :: Γ) 23 x = o0 :: o1 :: o2 :: o3 :: o4 :: o5 :: o6 :: o7 :: o8 :: o9 :: o10 :: o11 :: o12 :: o13 :: o14 :: o15 :: o16 :: o17 :: o18 :: o19 :: o20 :: o21 :: o22 :: x :: Γ := rfl
theorem lk_24 {o0 o1 o2 o3 o4 o5 o6 o7 o8 o9 o10 o11 o12 o13 o14 o15 o16 o17 o18 o19 o20 o21 o22 o23 o24 : Option FV} {Γ : FE} : lookF (o0 :: o1 :: o2 :: o3 :: o4 :: o5 :: o6 :: o7 :: o8 :: o9 :: o10 :: o11 :: o12 :: o13 :: o14 :: o15 :: o16 :: o17 :: o18 :: o19 :: o20 :: o21 :: o22 :: o23 :: o24 :: Γ) 24 = o24 := rfl
theorem st_24 {o0 o1 o2 o3 o4 o5 o6 o7 o8 o9 o10 o11 o12 o13 o14 o15 o16 o17 o18 o19 o20 o21 o22 o23 o24 x : Option FV} {Γ : FE} : List.set (o0 :: o1 :: o2 :: o3 :: o4 :: o5 :: o6 :: o7 :: o8 :: o9 :: o10 :: o11 :: o12 :: o13 :: o14 :: o15 :: o16 :: o17 :: o18 :: o19 :: o20 :: o21 :: o22 :: o23 :: o24 :: Γ) 24 x = o0 :: o1 :: o2 :: o3 :: o4 :: o5 :: o6 :: o7 :: o8 :: o9 :: o10 :: o11 :: o12 :: o13 :: o14 :: o15 :: o16 :: o17 :: o18 :: o19 :: o20 :: o21 :: o22 :: o23 :: x :: Γ := rfl
theorem lk_25 {o0 o1 o2 o3 o4 o5 o6 o7 o8 o9 o10 o11 o12 o13 o14 o15 o16 o17 o18 o19 o20 o21 o22 o23 o24 o25 : Option FV} {Γ : FE} : lookF (o0 :: o1 :: o2 :: o3 :: o4 :: o5 :: o6 :: o7 :: o8 :: o9 :: o10 :: o11 :: o12 :: o13 :: o14 :: o15 :: o16 :: o17 :: o18 :: o19 :: o20 :: o21 :: o22 :: o23 :: o24 :: o25 :: Γ) 25 = o25 := rfl
theorem st_25 {o0 o1 o2 o3 o4 o5 o6 o7 o8 o9 o10 o11 o12 o13 o14 o15 o16 o17 o18 o19 o20 o21 o22 o23 o24 o25 x : Option FV} {Γ : FE} : List.set (o0 :: o1 :: o2 :: o3 :: o4 :: o5 :: o6 :: o7 :: o8 :: o9 :: o10 :: o11 :: o12 :: o13 :: o14 :: o15 :: o16 :: o17 :: o18 :: o19 :: o20 :: o21 :: o22 :: o23 :: o24 :: o25 :: Γ) 25 x = o0 :: o1 :: o2 :: o3 :: o4 :: o5 :: o6 :: o7 :: o8 :: o9 :: o10 :: o11 :: o12 :: o13 :: o14 :: o15 :: o16 :: o17 :: o18 :: o19 :: o20 :: o21 :: o22 :: o23 :: o24 :: x :: Γ := rfl
theorem lk_26 {o0 o1 o2 o3 o4 o5 o6 o7 o8 o9 o10 o11 o12 o13 o14 o15 o16 o17 o18 o19 o20 o21 o22 o23 o24 o25 o26 : Option FV} {Γ : FE} : lookF (o0 :: o1 :: o2 :: o3 :: o4 :: o5 :: o6 :: o7 :: o8 :: o9 :: o10 :: o11 :: o12 :: o13 :: o14 :: o15 :: o16 :: o17 :: o18 :: o19 :: o20 :: o21 :: o22 :: o23 :: o24 :: o25 :: o26 :: Γ) 26 = o26 := rfl
theorem st_26 {o0 o1 o2 o3 o4 o5 o6 o7 o8 o9 o10 o11 o12 o13 o14 o15 o16 o17 o18 o19 o20 o21 o22 o23 o24 o25 o26 x : Option FV} {Γ : FE} : List.set (o0 :: o1 :: o2 :: o3 :: o4 :: o5 :: o6 :: o7 :: o8 :: o9 :: o10 :: o11 :: o12 :: o13 :: o14 :: o15 :: o16 :: o17 :: o18 :: o19 :: o20 :: o21 :: o22 :: o23 :: o24 :: o25 :: o26 :: Γ) 26 x = o0 :: o1 :: o2 :: o3 :: o4 :: o5 :: o6 :: o7 :: o8 :: o9 :: o10 :: o11 :: o12 :: o13 :: o14 :: o15 :: o16 :: o17 :: o18 :: o19 :: o20 :: o21 :: o22 :: o23 :: o24 :: o25 :: x :: Γ := rfl
theorem lk_27 {o0 o1 o2 o3 o4 o5 o6 o7 o8 o9 o10 o11 o12 o13 o14 o15 o16 o17 o18 o19 o20 o21 o22 o23 o24 o25 o26 o27 : Option FV} {Γ : FE} : lookF (o0 :: o1 :: o2 :: o3 :: o4 :: o5 :: o6 :: o7 :: o8 :: o9 :: o10 :: o11 :: o12 :: o13 :: o14 :: o15 :: o16 :: o17 :: o18 :: o19 :: o20 :: o21 :: o22 :: o23 :: o24 :: o25 :: o26 :: o27 :: Γ) 27 = o27 := rfl
theorem st_27 {o0 o1 o2 o3 o4 o5 o6 o7 o8 o9 o10 o11 o12 o13 o14 o15 o16 o17 o18 o19 o20 o21 o22 o23 o24 o25 o26 o27 x : Option FV} {Γ : FE} : List.set (o0 :: o1 :: o2 :: o3 :: o4 :: o5 :: o6 :: o7 :: o8 :: o9 :: o10 :: o11 :: o12 :: o13 :: o14 :: o15 :: o16 :: o17 :: o18 :: o19 :: o20 :: o21 :: o22 :: o23 :: o24 :: o25 :: o26 :: o27 :: Γ) 27 x = o0 :: o1 :: o2 :: o3 :: o4 :: o5 :: o6 :: o7 :: o8 :: o9 :: o10 :: o11 :: o12 :: o13 :: o14 :: o15 :: o16 :: o17 :: o18 :: o19 :: o20 :: o21 :: o22 :: o23 :: o24 :: o25 :: o26 :: x :: Γ := rfl
theorem lk_28 {o0 o1 o2 o3 o4 o5 o6 o7 o8 o9 o10 o11 o12 o13 o14 o15 o16 o17 o18 o19 o20 o21 o22 o23 o24 o25 o26 o27 o28 : Option FV} {Γ : FE} : lookF (o0 :: o1 :: o2 :: o3 :: o4 :: o5 :: o6 :: o7 :: o8 :: o9 :: o10 :: o11 :: o12 :: o13 :: o14 :: o15 :: o16 :: o17 :: o18 :: o19 :: o20 :: o21 :: o22 :: o23 :: o24 :: o25 :: o26 :: o27 :: o28 :: Γ) 28 = o28 := rfl
theorem st_28 {o0 o1 o2 o3 o4 o5 o6 o7 o8 o9 o10 o11 o12 o13 o14 o15 o16 o17 o18 o19 o20 o21 o22 o23 o24 o25 o26 o27 o28 x : Option FV} {Γ : FE} : List.set (o0 :: o1 :: o2 :: o3 :: o4 :: o5 :: o6 :: o7 :: o8 :: o9 :: o10 :: o11 :: o12 :: o13 :: o14 :: o15 :: o16 :: o17 :: o18 :: o19 :: o20 :: o21 :: o22 :: o23 :: o24 :: o25 :: o26 :: o27 :: o28 :: Γ) 28 x = o0 :: o1 :: o2 :: o3 :: o4 :: o5 :: o6 :: o7 :: o8 :: o9 :: o10 :: o11 :: o12 :: o13 :: o14 :: o15 :: o16 :: o17 :: o18 :: o19 :: o20 :: o21 :: o22 :: o23 :: o24 :: o25 :: o26 :: o27 :: x :: Γ := rfl
theorem lk_29 {o0 o1 o2 o3 o4 o5 o6 o7 o8 o9 o10 o11 o12 o13 o14 o15 o16 o17 o18 o19 o20 o21 o22 o23 o24 o25 o26 o27 o28 o29 : Option FV} {Γ : FE} : lookF (o0 :: o1 :: o2 :: o3 :: o4 :: o5 :: o6 :: o7 :: o8 :: o9 :: o10 :: o11 :: o12 :: o13 :: o14 :: o15 :: o16 :: o17 :: o18 :: o19 :: o20 :: o21 :: o22 :: o23 :: o24 :: o25 :: o26 :: o27 :: o28 :: o29 :: Γ) 29 = o29 := rfl
theorem st_29 {o0 o1 o2 o3 o4 o5 o6 o7 o8 o9 o10 o11 o12 o13 o14 o15 o16 o17 o18 o19 o20 o21 o22 o23 o24 o25 o26 o27 o28 o29 x : Option FV} {Γ : FE} : List.set (o0 :: o1 :: o2 :: o3 :: o4 :: o5 :: o6 :: o7 :: o8 :: o9 :: o10 :: o11 :: o12 :: o13 :: o14 :: o15 :: o16 :: o17 :: o18 :: o19 :: o20 :: o21 :: o22 :: o23 :: o24 :: o25 :: o26 :: o27 :: o28 :: o29 :: Γ) 29 x = o0 :: o1 :: o2 :: o3 :: o4 :: o5 :: o6 :: o7 :: o8 :: o9 :: o10 :: o11 :: o12 :: o13 :: o14 :: o15 :: o16 :: o17 :: o18 :: o19 :: o20 :: o21 :: o22 :: o23 :: o24 :: o25 :: o26 :: o27 :: o28 :: x :: Γ := rfl
theorem lk_30 {o0 o1 o2 o3 o4 o5 o6 o7 o8 o9 o10 o11 o12 o13 o14 o15 o16 o17 o18 o19 o20 o21 o22 o23 o24 o25 o26 o27 o28 o29 o30 : Option FV} {Γ : FE} : lookF (o0 :: o1 :: o2 :: o3 :: o4 :: o5 :: o6 :: o7 :: o8 :: o9 :: o10 :: o11 :: o12 :: o13 :: o14 :: o15 :: o16 :: o17 :: o18 :: o19 :: o20 :: o21 :: o22 :: o23 :: o24 :: o25 :: o26 :: o27 :: o28 :: o29 :: o30 :: Γ) 30 = o30 := rfl
theorem st_30 {o0 o1 o2 o3 o4 o5 o6 o7 o8 o9 o10 o11 o12 o13 o14 o15 o16 o17 o18 o19 o20 o21 o22 o23 o24 o25 o26 o27 o28 o29 o30 x : Option FV} {Γ : FE} : List.set (o0 :: o1 :: o2 :: o3 :: o4 :: o5 :: o6 :: o7 :: o8 :: o9 :: o10 :: o11 :: o12 :: o13 :: o14 :: o15 :: o16 :: o17 :: o18 :: o19 :: o20 :: o21 :: o22 :: o23 :: o24 :: o25 :: o26 :: o27 :: o28 :: o29 :: o30 :: Γ) 30 x = o0 :: o1 :: o2 :: o3 :: o4 :: o5 :: o6 :: o7 :: o8 :: o9 :: o10 :: o11 :: o12 :: o13 :: o14 :: o15 :: o16 :: o17 :: o18 :: o19 :: o20 :: o21 :: o22 :: o23 :: o24 :: o25 :: o26 :: o27 :: o28 :: o29 :: x :: Γ := rfl
theorem lk_31 {o0 o1 o2 o3 o4 o5 o6 o7 o8 o9 o10 o11 o12 o13 o14 o15 o16 o17 o18 o19 o20 o21 o22 o23 o24 o25 o26 o27 o28 o29 o30 o31 : Option FV} {Γ : FE} : lookF (o0 :: o1 :: o2 :: o3 :: o4 :: o5 :: o6 :: o7 :: o8 :: o9 :: o10 :: o11 :: o12 :: o13 :: o14 :: o15 :: o16 :: o17 :: o18 :: o19 :: o20 :: o21 :: o22 :: o23 :: o24 :: o25 :: o26 :: o27 :: o28 :: o29 :: o30 :: o31 :: Γ) 31 = o31 := rfl
theorem st_31 {o0 o1 o2 o3 o4 o5 o6 o7 o8 o9 o10 o11 o12 o13 o14 o15 o16 o17 o18 o19 o20 o21 o22 o23 o24 o25 o26 o27 o28 o29 o30 o31 x : Option FV} {Γ : FE} : List.set (o0 :: o1 :: o2 :: o3 :: o4 :: o5 :: o6 :: o7 :: o8 :: o9 :: o10 :: o11 :: o12 :: o13 :: o14 :: o15 :: o16 :: o17 :: o18 :: o19 :: o20 :: o21 :: o22 :: o23 :: o24 :: o25 :: o26 :: o27 :: o28 :: o29 :: o30 :: o31 :: Γ) 31 x = o0 :: o1 :: o2 :: o3 :: o4 :: o5 :: o6 :: o7 :: o8 :: o9 :: o10 :: o11 :: o12 :: o13 :: o14 :: o15 :: o16 :: o17 :: o18 :: o19 :: o20 :: o21 :: o22 :: o23 :: o24 :: o25 :: o26 :: o27 :: o28 :: o29 :: o30 :: x :: Γ := rfl
theorem lk_32 {o0 o1 o2 o3 o4 o5 o6 o7 o8 o9 o10 o11 o12 o13 o14 o15 o16 o17 o18 o19 o20 o21 o22 o23 o24 o25 o26 o27 o28 o29 o30 o31 o32 : Option FV} {Γ : FE} : lookF (o0 :: o1 :: o2 :: o3 :: o4 :: o5 :: o6 :: o7 :: o8 :: o9 :: o10 :: o11 :: o12 :: o13 :: o14 :: o15 :: o16 :: o17 :: o18 :: o19 :: o20 :: o21 :: o22 :: o23 :: o24 :: o25 :: o26 :: o27 :: o28 :: o29 :: o30 :: o31 :: o32 :: Γ) 32 = o32 := rfl
theorem st_32 {o0 o1 o2 o3 o4 o5 o6 o7 o8 o9 o10 o11 o12 o13 o14 o15 o16 o17 o18 o19 o20 o21 o22 o23 o24 o25 o26 o27 o28 o29 o30 o31 o32 x : Option FV} {Γ : FE} : List.set (o0 :: o1 :: o2 :: o3 :: o4 :: o5 :: o6 :: o7 :: o8 :: o9 :: o10 :: o11 :: o12 :: o13 :: o14 :: o15 :: o16 :: o17 :: o18 :: o19 :: o20 :: o21 :: o22 :: o23 :: o24 :: o25 :: o26 :: o27 :: o28 :: o29 :: o30 :: o31 :: o32 :: Γ) 32 x = o0 :: o1 :: o2 :: o3 :: o4 :: o5 :: o6 :: o7 :: o8 :: o9 :: o10 :: o11 :: o12 :: o13 :: o14 :: o15 :: o16 :: o17 :: o18 :: o19 :: o20 :: o21 :: o22 :: o23 :: o24 :: o25 :: o26 :: o27 :: o28 :: o29 :: o30 :: o31 :: x :: Γ := rfl
theorem lk_33 {o0 o1 o2 o3 o4 o5 o6 o7 o8 o9 o10 o11 o12 o13 o14 o15 o16 o17 o18 o19 o20 o21 o22 o23 o24 o25 o26 o27 o28 o29 o30 o31 o32 o33 : Option FV} {Γ : FE} : lookF (o0 :: o1 :: o2 :: o3 :: o4 :: o5 :: o6 :: o7 :: o8 :: o9 :: o10 :: o11 :: o12 :: o13 :: o14 :: o15 :: o16 :: o17 :: o18 :: o19 :: o20 :: o21 :: o22 :: o23 :: o24 :: o25 :: o26 :: o27 :: o28 :: o29 :: o30 :: o31 :: o32 :: o33 :: Γ) 33 = o33 := rfl
theorem st_33 {o0 o1 o2 o3 o4 o5 o6 o7 o8 o9 o10 o11 o12 o13 o14 o15 o16 o17 o18 o19 o20 o21 o22 o23 o24 o25 o26 o27 o28 o29 o30 o31 o32 o33 x : Option FV} {Γ : FE} : List.set (o0 :: o1 :: o2 :: o3 :: o4 :: o5 :: o6 :: o7 :: o8 :: o9 :: o10 :: o11 :: o12 :: o13 :: o14 :: o15 :: o16 :: o17 :: o18 :: o19 :: o20 :: o21 :: o22 :: o23 :: o24 :: o25 :: o26 :: o27 :: o28 :: o29 :: o30 :: o31 :: o32 :: o33 :: Γ) 33 x = o0 :: o1 :: o2 :: o3 :: o4 :: o5 :: o6 :: o7 :: o8 :: o9 :: o10 :: o11 :: o12 :: o13 :: o14 :: o15 :: o16 :: o17 :: o18 :: o19 :: o20 :: o21 :: o22 :: o23 :: o24 :: o25 :: o26 :: o27 :: o28 :: o29 :: o30 :: o31 :: o32 :: x :: Γ := rfl
theorem lk_34 {o0 o1 o2 o3 o4 o5 o6 o7 o8 o9 o10 o11 o12 o13 o14 o15 o16 o17 o18 o19 o20 o21 o22 o23 o24 o25 o26 o27 o28 o29 o30 o31 o32 o33 o34 : Option FV} {Γ : FE} : lookF (o0 :: o1 :: o2 :: o3 :: o4 :: o5 :: o6 :: o7 :: o8 :: o9 :: o10 :: o11 :: o12 :: o13 :: o14 :: o15 :: o16 :: o17 :: o18 :: o19 :: o20 :: o21 :: o22 :: o23 :: o24 :: o25 :: o26 :: o27 :: o28 :: o29 :: o30 :: o31 :: o32 :: o33 :: o34 :: Γ) 34 = o34 := rfl
theorem st_34 {o0 o1 o2 o3 o4 o5 o6 o7 o8 o9 o10 o11 o12 o13 o14 o15 o16 o17 o18 o19 o20 o21 o22 o23 o24 o25 o26 o27 o28 o29 o30 o31 o32 o33 o34 x : Option FV} {Γ : FE} : List.set (o0 :: o1 :: o2 :: o3 :: o4 :: o5 :: o6 :: o7 :: o8 :: o9 :: o10 :: o11 :: o12 :: o13 :: o14 :: o15 :: o16 :: o17 :: o18 :: o19 :: o20 :: o21 :: o22 :: o23 :: o24 :: o25 :: o26 :: o27 :: o28 :: o29 :: o30 :: o31 :: o32 :: o33 :: o34 :: Γ) 34 x = o0 :: o1 :: o2 :: o3 :: o4 :: o5 :: o6 :: o7 :: o8 :: o9 :: o10 :: o11 :: o12 :: o13 :: o14 :: o15 :: o16 :: o17 :: o18 :: o19 :: o20 :: o21 :: o22 :: o23 :: o24 :: o25 :: o26 :: o27 :: o28 :: o29 :: o30 :: o31 :: o32 :: o33 :: x :: Γ := rfl
theorem lk_35 {o0 o1 o2 o3 o4 o5 o6 o7 o8 o9 o10 o11 o12 o13 o14 o15 o16 o17 o18 o19 o20 o21 o22 o23 o24 o25 o26 o27 o28 o29 o30 o31 o32 o33 o34 o35 : Option FV} {Γ : FE} : lookF (o0 :: o1 :: o2 :: o3 :: o4 :: o5 :: o6 :: o7 :: o8 :: o9 :: o10 :: o11 :: o12 :: o13 :: o14 :: o15 :: o16 :: o17 :: o18 :: o19 :: o20 :: o21 :: o22 :: o23 :: o24 :: o25 :: o26 :: o27 :: o28 :: o29 :: o30 :: o31 :: o32 :: o33 :: o34 :: o35 :: Γ) 35 = o35 := rfl
theorem st_35 {o0 o1 o2 o3 o4 o5 o6 o7 o8 o9 o10 o11 o12 o13 o14 o15 o16 o17 o18 o19 o20 o21 o22 o23 o24 o25 o26 o27 o28 o29 o30 o31 o32 o33 o34 o35 x : Option FV} {Γ : FE} : List.set (o0 :: o1 :: o2 :: o3 :: o4 :: o5 :: o6 :: o7 :: o8 :: o9 :: o10 :: o11 :: o12 :: o13 :: o14 :: o15 :: o16 :: o17 :: o18 :: o19 :: o20 :: o21 :: o22 :: o23 :: o24 :: o25 :: o26 :: o27 :: o28 :: o29 :: o30 :: o31 :: o32 :: o33 :: o34 :: o35 :: Γ) 35 x = o0 :: o1 :: o2 :: o3 :: o4 :: o5 :: o6 :: o7 :: o8 :: o9 :: o10 :: o11 :: o12 :: o13 :: o14 :: o15 :: o16 :: o17 :: o18 :: o19 :: o20 :: o21 :: o22 :: o23 :: o24 :: o25 :: o26 :: o27 :: o28 :: o29 :: o30 :: o31 :: o32 :: o33 :: o34 :: x :: Γ := rfl
theorem lk_36 {o0 o1 o2 o3 o4 o5 o6 o7 o8 o9 o10 o11 o12 o13 o14 o15 o16 o17 o18 o19 o20 o21 o22 o23 o24 o25 o26 o27 o28 o29 o30 o31 o32 o33 o34 o35 o36 : Option FV} {Γ : FE} : lookF (o0 :: o1 :: o2 :: o3 :: o4 :: o5 :: o6 :: o7 :: o8 :: o9 :: o10 :: o11 :: o12 :: o13 :: o14 :: o15 :: o16 :: o17 :: o18 :: o19 :: o20 :: o21 :: o22 :: o23 :: o24 :: o25 :: o26 :: o27 :: o28 :: o29 :: o30 :: o31 :: o32 :: o33 :: o34 :: o35 :: o36 :: Γ) 36 = o36 := rfl
theorem st_36 {o0 o1 o2 o3 o4 o5 o6 o7 o8 o9 o10 o11 o12 o13 o14 o15 o16 o17 o18 o19 o20 o21 o22 o23 o24 o25 o26 o27 o28 o29 o30 o31 o32 o33 o34 o35 o36 x : Option FV} {Γ : FE} : List.set (o0 :: o1 :: o2 :: o3 :: o4 :: o5 :: o6 :: o7 :: o8 :: o9 :: o10 :: o11 :: o12 :: o13 :: o14 :: o15 :: o16 :: o17 :: o18 :: o19 :: o20 :: o21 :: o22 :: o23 :: o24 :: o25 :: o26 :: o27 :: o28 :: o29 :: o30 :: o31 :: o32 :: o33 :: o34 :: o35 :: o36 :: Γ) 36 x = o0 :: o1 :: o2 :: o3 :: o4 :: o5 :: o6 :: o7 :: o8 :: o9 :: o10 :: o11 :: o12 :: o13 :: o14 :: o15 :: o16 :: o17 :: o18 :: o19 :: o20 :: o21 :: o22 :: o23 :: o24 :: o25 :: o26 :: o27 :: o28 :: o29 :: o30 :: o31 :: o32 :: o33 :: o34 :: o35 :: x :: Γ := rfl
theorem lk_37 {o0 o1 o2 o3 o4 o5 o6 o7 o8 o9 o10 o11 o12 o13 o14 o15 o16 o17 o18 o19 o20 o21 o22 o23 o24 o25 o26 o27 o28 o29 o30 o31 o32 o33 o34 o35 o36 o37 : Option FV} {Γ : FE} : lookF (o0 :: o1 :: o2 :: o3 :: o4 :: o5 :: o6 :: o7 :: o8 :: o9 :: o10 :: o11 :: o12 :: o13 :: o14 :: o15 :: o16 :: o17 :: o18 :: o19 :: o20 :: o21 :: o22 :: o23 :: o24 :: o25 :: o26 :: o27 :: o28 :: o29 :: o30 :: o31 :: o32 :: o33 :: o34 :: o35 :: o36 :: o37 :: Γ) 37 = o37 := rfl
theorem st_37 {o0 o1 o2 o3 o4 o5 o6 o7 o8 o9 o10 o11 o12 o13 o14 o15 o16 o17 o18 o19 o20 o21 o22 o23 o24 o25 o26 o27 o28 o29 o30 o31 o32 o33 o34 o35 o36 o37 x : Option FV} {Γ : FE} : List.set (o0 :: o1 :: o2 :: o3 :: o4 :: o5 :: o6 :: o7 :: o8 :: o9 :: o10 :: o11 :: o12 :: o13 :: o14 :: o15 :: o16 :: o17 :: o18 :: o19 :: o20 :: o21 :: o22 :: o23 :: o24 :: o25 :: o26 :: o27 :: o28 :: o29 :: o30 :: o31 :: o32 :: o33 :: o34 :: o35 :: o36 :: o37 :: Γ) 37 x = o0 :: o1 :: o2 :: o3 :: o4 :: o5 :: o6 :: o7 :: o8 :: o9 :: o10 :: o11 :: o12 :: o13 :: o14 :: o15 :: o16 :: o17 :: o18 :: o19 :: o20 :: o21 :: o22 :: o23 :: o24 :: o25 :: o26 :: o27 :: o28 :: o29 :: o30 :: o31 :: o32 :: o33 :: o34 :: o35 :: o36 :: x :: Γ := rfl
theorem lk_38 {o0 o1 o2 o3 o4 o5 o6 o7 o8 o9 o10 o11 o12 o13 o14 o15 o16 o17 o18 o19 o20 o21 o22 o23 o24 o25 o26 o27 o28 o29 o30 o31 o32 o33 o34 o35 o36 o37 o38 : Option FV} {Γ : FE} : lookF (o0 :: o1 :: o2 :: o3 :: o4 :: o5 :: o6 :: o7 :: o8 :: o9 :: o10 :: o11 :: o12 :: o13 :: o14 :: o15 :: o16 :: o17 :: o18 :: o19 :: o20 :: o21 :: o22 :: o23 :: o24 :: o25 :: o26 :: o27 :: o28 :: o29 :: o30 :: o31 :: o32 :: o33 :: o34 :: o35 :: o36 :: o37 :: o38 :: Γ) 38 = o38 := rfl
theorem st_38 {o0 o1 o2 o3 o4 o5 o6 o7 o8 o9 o10 o11 o12 o13 o14 o15 o16 o17 o18 o19 o20 o21 o22 o23 o24 o25 o26 o27 o28 o29 o30 o31 o32 o33 o34 o35 o36 o37 o38 x : Option FV} {Γ : FE} : List.set (o0 :: o1 :: o2 :: o3 :: o4 :: o5 :: o6 :: o7 :: o8 :: o9 :: o10 :: o11 :: o12 :: o13 :: o14 :: o15 :: o16 :: o17 :: o18 :: o19 :: o20 :: o21 :: o22 :: o23 :: o24 :: o25 :: o26 :: o27 :: o28 :: o29 :: o30 :: o31 :: o32 :: o33 :: o34 :: o35 :: o36 :: o37 :: o38 :: Γ) 38 x = o0 :: o1 :: o2 :: o3 :: o4 :: o5 :: o6 :: o7 :: o8 :: o9 :: o10 :: o11 :: o12 :: o13 :: o14 :: o15 :: o16 :: o17 :: o18 :: o19 :: o20 :: o21 :: o22 :: o23 :: o24 :: o25 :: o26 :: o27 :: o28 :: o29 :: o30 :: o31 :: o32 :: o33 :: o34 :: o35 :: o36 :: o37 :: x :: Γ := rfl
theorem lk_39 {o0 o1 o2 o3 o4 o5 o6 o7 o8 o9 o10 o11 o12 o13 o14 o15 o16 o17 o18 o19 o20 o21 o22 o23 o24 o25 o26 o27 o28 o29 o30 o31 o32 o33 o34 o35 o36 o37 o38 o39 : Option FV} {Γ : FE} : lookF (o0 :: o1 :: o2 :: o3 :: o4 :: o5 :: o6 :: o7 :: o8 :: o9 :: o10 :: o11 :: o12 :: o13 :: o14 :: o15 :: o16 :: o17 :: o18 :: o19 :: o20 :: o21 :: o22 :: o23 :: o24 :: o25 :: o26 :: o27 :: o28 :: o29 :: o30 :: o31 :: o32 :: o33 :: o34 :: o35 :: o36 :: o37 :: o38 :: o39 :: Γ) 39 = o39 := rfl
theorem st_39 {o0 o1 o2 o3 o4 o5 o6 o7 o8 o9 o10 o11 o12 o13 o14 o15 o16 o17 o18 o19 o20 o21 o22 o23 o24 o25 o26 o27 o28 o29 o30 o31 o32 o33 o34 o35 o36 o37 o38 o39 x : Option FV} {Γ : FE} : List.set (o0 :: o1 :: o2 :: o3 :: o4 :: o5 :: o6 :: o7 :: o8 :: o9 :: o10 :: o11 :: o12 :: o13 :: o14 :: o15 :: o16 :: o17 :: o18 :: o19 :: o20 :: o21 :: o22 :: o23 :: o24 :: o25 :: o26 :: o27 :: o28 :: o29 :: o30 :: o31 :: o32 :: o33 :: o34 :: o35 :: o36 :: o37 :: o38 :: o39 :: Γ) 39 x = o0 :: o1 :: o2 :: o3 :: o4 :: o5 :: o6 :: o7 :: o8 :: o9 :: o10 :: o11 :: o12 :: o13 :: o14 :: o15 :: o16 :: o17 :: o18 :: o19 :: o20 :: o21 :: o22 :: o23 :: o24 :: o25 :: o26 :: o27 :: o28 :: o29 :: o30 :: o31 :: o32 :: o33 :: o34 :: o35 :: o36 :: o37 :: o38 :: x :: Γ := rfl
theorem lk_40 {o0 o1 o2 o3 o4 o5 o6 o7 o8 o9 o10 o11 o12 o13 o14 o15 o16 o17 o18 o19 o20 o21 o22 o23 o24 o25 o26 o27 o28 o29 o30 o31 o32 o33 o34 o35 o36 o37 o38 o39 o40 : Option FV} {Γ : FE} : lookF (o0 :: o1 :: o2 :: o3 :: o4 :: o5 :: o6 :: o7 :: o8 :: o9 :: o10 :: o11 :: o12 :: o13 :: o14 :: o15 :: o16 :: o17 :: o18 :: o19 :: o20 :: o21 :: o22 :: o23 :: o24 :: o25 :: o26 :: o27 :: o28 :: o29 :: o30 :: o31 :: o32 :: o33 :: o34 :: o35 :: o36 :: o37 :: o38 :: o39 :: o40 :: Γ) 40 = o40 := rfl
theorem st_40 {o0 o1 o2 o3 o4 o5 o6 o7 o8 o9 o10 o11 o12 o13 o14 o15 o16 o17 o18 o19 o20 o21 o22 o23 o24 o25 o26 o27 o28 o29 o30 o31 o32 o33 o34 o35 o36 o37 o38 o39 o40 x : Option FV} {Γ : FE} : List.set (o0 :: o1 :: o2 :: o3 :: o4 :: o5 :: o6 :: o7 :: o8 :: o9 :: o10 :: o11 :: o12 :: o13 :: o14 :: o15 :: o16 :: o17 :: o18 :: o19 :: o20 :: o21 :: o22 :: o23 :: o24 :: o25 :: o26 :: o27 :: o28 :: o29 :: o30 :: o31 :: o32 :: o33 :: o34 :: o35 :: o36 :: o37 :: o38 :: o39 :: o40 :: Γ) 40 x = o0 :: o1 :: o2 :: o3 :: o4 :: o5 :: o6 :: o7 :: o8 :: o9 :: o10 :: o11 :: o12 :: o13 :: o14 :: o15 :: o16 :: o17 :: o18 :: o19 :: o20 :: o21 :: o22 :: o23 :: o24 :: o25 :: o26 :: o27 :: o28 :: o29 :: o30 :: o31 :: o32 :: o33 :: o34 :: o35 :: o36 :: o37 :: o38 :: o39 :: x :: Γ := rfl
theorem isi_f_non_bool  : fo_isi [.non, .ty "bool"] = some (.bl false) := isi_f_of (t := "NoneType") rfl (by decide +kernel) (by decide +kernel)
theorem isi_f_non_int  : fo_isi [.non, .ty "int"] = some (.bl false) := isi_f_of (t := "NoneType") rfl (by decide +kernel) (by decide +kernel)
theorem isi_f_non_str  : fo_isi [.non, .ty "str"] = some (.bl false) := isi_f_of (t := "NoneType") rfl (by decide +kernel) (by decide +kernel)
theorem isi_f_non_tuple  : fo_isi [.non, .ty "tuple"] = some (.bl false) := isi_f_of (t := "NoneType") rfl (by decide +kernel) (by decide +kernel)
theorem isi_f_non_list  : fo_isi [.non, .ty "list"] = some (.bl false) := isi_f_of (t := "NoneType") rfl (by decide +kernel) (by decide +kernel)
theorem isi_f_bl_bool {a : Bool} : fo_isi [(.bl a), .ty "bool"] = some (.bl true) := isi_f_of (t := "bool") rfl (by decide +kernel) (by decide +kernel)
theorem isi_f_bl_int {a : Bool} : fo_isi [(.bl a), .ty "int"] = some (.bl true) := isi_f_of (t := "bool") rfl (by decide +kernel) (by decide +kernel)
theorem isi_f_bl_str {a : Bool} : fo_isi [(.bl a), .ty "str"] = some (.bl false) := isi_f_of (t := "bool") rfl (by decide +kernel) (by decide +kernel)
theorem isi_f_bl_tuple {a : Bool} : fo_isi [(.bl a), .ty "tuple"] = some (.bl false) := isi_f_of (t := "bool") rfl (by decide +kernel) (by decide +kernel)
theorem isi_f_bl_list {a : Bool} : fo_isi [(.bl a), .ty "list"] = some (.bl false) := isi_f_of (t := "bool") rfl (by decide +kernel) (by decide +kernel)
theorem isi_f_int_bool {i : Int} : fo_isi [(.int i), .ty "bool"] = some (.bl false) := isi_f_of (t := "int") rfl (by decide +kernel) (by decide +kernel)
theorem isi_f_int_int {i : Int} : fo_isi [(.int i), .ty "int"] = some (.bl true) := isi_f_of (t := "int") rfl (by decide +kernel) (by decide +kernel)
theorem isi_f_int_str {i : Int} : fo_isi [(.int i), .ty "str"] = some (.bl false) := isi_f_of (t := "int") rfl (by decide +kernel) (by decide +kernel)
theorem isi_f_int_tuple {i : Int} : fo_isi [(.int i), .ty "tuple"] = some (.bl false) := isi_f_of (t := "int") rfl (by decide +kernel) (by decide +kernel)
theorem isi_f_int_list {i : Int} : fo_isi [(.int i), .ty "list"] = some (.bl false) := isi_f_of (t := "int") rfl (by decide +kernel) (by decide +kernel)
theorem isi_f_str_bool {s : Str} : fo_isi [(.str s), .ty "bool"] = some (.bl false) := isi_f_of (t := "str") rfl (by decide +kernel) (by decide +kernel)
theorem isi_f_str_int {s : Str} : fo_isi [(.str s), .ty "int"] = some (.bl false) := isi_f_of (t := "str") rfl (by decide +kernel) (by decide +kernel)
theorem isi_f_str_str {s : Str} : fo_isi [(.str s), .ty "str"] = some (.bl true) := isi_f_of (t := "str") rfl (by decide +kernel) (by decide +kernel)
theorem isi_f_str_tuple {s : Str} : fo_isi [(.str s), .ty "tuple"] = some (.bl false) := isi_f_of (t := "str") rfl (by decide +kernel) (by decide +kernel)
theorem isi_f_str_list {s : Str} : fo_isi [(.str s), .ty "list"] = some (.bl false) := isi_f_of (t := "str") rfl (by decide +kernel) (by decide +kernel)
theorem isi_f_tup_bool {xs : List D} : fo_isi [(.tup xs), .ty "bool"] = some (.bl false) := isi_f_of (t := "tuple") rfl (by decide +kernel) (by decide +kernel)
theorem isi_f_tup_int {xs : List D} : fo_isi [(.tup xs), .ty "int"] = some (.bl false) := isi_f_of (t := "tuple") rfl (by decide +kernel) (by decide +kernel)
theorem isi_f_tup_str {xs : List D} : fo_isi [(.tup xs), .ty "str"] = some (.bl false) := isi_f_of (t := "tuple") rfl (by decide +kernel) (by decide +kernel)
theorem isi_f_tup_tuple {xs : List D} : fo_isi [(.tup xs), .ty "tuple"] = some (.bl true) := isi_f_of (t := "tuple") rfl (by decide +kernel) (by decide +kernel)
theorem isi_f_tup_list {xs : List D} : fo_isi [(.tup xs), .ty "list"] = some (.bl false) := isi_f_of (t := "tuple") rfl (by decide +kernel) (by decide +kernel)
theorem isi_f_lst_bool {xs : List D} : fo_isi [(.lst xs), .ty "bool"] = some (.bl false) := isi_f_of (t := "list") rfl (by decide +kernel) (by decide +kernel)
theorem isi_f_lst_int {xs : List D} : fo_isi [(.lst xs), .ty "int"] = some (.bl false) := isi_f_of (t := "list") rfl (by decide +kernel) (by decide +kernel)
theorem isi_f_lst_str {xs : List D} : fo_isi [(.lst xs), .ty "str"] = some (.bl false) := isi_f_of (t := "list") rfl (by decide +kernel) (by decide +kernel)
theorem isi_f_lst_tuple {xs : List D} : fo_isi [(.lst xs), .ty "tuple"] = some (.bl false) := isi_f_of (t := "list") rfl (by decide +kernel) (by decide +kernel)
theorem isi_f_lst_list {xs : List D} : fo_isi [(.lst xs), .ty "list"] = some (.bl true) := isi_f_of (t := "list") rfl (by decide +kernel) (by decide +kernel)
section
variable {i j k : Int} {a b : Bool} {s z : Str} {xs ys : List D} {x y : D} {n : Nat} {lo hi : Option Int} {α : Type} {l : List α} {g : α → Int} {p : α → Bool} {ns : List Int} {bs : List Bool}
theorem xv_add_int : fo_add (.int i) (.int j) = some (.int (i + j)) := rfl
theorem xv_add_lst : fo_add (.lst xs) (.lst ys) = gOk (xs.length + ys.length ≤ sizeLine) (.lst (xs ++ ys)) := rfl
theorem xv_add_tup : fo_add (.tup xs) (.tup ys) = gOk (xs.length + ys.length ≤ sizeLine) (.tup (xs ++ ys)) := rfl
theorem xv_add_str : fo_add (.str s) (.str z) = gOk (s.length + z.length ≤ sizeLine) (.str (s ++ z)) := rfl
theorem xv_sub : fo_sub (.int i) (.int j) = some (.int (i - j)) := rfl
theorem xv_mul_int : fo_mul (.int i) (.int j) = gOk ((-(2 ^ 64) < i ∧ i < 2 ^ 64) ∨ (-(2 ^ 64) < j ∧ j < 2 ^ 64)) (.int (i * j)) := rfl
theorem xv_mul_lst : fo_mul (.lst xs) (.int k) = gOk (-(2 ^ 63) ≤ k ∧ k < 2 ^ 63 ∧ xs.length * k.toNat ≤ sizeLine) (.lst (List.replicate k.toNat xs).flatten) := rfl
theorem xv_fdiv : fo_fdiv (.int i) (.int j) = gOk (0 < j ∧ j < 1073741824) (.int (i / j)) := rfl
theorem xv_mod : fo_mod (.int i) (.int j) = gOk (0 < j) (.int (i % j)) := rfl
theorem xv_pow : fo_pow (.int i) (.int j) = gOk (0 ≤ j ∧ j ≤ 1000000 ∧ i.natAbs < 2 ^ 64) (.int (i ^ j.toNat)) := rfl
theorem xv_neg : fo_neg (.int i) = some (.int (-i)) := rfl
theorem xv_lt : fo_lt (.int i) (.int j) = some (.bl (decide (i < j))) := rfl
theorem xv_le : fo_le (.int i) (.int j) = some (.bl (decide (i ≤ j))) := rfl
theorem xv_gt : fo_gt (.int i) (.int j) = some (.bl (decide (j < i))) := rfl
theorem xv_ge : fo_ge (.int i) (.int j) = some (.bl (decide (j ≤ i))) := rfl
theorem xv_iadd : fo_iadd (.int i) (.int j) = some (.int (i + j)) := rfl
theorem xv_eq_int : fo_eq (.int i) (.int j) = some (.bl (decide (i = j))) := rfl
theorem xv_eq_bl : fo_eq (.bl a) (.bl b) = some (.bl (decide (a = b))) := rfl
theorem xv_eq_str : fo_eq (.str s) (.str z) = some (.bl (decide (s = z))) := rfl
theorem xv_eq_nn : fo_eq .non .non = some (.bl true) := rfl
theorem xv_eq_2017 : fo_eq .non (.int i) = some (.bl false) := rfl
theorem xv_eq_2084 : fo_eq (.int i) .non = some (.bl false) := rfl
theorem xv_eq_2151 : fo_eq .non (.str s) = some (.bl false) := rfl
theorem xv_eq_2218 : fo_eq (.str s) .non = some (.bl false) := rfl
theorem xv_eq_2285 : fo_eq .non (.bl a) = some (.bl false) := rfl
theorem xv_eq_2351 : fo_eq (.bl a) .non = some (.bl false) := rfl
theorem xv_eq_2417 : fo_eq (.int i) (.str s) = some (.bl false) := rfl
theorem xv_eq_2488 : fo_eq (.str s) (.int i) = some (.bl false) := rfl
theorem xv_eq_2559 : fo_eq (.bl a) (.str s) = some (.bl false) := rfl
theorem xv_eq_2629 : fo_eq (.str s) (.bl a) = some (.bl false) := rfl
theorem xv_eq_tup : fo_eq (.tup xs) (.tup ys) = gOk (eqOk (.tup xs) (.tup ys)) (.bl (PyData.eqv (py (.tup xs)) (py (.tup ys)))) := rfl
theorem xv_eq_lst : fo_eq (.lst xs) (.lst ys) = gOk (eqOk (.lst xs) (.lst ys)) (.bl (PyData.eqv (py (.lst xs)) (py (.lst ys)))) := rfl
theorem xv_ne_int : fo_ne (.int i) (.int j) = some (.bl (!decide (i = j))) := rfl
theorem xv_ne_bl : fo_ne (.bl a) (.bl b) = some (.bl (!decide (a = b))) := rfl
theorem xv_ne_str : fo_ne (.str s) (.str z) = some (.bl (!decide (s = z))) := rfl
theorem xv_ne_nn : fo_ne .non .non = some (.bl false) := rfl
theorem xv_ne_3273 : fo_ne .non (.int i) = some (.bl true) := rfl
theorem xv_ne_3339 : fo_ne (.int i) .non = some (.bl true) := rfl
theorem xv_ne_3405 : fo_ne .non (.str s) = some (.bl true) := rfl
theorem xv_ne_3471 : fo_ne (.str s) .non = some (.bl true) := rfl
theorem xv_ne_3537 : fo_ne .non (.bl a) = some (.bl true) := rfl
theorem xv_ne_3602 : fo_ne (.bl a) .non = some (.bl true) := rfl
theorem xv_ne_3667 : fo_ne (.int i) (.str s) = some (.bl true) := rfl
theorem xv_ne_3737 : fo_ne (.str s) (.int i) = some (.bl true) := rfl
theorem xv_ne_3807 : fo_ne (.bl a) (.str s) = some (.bl true) := rfl
theorem xv_ne_3876 : fo_ne (.str s) (.bl a) = some (.bl true) := rfl
theorem xv_ne_tup : fo_ne (.tup xs) (.tup ys) = gOk (eqOk (.tup xs) (.tup ys)) (.bl (!PyData.eqv (py (.tup xs)) (py (.tup ys)))) := rfl
theorem xv_ne_lst : fo_ne (.lst xs) (.lst ys) = gOk (eqOk (.lst xs) (.lst ys)) (.bl (!PyData.eqv (py (.lst xs)) (py (.lst ys)))) := rfl
theorem xv_is_non : fo_is .non .non = some (.bl true) := rfl
theorem xv_not_non : fo_not .non .non = some (.bl false) := rfl
theorem xv_is_bl : fo_is (.bl a) .non = some (.bl false) := rfl
theorem xv_not_bl : fo_not (.bl a) .non = some (.bl true) := rfl
theorem xv_is_int : fo_is (.int i) .non = some (.bl false) := rfl
theorem xv_not_int : fo_not (.int i) .non = some (.bl true) := rfl
theorem xv_is_str : fo_is (.str s) .non = some (.bl false) := rfl
theorem xv_not_str : fo_not (.str s) .non = some (.bl true) := rfl
theorem xv_is_tup : fo_is (.tup xs) .non = some (.bl false) := rfl
theorem xv_not_tup : fo_not (.tup xs) .non = some (.bl true) := rfl
theorem xv_is_lst : fo_is (.lst xs) .non = some (.bl false) := rfl
theorem xv_not_lst : fo_not (.lst xs) .non = some (.bl true) := rfl
theorem xv_is_obj : fo_is (.obj C nms ds) .non = some (.bl false) := rfl
theorem xv_not_obj : fo_not (.obj C nms ds) .non = some (.bl true) := rfl
theorem xv_is_bb : fo_is (.bl a) (.bl b) = some (.bl (decide (a = b))) := rfl
theorem xv_not_bb : fo_not (.bl a) (.bl b) = some (.bl (!decide (a = b))) := rfl
theorem xv_items_lst : itemsF (.lst xs) = some xs := rfl
theorem xv_items_tup : itemsF (.tup xs) = some xs := rfl
theorem xv_items_scr : itemsF (.scr xs) = some xs := rfl
theorem xv_ix : fo_ix x (.int i) = (itemsF x).bind fun xs => L2.atI xs i := rfl
theorem xv_in_tupi : fo_in (.int i) (.tup ys) = gOk (flatD (.int i) = true ∧ ys.all flatD = true) (.bl (ys.any fun z => eqF z (.int i))) := rfl
theorem xv_notIn_tupi : fo_notIn (.int i) (.tup ys) = gOk (flatD (.int i) = true ∧ ys.all flatD = true) (.bl (!ys.any fun z => eqF z (.int i))) := rfl
theorem xv_in_tups : fo_in (.str s) (.tup ys) = gOk (flatD (.str s) = true ∧ ys.all flatD = true) (.bl (ys.any fun z => eqF z (.str s))) := rfl
theorem xv_notIn_tups : fo_notIn (.str s) (.tup ys) = gOk (flatD (.str s) = true ∧ ys.all flatD = true) (.bl (!ys.any fun z => eqF z (.str s))) := rfl
theorem xv_in_lsti : fo_in (.int i) (.lst ys) = gOk (flatD (.int i) = true ∧ ys.all flatD = true) (.bl (ys.any fun z => eqF z (.int i))) := rfl
theorem xv_notIn_lsti : fo_notIn (.int i) (.lst ys) = gOk (flatD (.int i) = true ∧ ys.all flatD = true) (.bl (!ys.any fun z => eqF z (.int i))) := rfl
theorem xv_in_lsts : fo_in (.str s) (.lst ys) = gOk (flatD (.str s) = true ∧ ys.all flatD = true) (.bl (ys.any fun z => eqF z (.str s))) := rfl
theorem xv_notIn_lsts : fo_notIn (.str s) (.lst ys) = gOk (flatD (.str s) = true ∧ ys.all flatD = true) (.bl (!ys.any fun z => eqF z (.str s))) := rfl
theorem xv_repT : fo_repT (.tup xs) (.int k) = gOk (xs ≠ [] ∧ 2 ≤ k ∧ k ≤ 1000 ∧ xs.length ≤ 1000) (.tup (List.replicate k.toNat xs).flatten) := rfl
theorem xv_len_lst : fo_len [.lst xs] = some (.int (xs.length : Nat)) := rfl
theorem xv_len_tup : fo_len [.tup xs] = some (.int (xs.length : Nat)) := rfl
theorem xv_len_scr : fo_len [.scr xs] = some (.int (xs.length : Nat)) := rfl
theorem xv_len_str : fo_len [.str s] = gOk (s.length ≤ sizeLine) (.int (s.length : Nat)) := rfl
theorem xv_abs : fo_abs [.int i] = some (.int (if i < 0 then -i else i)) := rfl
theorem xv_max2 : fo_max2 [.int i, .int j] = some (.int (max i j)) := rfl
theorem xv_max3 : fo_max3 [.int i, .int j, .int k] = some (.int (max (max i j) k)) := rfl
theorem xv_maxA : fo_maxA [x] = (itemsF x).bind fun xs => (asInts xs).bind fun ns => ns.max?.map D.int := rfl
theorem xv_min2 : fo_min2 [.int i, .int j] = some (.int (min i j)) := rfl
theorem xv_min3 : fo_min3 [.int i, .int j, .int k] = some (.int (min (min i j) k)) := rfl
theorem xv_minA : fo_minA [x] = (itemsF x).bind fun xs => (asInts xs).bind fun ns => ns.min?.map D.int := rfl
theorem xv_int_int : fo_int [.int i] = some (.int i) := rfl
theorem xv_int_bl : fo_int [.bl a] = some (.int (if a then 1 else 0)) := rfl
theorem xv_sort : fo_sort [x] = (itemsF x).bind fun xs => (asInts xs).map fun ns => .lst ((sortI ns).map D.int) := rfl
theorem xv_sumL : fo_sumL [.lst xs] = (asInts xs).map fun ns => .int ns.sum := rfl
theorem xv_allL : fo_allL [.lst xs] = (asBls xs).map fun ns => .bl (ns.all id) := rfl
theorem xv_anyL : fo_anyL [.lst xs] = (asBls xs).map fun ns => .bl (ns.any id) := rfl
theorem xv_tuple : fo_tuple [x] = (itemsF x).map .tup := rfl
theorem xv_list : fo_list [x] = (itemsF x).map .lst := rfl
theorem xv_sl_lst : fo_sl (.lst xs) lo hi = some (.lst (cutD xs lo hi)) := rfl
theorem xv_sl_scr : fo_sl (.scr xs) lo hi = some (.lst (cutD xs lo hi)) := rfl
theorem xv_sl_tup : fo_sl (.tup xs) lo hi = some (.tup (cutD xs lo hi)) := rfl
theorem xv_rev : fo_rev (.lst xs) = some (.lst xs.reverse) := rfl
theorem xv_revM : fo_revM (.lst xs) = some (.l xs.reverse) := rfl
theorem xv_fld : fo_fld C nms n (.obj C nms xs) = xs[n]? := if_pos ⟨rfl, rfl⟩
theorem xv_asB : asB (.bl a) = some a := rfl
theorem xv_asI : asI (.int i) = some i := rfl
theorem xv_dKeyS : dKey (.str s) = some (.inr s) := rfl
theorem xv_dKeyI : dKey (.int i) = some (.inl i) := rfl
theorem xv_rdX : rdX (.v x) = some x := rfl
theorem xv_rdV : rdV (.v x) = some x := rfl
theorem xv_rdVw : rdV (.w x) = some x := rfl
theorem xv_rdVo : rdV (.o (.l xs)) = some (.lst xs) := rfl
theorem xv_rdW : rdW (.v x) = some x := rfl
theorem xv_rdWw : rdW (.w x) = some x := rfl
theorem xv_asL : asL (.l xs) = some (.lst xs) := rfl
theorem xv_retV : retV (.rt (.v x)) = some x := rfl
theorem xv_retVl : retV (.rt (.o (.l xs))) = some (.lst xs) := rfl
theorem xv_retVn : retV (.nx Γ) = some .non := rfl
theorem xv_retO : retO (.rt (.o o)) = some o := rfl
theorem xv_rtv : rtv (.v x) = some (.rt (.v x)) := rfl
theorem xv_rto : rtv (.o o) = some (.rt (.o o)) := rfl
theorem xv_then_nx : thenF u (.nx Γ) = u Γ := rfl
theorem xv_then_rt : thenF u (.rt v) = some (.rt v) := rfl
theorem xv_then_bk : thenF u (.bk Γ) = some (.bk Γ) := rfl
theorem xv_then_ct : thenF u (.ct Γ) = some (.ct Γ) := rfl
theorem xv_asInts : asInts (ns.map D.int) = some ns := asInts_map ns
theorem xv_asIntsF : asInts (l.map fun x => D.int (g x)) = some (l.map g) := asInts_mapF g l
theorem xv_asInts0 : asInts [] = some [] := rfl
theorem xv_asIntsC : asInts (.int i :: xs) = (asInts xs).map (i :: ·) := rfl
theorem xv_asBls : asBls (bs.map D.bl) = some bs := asBls_map bs
theorem xv_asBlsF : asBls (l.map fun x => D.bl (p x)) = some (l.map p) := asBls_mapF p l
theorem xv_asBls0 : asBls [] = some [] := rfl
theorem xv_asBlsC : asBls (.bl a :: xs) = (asBls xs).map (a :: ·) := rfl
theorem xv_at0 : L2.atI (x :: xs) 0 = some x := atI_0
theorem xv_at1 : L2.atI (y :: x :: xs) 1 = some x := atI_s (n := 0) atI_0
theorem xv_at2 {y0 y1 : D} : L2.atI (y0 :: y1 :: x :: xs) 2 = some x := atI_s (n := 1) xv_at1
theorem xv_at3 {y0 y1 y2 : D} : L2.atI (y0 :: y1 :: y2 :: x :: xs) 3 = some x := atI_s (n := 2) xv_at2
theorem xv_at4 {y0 y1 y2 y3 : D} : L2.atI (y0 :: y1 :: y2 :: y3 :: x :: xs) 4 = some x := atI_s (n := 3) xv_at3
theorem xv_at5 {y0 y1 y2 y3 y4 : D} : L2.atI (y0 :: y1 :: y2 :: y3 :: y4 :: x :: xs) 5 = some x := atI_s (n := 4) xv_at4
theorem xv_at6 {y0 y1 y2 y3 y4 y5 : D} : L2.atI (y0 :: y1 :: y2 :: y3 :: y4 :: y5 :: x :: xs) 6 = some x := atI_s (n := 5) xv_at5
theorem xv_at7 {y0 y1 y2 y3 y4 y5 y6 : D} : L2.atI (y0 :: y1 :: y2 :: y3 :: y4 :: y5 :: y6 :: x :: xs) 7 = some x := atI_s (n := 6) xv_at6
theorem xv_at8 {y0 y1 y2 y3 y4 y5 y6 y7 : D} : L2.atI (y0 :: y1 :: y2 :: y3 :: y4 :: y5 :: y6 :: y7 :: x :: xs) 8 = some x := atI_s (n := 7) xv_at7
theorem xv_ge0 {α : Type} {z : α} {xs : List α} : (z :: xs)[0]? = some z := rfl
theorem xv_ge1 {α : Type} {y0 z : α} {xs : List α} : (y0 :: z :: xs)[1]? = some z := rfl
theorem xv_ge2 {α : Type} {y0 y1 z : α} {xs : List α} : (y0 :: y1 :: z :: xs)[2]? = some z := rfl
theorem xv_ge3 {α : Type} {y0 y1 y2 z : α} {xs : List α} : (y0 :: y1 :: y2 :: z :: xs)[3]? = some z := rfl
theorem xv_ge4 {α : Type} {y0 y1 y2 y3 z : α} {xs : List α} : (y0 :: y1 :: y2 :: y3 :: z :: xs)[4]? = some z := rfl
theorem xv_ge5 {α : Type} {y0 y1 y2 y3 y4 z : α} {xs : List α} : (y0 :: y1 :: y2 :: y3 :: y4 :: z :: xs)[5]? = some z := rfl
theorem xv_ge6 {α : Type} {y0 y1 y2 y3 y4 y5 z : α} {xs : List α} : (y0 :: y1 :: y2 :: y3 :: y4 :: y5 :: z :: xs)[6]? = some z := rfl
theorem xv_ge7 {α : Type} {y0 y1 y2 y3 y4 y5 y6 z : α} {xs : List α} : (y0 :: y1 :: y2 :: y3 :: y4 :: y5 :: y6 :: z :: xs)[7]? = some z := rfl
theorem xv_ge8 {α : Type} {y0 y1 y2 y3 y4 y5 y6 y7 z : α} {xs : List α} : (y0 :: y1 :: y2 :: y3 :: y4 :: y5 :: y6 :: y7 :: z :: xs)[8]? = some z := rfl
theorem xv_ge9 {α : Type} {y0 y1 y2 y3 y4 y5 y6 y7 y8 z : α} {xs : List α} : (y0 :: y1 :: y2 :: y3 :: y4 :: y5 :: y6 :: y7 :: y8 :: z :: xs)[9]? = some z := rfl
theorem xv_ge10 {α : Type} {y0 y1 y2 y3 y4 y5 y6 y7 y8 y9 z : α} {xs : List α} : (y0 :: y1 :: y2 :: y3 :: y4 :: y5 :: y6 :: y7 :: y8 :: y9 :: z :: xs)[10]? = some z := rfl
theorem xv_ge11 {α : Type} {y0 y1 y2 y3 y4 y5 y6 y7 y8 y9 y10 z : α} {xs : List α} : (y0 :: y1 :: y2 :: y3 :: y4 :: y5 :: y6 :: y7 :: y8 :: y9 :: y10 :: z :: xs)[11]? = some z := rfl
theorem xv_ge12 {α : Type} {y0 y1 y2 y3 y4 y5 y6 y7 y8 y9 y10 y11 z : α} {xs : List α} : (y0 :: y1 :: y2 :: y3 :: y4 :: y5 :: y6 :: y7 :: y8 :: y9 :: y10 :: y11 :: z :: xs)[12]? = some z := rfl
end
section
variable {c : Prop} [Decidable c]
theorem l_some {α : Type} {a b : α} : (if c then some a else some b) = some (if c then a else b) := by split <;> rfl
theorem l_int {a b : Int} : (if c then D.int a else D.int b) = D.int (if c then a else b) := by split <;> rfl
theorem l_bl {a b : Bool} : (if c then D.bl a else D.bl b) = D.bl (if c then a else b) := by split <;> rfl
theorem l_str {a b : Str} : (if c then D.str a else D.str b) = D.str (if c then a else b) := by split <;> rfl
theorem l_tup {a b : List D} : (if c then D.tup a else D.tup b) = D.tup (if c then a else b) := by split <;> rfl
theorem l_lst {a b : List D} : (if c then D.lst a else D.lst b) = D.lst (if c then a else b) := by split <;> rfl
theorem l_rt {a b : FV} : (if c then FOut.rt a else FOut.rt b) = FOut.rt (if c then a else b) := by split <;> rfl
theorem l_nx {a b : FE} : (if c then FOut.nx a else FOut.nx b) = FOut.nx (if c then a else b) := by split <;> rfl
theorem l_v {a b : D} : (if c then FV.v a else FV.v b) = FV.v (if c then a else b) := by split <;> rfl
theorem l_cons {a b : Option FV} {l m : FE} : (if c then a :: l else b :: m) = ((if c then a else b) :: (if c then l else m) : FE) := by split <;> rfl
theorem l_then {u : FS} {a b : FOut} : thenF u (if c then a else b) = if c then thenF u a else thenF u b := by split <;> rfl
theorem l_bind {α β : Type} {a b : Option α} {f : α → Option β} : (if c then a else b).bind f = if c then a.bind f else b.bind f := by split <;> rfl
theorem l_map {α β : Type} {a b : Option α} {f : α → β} : (if c then a else b).map f = if c then a.map f else b.map f := by split <;> rfl
theorem l_retV {a b : FOut} : retV (if c then a else b) = if c then retV a else retV b := by split <;> rfl
theorem l_and {a b : Bool} : (if a = true then b else false) = (a && b) := by cases a <;> rfl
theorem l_or {a b : Bool} : (if a = true then true else b) = (a || b) := by cases a <;> rfl
theorem l_ftp : (if c then false else true) = !decide c := by by_cases h : c <;> simp [h]
theorem l_ft {a : Bool} : (if a = true then false else true) = !a := by cases a <;> rfl
theorem l_same {α : Type} {a : α} : (if c then a else a) = a := by split <;> rfl
theorem l_dand {b : Bool} : (if c then b else false) = (decide c && b) := by by_cases h : c <;> simp [h]
theorem l_dor {b : Bool} : (if c then true else b) = (decide c || b) := by by_cases h : c <;> simp [h]
theorem if_sz {α : Type} {n : Nat} {a b : α} [Decidable (n ≤ sizeLine)] (h : n ≤ sizeLine) : (if n ≤ sizeLine then a else b) = a := if_pos h
theorem if_15 {α : Type} {n : Nat} {a b : α} [Decidable (n ≤ 15)] (h : n ≤ 15) : (if n ≤ 15 then a else b) = a := if_pos h
theorem if_szl {α : Type} {n : Nat} {a b : α} [Decidable (n < sizeLine)] (h : n < sizeLine) : (if n < sizeLine then a else b) = a := if_pos h
theorem gOk_if {p : Prop} {d : D} (h : p) : gOk p d = some d := gOk_t h
end
theorem ap_fiRng1 {a : FE → Option (List D)} {Γ : FE} : fiRng1 a Γ = (a Γ).bind rng1F := rfl
theorem ap_fiRng2 {a : FE → Option (List D)} {Γ : FE} : fiRng2 a Γ = (a Γ).bind rng2F := rfl
theorem xv_rng1 {j : Int} (h : -(2 ^ 62) ≤ j ∧ j < 2 ^ 62) : rng1F [.int j] = some ((iota 0 j.toNat).map D.int) := by unfold rng1F; simp only []; rw [if_pos h, rngD_iota]
theorem xv_rng2 {i j : Int} (h : -(2 ^ 62) ≤ i ∧ i < 2 ^ 62 ∧ -(2 ^ 62) ≤ j ∧ j < 2 ^ 62) : rng2F [.int i, .int j] = some ((iota i (j - i).toNat).map D.int) := by unfold rng2F; simp only []; rw [if_pos h, rngD_iota]
end DL

set_option Elab.async false
set_option linter.all false
set_option maxRecDepth 100000
set_option maxHeartbeats 4000000
/-! FL: comprehensions and loops in one step; _law_like. -/
namespace DL
open PySem PySem.Spec PyProof.Rows L2
local macro_rules | `(tactic| walk_at "evh") => `(tactic| simp (maxSteps := 3000000) (implicitDefEqProofs := false) (disch := first | assumption | decide | ((try simp only [List.length_cons, List.length_nil, List.length_append, List.length_map, iota_length, sizeLine_eq, RgOk]); omega)) only [*, ↓in_intsT, ↓in_intsL, ↓notIn_intsT, ↓notIn_intsL, ap_fTest, ap_fAnd, ap_fOr, ap_fNot, ap_fAndV, ap_fOrV, ap_fNotV, ap_fIf, ap_fChain, ap_fYes, ap_fNoPart, ap_fPart, ap_fSl, ap_fRev, ap_fRevM, ap_fListM, ap_fSortM, ap_fFld, ap_fTupRg1, ap_fTupRg2, ap_fLstRg1, ap_fLstRg2, ap_fIsi2, ap_fVarX, ap_fVarV, ap_fVarW, ap_fC, ap_fOV, ap_fOp, ap_fUn, ap_fCB, ap_fNil, ap_fCons, ap_fTup, ap_fLst, ap_fLstM, ap_fCall, ap_fCallN, ap_fMake, ap_fNext, ap_fBreak, ap_fCont, ap_fSeq, ap_fDrop, ap_fRet, ap_fRetO, ap_fRetVar, ap_fRetN, ap_fIfS, ap_fNever, ap_fAsg, ap_fAsgO, ap_fAug, ap_fMNil, ap_fMX, ap_fMO, ap_fPar, ap_fTupM, ap_fApp, ap_fPutK, ap_fPutL, ap_fGetK, ap_fInK, ap_fNotInK, ap_fLenK, ap_fListK, ap_fDicNew, ap_fDisp, ap_fIndex, ap_fgName, ap_fgNil, ap_fgCons, ap_fgTup, ap_fiAny, ap_fiEnum, ap_fiZip, ap_fFor, ap_fLcM, xv_mx1, xv_mx2, xv_mx3, xv_mx4, xv_mn1, xv_mn2, xv_mn3, xv_mn4, xv_ne_nil, xv_eq_nil, xv_forN, xv_forC, xv_forK1, xv_forK2, xv_forK3, xv_forK4, l_forK, xv_lcN, xv_lcC, xv_zip0, xv_zipC, enumD_0, enumD_1, enumD_2, enumD_3, enumD_4, enumD_5, ap_fiRng1, ap_fiRng2, xv_rng1, xv_rng2, lookL, lookK, fPairs, setManyF, wipeF, runF, runO, startF, toW, lk_0, st_0, lk_1, st_1, lk_2, st_2, lk_3, st_3, lk_4, st_4, lk_5, st_5, lk_6, st_6, lk_7, st_7, lk_8, st_8, lk_9, st_9, lk_10, st_10, lk_11, st_11, lk_12, st_12, lk_13, st_13, lk_14, st_14, lk_15, st_15, lk_16, st_16, lk_17, st_17, lk_18, st_18, lk_19, st_19, lk_20, st_20, lk_21, st_21, lk_22, st_22, lk_23, st_23, lk_24, st_24, lk_25, st_25, lk_26, st_26, lk_27, st_27, lk_28, st_28, lk_29, st_29, lk_30, st_30, lk_31, st_31, lk_32, st_32, lk_33, st_33, lk_34, st_34, lk_35, st_35, lk_36, st_36, lk_37, st_37, lk_38, st_38, lk_39, st_39, lk_40, st_40, isi_f_non_bool, isi_f_non_int, isi_f_non_str, isi_f_non_tuple, isi_f_non_list, isi_f_bl_bool, isi_f_bl_int, isi_f_bl_str, isi_f_bl_tuple, isi_f_bl_list, isi_f_int_bool, isi_f_int_int, isi_f_int_str, isi_f_int_tuple, isi_f_int_list, isi_f_str_bool, isi_f_str_int, isi_f_str_str, isi_f_str_tuple, isi_f_str_list, isi_f_tup_bool, isi_f_tup_int, isi_f_tup_str, isi_f_tup_tuple, isi_f_tup_list, isi_f_lst_bool, isi_f_lst_int, isi_f_lst_str, isi_f_lst_tuple, isi_f_lst_list, xv_add_int, xv_add_lst, xv_add_tup, xv_add_str, xv_sub, xv_mul_int, xv_mul_lst, xv_fdiv, xv_mod, xv_pow, xv_neg, xv_lt, xv_le, xv_gt, xv_ge, xv_iadd, xv_eq_int, xv_eq_bl, xv_eq_str, xv_eq_nn, xv_eq_2017, xv_eq_2084, xv_eq_2151, xv_eq_2218, xv_eq_2285, xv_eq_2351, xv_eq_2417, xv_eq_2488, xv_eq_2559, xv_eq_2629, xv_eq_tup, xv_ne_int, xv_ne_bl, xv_ne_str, xv_ne_nn, xv_ne_3273, xv_ne_3339, xv_ne_3405, xv_ne_3471, xv_ne_3537, xv_ne_3602, xv_ne_3667, xv_ne_3737, xv_ne_3807, xv_ne_3876, xv_ne_tup, xv_is_non, xv_not_non, xv_is_bl, xv_not_bl, xv_is_int, xv_not_int, xv_is_str, xv_not_str, xv_is_tup, xv_not_tup, xv_is_lst, xv_not_lst, xv_is_obj, xv_not_obj, xv_is_bb, xv_not_bb, xv_items_lst, xv_items_tup, xv_items_scr, xv_ix, xv_in_tupi, xv_notIn_tupi, xv_in_tups, xv_notIn_tups, xv_in_lsti, xv_notIn_lsti, xv_in_lsts, xv_notIn_lsts, xv_repT, xv_len_lst, xv_len_tup, xv_len_scr, xv_len_str, xv_abs, xv_max2, xv_max3, xv_maxA, xv_min2, xv_min3, xv_minA, xv_int_int, xv_int_bl, xv_sort, xv_sumL, xv_allL, xv_anyL, xv_tuple, xv_list, xv_sl_lst, xv_sl_scr, xv_sl_tup, xv_rev, xv_revM, xv_fld, xv_asB, xv_asI, xv_dKeyS, xv_dKeyI, xv_rdX, xv_rdV, xv_rdVw, xv_rdVo, xv_rdW, xv_rdWw, xv_asL, xv_retV, xv_retVl, xv_retVn, xv_retO, xv_rtv, xv_rto, xv_then_nx, xv_then_rt, xv_then_bk, xv_then_ct, xv_asInts, xv_asIntsF, xv_asInts0, xv_asIntsC, xv_asBls, xv_asBlsF, xv_asBls0, xv_asBlsC, xv_at0, xv_at1, xv_at2, xv_at3, xv_at4, xv_at5, xv_at6, xv_at7, xv_at8, xv_ge0, xv_ge1, xv_ge2, xv_ge3, xv_ge4, xv_ge5, xv_ge6, xv_ge7, xv_ge8, xv_ge9, xv_ge10, xv_ge11, xv_ge12, l_some, l_int, l_bl, l_str, l_tup, l_lst, l_rt, l_nx, l_v, l_cons, l_then, l_retV, l_and, l_or, l_ft, l_ftp, l_same, l_dand, l_dor, gOk_if, if_sz, if_szl, if_15, Option.bind_some, Option.bind_none, Option.map_some, Option.map_none, List.nil_append, List.cons_append, List.append_nil, List.length_cons, List.length_nil, List.map_cons, List.map_nil, List.replicate_zero, List.replicate_succ, decide_eq_true_eq, Bool.not_eq_true', decide_eq_false_iff_not, Bool.not_true, Bool.not_false, Bool.and_eq_true, Bool.or_eq_true, if_true, if_false, Bool.false_eq_true, Bool.and_true, Bool.true_and, Bool.or_false, Bool.false_or, Bool.or_true, Bool.true_or, Bool.and_false, Bool.false_and, decide_true, decide_false, Nat.reduceAdd, Nat.reduceSub, List.all_cons, List.all_nil, List.any_cons, List.any_nil, Int.lt_irrefl, Int.le_refl, Int.sub_zero, Int.add_zero, Int.zero_add, true_and, and_true, false_and, and_false, and_self, or_self, or_true, true_or, or_false, false_or, not_true_eq_false, not_false_eq_true, Bool.true_eq_false, reduceCtorEq, eq_self, id_eq, List.sum_cons, List.sum_nil, ite_true, ite_false, reduceIte])
local macro_rules | `(tactic| walk_at "ev") => `(tactic| simp (maxSteps := 3000000) (implicitDefEqProofs := false) (disch := first | assumption | decide | ((try simp only [List.length_cons, List.length_nil, List.length_append, List.length_map, iota_length, sizeLine_eq, RgOk]); omega)) only [↓in_intsT, ↓in_intsL, ↓notIn_intsT, ↓notIn_intsL, ap_fTest, ap_fAnd, ap_fOr, ap_fNot, ap_fAndV, ap_fOrV, ap_fNotV, ap_fIf, ap_fChain, ap_fYes, ap_fNoPart, ap_fPart, ap_fSl, ap_fRev, ap_fRevM, ap_fListM, ap_fSortM, ap_fFld, ap_fTupRg1, ap_fTupRg2, ap_fLstRg1, ap_fLstRg2, ap_fIsi2, ap_fVarX, ap_fVarV, ap_fVarW, ap_fC, ap_fOV, ap_fOp, ap_fUn, ap_fCB, ap_fNil, ap_fCons, ap_fTup, ap_fLst, ap_fLstM, ap_fCall, ap_fCallN, ap_fMake, ap_fNext, ap_fBreak, ap_fCont, ap_fSeq, ap_fDrop, ap_fRet, ap_fRetO, ap_fRetVar, ap_fRetN, ap_fIfS, ap_fNever, ap_fAsg, ap_fAsgO, ap_fAug, ap_fMNil, ap_fMX, ap_fMO, ap_fPar, ap_fTupM, ap_fApp, ap_fPutK, ap_fPutL, ap_fGetK, ap_fInK, ap_fNotInK, ap_fLenK, ap_fListK, ap_fDicNew, ap_fDisp, ap_fIndex, ap_fgName, ap_fgNil, ap_fgCons, ap_fgTup, ap_fiAny, ap_fiEnum, ap_fiZip, ap_fFor, ap_fLcM, xv_mx1, xv_mx2, xv_mx3, xv_mx4, xv_mn1, xv_mn2, xv_mn3, xv_mn4, xv_ne_nil, xv_eq_nil, xv_forN, xv_forC, xv_forK1, xv_forK2, xv_forK3, xv_forK4, l_forK, xv_lcN, xv_lcC, xv_zip0, xv_zipC, enumD_0, enumD_1, enumD_2, enumD_3, enumD_4, enumD_5, ap_fiRng1, ap_fiRng2, xv_rng1, xv_rng2, lookL, lookK, fPairs, setManyF, wipeF, runF, runO, startF, toW, lk_0, st_0, lk_1, st_1, lk_2, st_2, lk_3, st_3, lk_4, st_4, lk_5, st_5, lk_6, st_6, lk_7, st_7, lk_8, st_8, lk_9, st_9, lk_10, st_10, lk_11, st_11, lk_12, st_12, lk_13, st_13, lk_14, st_14, lk_15, st_15, lk_16, st_16, lk_17, st_17, lk_18, st_18, lk_19, st_19, lk_20, st_20, lk_21, st_21, lk_22, st_22, lk_23, st_23, lk_24, st_24, lk_25, st_25, lk_26, st_26, lk_27, st_27, lk_28, st_28, lk_29, st_29, lk_30, st_30, lk_31, st_31, lk_32, st_32, lk_33, st_33, lk_34, st_34, lk_35, st_35, lk_36, st_36, lk_37, st_37, lk_38, st_38, lk_39, st_39, lk_40, st_40, isi_f_non_bool, isi_f_non_int, isi_f_non_str, isi_f_non_tuple, isi_f_non_list, isi_f_bl_bool, isi_f_bl_int, isi_f_bl_str, isi_f_bl_tuple, isi_f_bl_list, isi_f_int_bool, isi_f_int_int, isi_f_int_str, isi_f_int_tuple, isi_f_int_list, isi_f_str_bool, isi_f_str_int, isi_f_str_str, isi_f_str_tuple, isi_f_str_list, isi_f_tup_bool, isi_f_tup_int, isi_f_tup_str, isi_f_tup_tuple, isi_f_tup_list, isi_f_lst_bool, isi_f_lst_int, isi_f_lst_str, isi_f_lst_tuple, isi_f_lst_list, xv_add_int, xv_add_lst, xv_add_tup, xv_add_str, xv_sub, xv_mul_int, xv_mul_lst, xv_fdiv, xv_mod, xv_pow, xv_neg, xv_lt, xv_le, xv_gt, xv_ge, xv_iadd, xv_eq_int, xv_eq_bl, xv_eq_str, xv_eq_nn, xv_eq_2017, xv_eq_2084, xv_eq_2151, xv_eq_2218, xv_eq_2285, xv_eq_2351, xv_eq_2417, xv_eq_2488, xv_eq_2559, xv_eq_2629, xv_eq_tup, xv_ne_int, xv_ne_bl, xv_ne_str, xv_ne_nn, xv_ne_3273, xv_ne_3339, xv_ne_3405, xv_ne_3471, xv_ne_3537, xv_ne_3602, xv_ne_3667, xv_ne_3737, xv_ne_3807, xv_ne_3876, xv_ne_tup, xv_is_non, xv_not_non, xv_is_bl, xv_not_bl, xv_is_int, xv_not_int, xv_is_str, xv_not_str, xv_is_tup, xv_not_tup, xv_is_lst, xv_not_lst, xv_is_obj, xv_not_obj, xv_is_bb, xv_not_bb, xv_items_lst, xv_items_tup, xv_items_scr, xv_ix, xv_in_tupi, xv_notIn_tupi, xv_in_tups, xv_notIn_tups, xv_in_lsti, xv_notIn_lsti, xv_in_lsts, xv_notIn_lsts, xv_repT, xv_len_lst, xv_len_tup, xv_len_scr, xv_len_str, xv_abs, xv_max2, xv_max3, xv_maxA, xv_min2, xv_min3, xv_minA, xv_int_int, xv_int_bl, xv_sort, xv_sumL, xv_allL, xv_anyL, xv_tuple, xv_list, xv_sl_lst, xv_sl_scr, xv_sl_tup, xv_rev, xv_revM, xv_fld, xv_asB, xv_asI, xv_dKeyS, xv_dKeyI, xv_rdX, xv_rdV, xv_rdVw, xv_rdVo, xv_rdW, xv_rdWw, xv_asL, xv_retV, xv_retVl, xv_retVn, xv_retO, xv_rtv, xv_rto, xv_then_nx, xv_then_rt, xv_then_bk, xv_then_ct, xv_asInts, xv_asIntsF, xv_asInts0, xv_asIntsC, xv_asBls, xv_asBlsF, xv_asBls0, xv_asBlsC, xv_at0, xv_at1, xv_at2, xv_at3, xv_at4, xv_at5, xv_at6, xv_at7, xv_at8, xv_ge0, xv_ge1, xv_ge2, xv_ge3, xv_ge4, xv_ge5, xv_ge6, xv_ge7, xv_ge8, xv_ge9, xv_ge10, xv_ge11, xv_ge12, l_some, l_int, l_bl, l_str, l_tup, l_lst, l_rt, l_nx, l_v, l_cons, l_then, l_retV, l_and, l_or, l_ft, l_ftp, l_same, l_dand, l_dor, gOk_if, if_sz, if_szl, if_15, Option.bind_some, Option.bind_none, Option.map_some, Option.map_none, List.nil_append, List.cons_append, List.append_nil, List.length_cons, List.length_nil, List.map_cons, List.map_nil, List.replicate_zero, List.replicate_succ, decide_eq_true_eq, Bool.not_eq_true', decide_eq_false_iff_not, Bool.not_true, Bool.not_false, Bool.and_eq_true, Bool.or_eq_true, if_true, if_false, Bool.false_eq_true, Bool.and_true, Bool.true_and, Bool.or_false, Bool.false_or, Bool.or_true, Bool.true_or, Bool.and_false, Bool.false_and, decide_true, decide_false, Nat.reduceAdd, Nat.reduceSub, List.all_cons, List.all_nil, List.any_cons, List.any_nil, Int.lt_irrefl, Int.le_refl, Int.sub_zero, Int.add_zero, Int.zero_add, true_and, and_true, false_and, and_false, and_self, or_self, or_true, true_or, or_false, false_or, not_true_eq_false, not_false_eq_true, Bool.true_eq_false, reduceCtorEq, eq_self, id_eq, List.sum_cons, List.sum_nil, ite_true, ite_false, reduceIte])
noncomputable section
variable {g : D → FE → Option FE} {t : FE → Option Bool} {e : FD} {b : FS} {Γ : FE}
/-- a comprehension whose turns are told: c says which stay, h what they give -/
theorem lcF_eq {α : Type} {enc : α → D} {c : α → Bool} {h : α → D} : ∀ (l : List α), (∀ x ∈ l, ∃ Γ1, g (enc x) Γ = some Γ1 ∧ t Γ1 = some (c x) ∧ (c x = true → e Γ1 = some (h x))) → lcF g t e Γ (l.map enc) = some ((l.filter c).map h)
  | [], _ => rfl
  | x :: l, H => by
    obtain ⟨Γ1, h1, h2, h3⟩ := H x (by simp)
    have ih := lcF_eq l fun y hy => H y (by simp [hy])
    rw [List.map_cons, lcF, h1, Option.bind_some, h2, Option.bind_some]
    cases hc : c x with
    | true => rw [if_pos rfl, h3 hc, Option.bind_some, ih, List.filter_cons, if_pos hc]; rfl
    | false => rw [if_neg Bool.false_ne_true, ih, List.filter_cons, if_neg (by rw [hc]; decide)]
theorem lcF_all {α : Type} {enc : α → D} {h : α → D} (l : List α) (H : ∀ x ∈ l, ∃ Γ1, g (enc x) Γ = some Γ1 ∧ t Γ1 = some true ∧ e Γ1 = some (h x)) : lcF g t e Γ (l.map enc) = some (l.map h) := by
  rw [lcF_eq (c := fun _ => true) (h := h) l fun x hx => by
    obtain ⟨Γ1, h1, h2, h3⟩ := H x hx
    exact ⟨Γ1, h1, h2, fun _ => h3⟩]
  rw [List.filter_eq_self.mpr fun _ _ => rfl]
/-- the whole comprehension, over a name's own loop variable -/
theorem fLc0_eq {α : Type} {it : FE → Option (List D)} {vs : List Nat} (l : List α) (enc : α → D) (c : α → Bool) (h : α → D) (hi : it Γ = some (l.map enc)) (hl : l.length ≤ sizeLine)
    (H : ∀ x ∈ l, ∃ Γ1, g (enc x) (wipeF Γ vs) = some Γ1 ∧ t Γ1 = some (c x) ∧ (c x = true → e Γ1 = some (h x))) : fLc0 it g t e vs Γ = some ((l.filter c).map h) := by
  unfold fLc0
  rw [hi, Option.bind_some, List.length_map, if_pos hl]
  exact lcF_eq l H
theorem fLc_eq {α : Type} {it : FE → Option (List D)} {vs : List Nat} (l : List α) (enc : α → D) (c : α → Bool) (h : α → D) (hi : it Γ = some (l.map enc)) (hl : l.length ≤ sizeLine)
    (H : ∀ x ∈ l, ∃ Γ1, g (enc x) (wipeF Γ vs) = some Γ1 ∧ t Γ1 = some (c x) ∧ (c x = true → e Γ1 = some (h x))) : fLc it g t e vs Γ = some (.lst ((l.filter c).map h)) := by
  unfold fLc
  rw [fLc0_eq l enc c h hi hl H]
  rfl
theorem fLc_all {α : Type} {it : FE → Option (List D)} {vs : List Nat} (l : List α) (enc : α → D) (h : α → D) (hi : it Γ = some (l.map enc)) (hl : l.length ≤ sizeLine)
    (H : ∀ x ∈ l, ∃ Γ1, g (enc x) (wipeF Γ vs) = some Γ1 ∧ t Γ1 = some true ∧ e Γ1 = some (h x)) : fLc it g t e vs Γ = some (.lst (l.map h)) := by
  unfold fLc fLc0
  rw [hi, Option.bind_some, List.length_map, if_pos hl, lcF_all l H]
  rfl
/-- a turn of a loop -/
inductive Turn (σ : Type) where
  | nx (s : σ) | bk (s : σ) | rt (x : FV)
def turns {α σ : Type} (step : σ → α → Turn σ) : List α → σ → Turn σ
  | [], s => .nx s
  | x :: xs, s => match step s x with
    | .nx s' => turns step xs s'
    | .bk s' => .bk s'
    | .rt v => .rt v
/-- how a turn's end looks in the names -/
def TurnR {σ : Type} (R : σ → FE → Prop) : Turn σ → FOut → Prop
  | .nx s, .nx Γ => R s Γ
  | .nx s, .ct Γ => R s Γ
  | .bk s, .bk Γ => R s Γ
  | .rt v, .rt w => w = v
  | _, _ => False
def OutR (R : FE → Prop) : FOut → Prop
  | .nx Γ => R Γ
  | .ct Γ => R Γ
  | _ => False
theorem forF_turns {α σ : Type} {enc : α → D} (R : σ → FE → Prop) (step : σ → α → Turn σ) : ∀ (l : List α) (s : σ) (Γ : FE), R s Γ →
    (∀ x ∈ l, ∀ s Γ, R s Γ → ∃ Γ1, g (enc x) Γ = some Γ1 ∧ ∃ o, b Γ1 = some o ∧ TurnR R (step s x) o) →
    match turns step l s with
    | .nx s' => ∃ Γ', forF g b (l.map enc) Γ = some (.nx Γ') ∧ R s' Γ'
    | .bk s' => ∃ Γ', forF g b (l.map enc) Γ = some (.nx Γ') ∧ R s' Γ'
    | .rt v => forF g b (l.map enc) Γ = some (.rt v)
  | [], s, Γ, r, _ => ⟨Γ, rfl, r⟩
  | x :: l, s, Γ, r, H => by
    obtain ⟨Γ1, h1, o, h3, h2⟩ := H x (by simp) s Γ r
    unfold turns
    rw [List.map_cons]
    simp only [forF, h1, Option.bind_some, h3]
    cases hs : step s x with
    | nx s' =>
      rw [hs] at h2
      cases o with
      | nx Γ2 => exact forF_turns R step l s' Γ2 h2 fun y hy => H y (by simp [hy])
      | ct Γ2 => exact forF_turns R step l s' Γ2 h2 fun y hy => H y (by simp [hy])
      | _ => exact h2.elim
    | bk s' =>
      rw [hs] at h2
      cases o with
      | bk Γ2 => exact ⟨Γ2, rfl, h2⟩
      | _ => exact h2.elim
    | rt v =>
      rw [hs] at h2
      cases o with
      | rt w => cases h2; rfl
      | _ => exact h2.elim
/-- a loop that always goes through -/
theorem forF_fold {α σ : Type} {enc : α → D} (R : σ → FE → Prop) (step : σ → α → σ) : ∀ (l : List α) (s : σ) (Γ : FE), R s Γ →
    (∀ x ∈ l, ∀ s Γ, R s Γ → ∃ Γ1, g (enc x) Γ = some Γ1 ∧ ∃ o, b Γ1 = some o ∧ OutR (R (step s x)) o) → ∃ Γ', forF g b (l.map enc) Γ = some (.nx Γ') ∧ R (l.foldl step s) Γ'
  | [], s, Γ, r, _ => ⟨Γ, rfl, r⟩
  | x :: l, s, Γ, r, H => by
    obtain ⟨Γ1, h1, o, h2, r2⟩ := H x (by simp) s Γ r
    rw [List.map_cons]
    simp only [forF, h1, Option.bind_some, List.foldl_cons, h2]
    cases o with
    | nx Γ2 => exact forF_fold R step l (step s x) Γ2 r2 fun y hy => H y (by simp [hy])
    | ct Γ2 => exact forF_fold R step l (step s x) Γ2 r2 fun y hy => H y (by simp [hy])
    | _ => exact r2.elim
/-- a loop that goes through with an invariant over what is still to come -/
theorem forF_inv {α : Type} {enc : α → D} (I : List α → FE → Prop) : ∀ (l : List α) (Γ : FE), I l Γ →
    (∀ x l Γ, I (x :: l) Γ → ∃ Γ1, g (enc x) Γ = some Γ1 ∧ ∃ o, b Γ1 = some o ∧ OutR (I l) o) → ∃ Γ', forF g b (l.map enc) Γ = some (.nx Γ') ∧ I [] Γ'
  | [], Γ, r, _ => ⟨Γ, rfl, r⟩
  | x :: l, Γ, r, H => by
    obtain ⟨Γ1, h1, o, h2, r2⟩ := H x l Γ r
    rw [List.map_cons]
    simp only [forF, h1, Option.bind_some, h2]
    cases o with
    | nx Γ2 => exact forF_inv I l Γ2 r2 H
    | ct Γ2 => exact forF_inv I l Γ2 r2 H
    | _ => exact r2.elim
theorem forF_invb {α β : Type} {enc : α → D} {l : List α} {K : FOut → Option β} {z : Option β} (I : List α → FE → Prop) (h0 : I l Γ)
    (hs : ∀ x l Γ, I (x :: l) Γ → ∃ Γ1, g (enc x) Γ = some Γ1 ∧ ∃ o, b Γ1 = some o ∧ OutR (I l) o) (hK : ∀ Γ', I [] Γ' → K (.nx Γ') = z) : (forF g b (l.map enc) Γ).bind K = z := by
  obtain ⟨Γ', e, r⟩ := forF_inv I l Γ h0 hs
  rw [e, Option.bind_some]
  exact hK Γ' r
/-- a loop that stops at the first x with p x -/
theorem forF_find {α : Type} {enc : α → D} (p : α → Bool) (I : FE → Prop) (J : α → FE → Prop) : ∀ (l : List α) (Γ : FE), I Γ →
    (∀ x ∈ l, ∀ Γ, I Γ → ∃ Γ1, g (enc x) Γ = some Γ1 ∧ ∃ o, b Γ1 = some o ∧ if p x = true then ∃ Γ2, o = .bk Γ2 ∧ J x Γ2 else OutR I o) →
    match l.find? p with
    | none => ∃ Γ', forF g b (l.map enc) Γ = some (.nx Γ') ∧ I Γ'
    | some x => ∃ Γ', forF g b (l.map enc) Γ = some (.nx Γ') ∧ J x Γ'
  | [], Γ, r, _ => ⟨Γ, rfl, r⟩
  | x :: l, Γ, r, H => by
    obtain ⟨Γ1, h1, o, h3, h2⟩ := H x (by simp) Γ r
    rw [List.map_cons, List.find?_cons]
    simp only [forF, h1, Option.bind_some, h3]
    cases hp : p x with
    | true =>
      rw [if_pos hp] at h2
      obtain ⟨Γ2, rfl, j⟩ := h2
      exact ⟨Γ2, rfl, j⟩
    | false =>
      rw [if_neg (by rw [hp]; decide)] at h2
      cases o with
      | nx Γ2 => exact forF_find p I J l Γ2 h2 fun y hy => H y (by simp [hy])
      | ct Γ2 => exact forF_find p I J l Γ2 h2 fun y hy => H y (by simp [hy])
      | _ => exact h2.elim
/-- a loop that gives back at the first x with p x -/
theorem forF_ret {α : Type} {enc : α → D} (p : α → Bool) (I : FE → Prop) (v : α → FV) : ∀ (l : List α) (Γ : FE), I Γ →
    (∀ x ∈ l, ∀ Γ, I Γ → ∃ Γ1, g (enc x) Γ = some Γ1 ∧ ∃ o, b Γ1 = some o ∧ if p x = true then o = .rt (v x) else OutR I o) →
    match l.find? p with
    | none => ∃ Γ', forF g b (l.map enc) Γ = some (.nx Γ') ∧ I Γ'
    | some x => forF g b (l.map enc) Γ = some (.rt (v x))
  | [], Γ, r, _ => ⟨Γ, rfl, r⟩
  | x :: l, Γ, r, H => by
    obtain ⟨Γ1, h1, o, h3, h2⟩ := H x (by simp) Γ r
    rw [List.map_cons, List.find?_cons]
    simp only [forF, h1, Option.bind_some, h3]
    cases hp : p x with
    | true =>
      rw [if_pos hp] at h2
      rw [h2]
    | false =>
      rw [if_neg (by rw [hp]; decide)] at h2
      cases o with
      | nx Γ2 => exact forF_ret p I v l Γ2 h2 fun y hy => H y (by simp [hy])
      | ct Γ2 => exact forF_ret p I v l Γ2 h2 fun y hy => H y (by simp [hy])
      | _ => exact h2.elim
/-- a while by a measure -/
theorem whileF_inv {c : FE → Option Bool} (I : FE → Prop) (m : FE → Nat) (P : FOut → Prop) (hs : ∀ Γ, I Γ → ∃ k, c Γ = some k ∧ if k = true then ∃ o, b Γ = some o ∧ (match o with
      | .nx Γ2 => I Γ2 ∧ m Γ2 < m Γ
      | .ct Γ2 => I Γ2 ∧ m Γ2 < m Γ
      | .bk Γ2 => P (.nx Γ2)
      | .rt x => P (.rt x)) else P (.nx Γ)) : ∀ (n : Nat) (Γ : FE), I Γ → m Γ < n → ∃ o, whileF c b n Γ = some o ∧ P o
  | 0, Γ, _, h => absurd h (Nat.not_lt_zero _)
  | n + 1, Γ, r, h => by
    obtain ⟨k, h1, h2⟩ := hs Γ r
    simp only [whileF, h1, Option.bind_some]
    cases k with
    | false => rw [if_neg Bool.false_ne_true] at h2 ⊢; exact ⟨_, rfl, h2⟩
    | true =>
      rw [if_pos rfl] at h2 ⊢
      obtain ⟨o, h3, h4⟩ := h2
      rw [h3, Option.bind_some]
      cases o with
      | nx Γ2 => exact whileF_inv I m P hs n Γ2 h4.1 (by omega)
      | ct Γ2 => exact whileF_inv I m P hs n Γ2 h4.1 (by omega)
      | bk Γ2 => exact ⟨_, rfl, h4⟩
      | rt x => exact ⟨_, rfl, h4⟩
theorem fWhile_inv {c : FE → Option Bool} (I : FE → Prop) (m : FE → Nat) (P : FOut → Prop) (hs : ∀ Γ, I Γ → ∃ k, c Γ = some k ∧ if k = true then ∃ o, b Γ = some o ∧ (match o with
      | .nx Γ2 => I Γ2 ∧ m Γ2 < m Γ
      | .ct Γ2 => I Γ2 ∧ m Γ2 < m Γ
      | .bk Γ2 => P (.nx Γ2)
      | .rt x => P (.rt x)) else P (.nx Γ)) {Γ : FE} (h : I Γ) (hm : m Γ < 1000000) : ∃ o, fWhile c b Γ = some o ∧ P o := whileF_inv I m P hs FUEL Γ h hm

theorem forF_bind {α σ β : Type} {enc : α → D} {l : List α} {K : FOut → Option β} {z : Option β} (s : σ) (R : σ → FE → Prop) (step : σ → α → σ) (h0 : R s Γ)
    (hs : ∀ x ∈ l, ∀ s Γ, R s Γ → ∃ Γ1, g (enc x) Γ = some Γ1 ∧ ∃ o, b Γ1 = some o ∧ OutR (R (step s x)) o) (hK : ∀ Γ', R (l.foldl step s) Γ' → K (.nx Γ') = z) : (forF g b (l.map enc) Γ).bind K = z := by
  obtain ⟨Γ', e, r⟩ := forF_fold R step l s Γ h0 hs
  rw [e, Option.bind_some]
  exact hK Γ' r
/-! specs -/
theorem pureSp_mono {F G : List D → Option D} (h : ∀ es d, F es = some d → G es = some d) {ds : List D} {M : Mem} {Q : QD} (s : pureSp F ds M Q) : pureSp G ds M Q := by
  obtain ⟨es, d, v, e, q⟩ := s
  exact ⟨es, d, v, h _ _ e, q⟩
theorem pureSp_len {F : List D → Option D} {n : Nat} (h : ∀ es d, F es = some d → es.length = n) {ds : List D} {M : Mem} {Q : QD} (s : pureSp F ds M Q) : ds.length = n := by
  obtain ⟨es, d, v, e, q⟩ := s
  rw [v.length, h _ _ e]
theorem pureSp_of {F : List D → Option D} {ds : List D} {d : D} {M : Mem} {Q : QD} (e : F ds = some d) (q : Q d M) : pureSp F ds M Q := ⟨ds, d, .refl, e, q⟩
theorem fn_none {P : Program} {w : World} {K : PySem.W.Frag} {mg : Str → Option Value} {base : Heap} {f : Addr} {fd : FuncData} {ps : List Str} {x qual : Str} {pa : Arguments} {body : List Stmt} {scope : Scope} {dvs : List V} {kws : List (Str × V)} (F : FunD K x qual pa body scope dvs kws f fd) : FnOk P w K mg base CX0 0 f fd ps (spD K (pureSp fun _ => none)) :=
  (fn_never_of F).imp fun vs H Q E ⟨F, M, ds, Q0, k, r, ⟨es, d, v, e, q⟩, c⟩ => by cases e
/-! _law_like: only asked of what is just due -/
open Classical in
def FLike (n : Nat) : List D → Option D
  | [x, y] => if x = y ∧ tame n x = true then some (.bl true) else none
  | _ => none
theorem FLike_of {n : Nat} {x y : D} (h : x = y) (t : tame n x = true) : FLike n [x, y] = some (.bl true) := if_pos ⟨h, t⟩
theorem FLike_inv {n : Nat} {es : List D} {d : D} (h : FLike n es = some d) : ∃ x, es = [x, x] ∧ tame n x = true ∧ d = .bl true := by
  unfold FLike at h
  split at h
  · split at h
    · rename_i h1; cases h; obtain ⟨rfl, h2⟩ := h1; exact ⟨_, rfl, h2, rfl⟩
    · cases h
  · cases h
theorem likeZ_zip {F : List D → Option D} {e : FD} {Γ : FE} (he : ∀ x y Γ1, fgTup 2 (fgCons (fgName 2) (fgCons (fgName 3) fgNil)) (.tup [x, y]) Γ = some Γ1 → e Γ1 = F [x, y]) : ∀ xs : List D, (∀ x ∈ xs, F [x, x] = some (.bl true)) →
    lcF (fgTup 2 (fgCons (fgName 2) (fgCons (fgName 3) fgNil))) fYes e Γ (zipD xs xs) = some (xs.map fun _ => .bl true)
  | [], _ => rfl
  | x :: xs, h => by
    have ih := likeZ_zip he xs fun y hy => h y (by simp [hy])
    unfold zipD at ih ⊢
    rw [List.zipWith_cons_cons, lcF]
    have e1 : fgTup 2 (fgCons (fgName 2) (fgCons (fgName 3) fgNil)) (.tup [x, x]) Γ = some ((Γ.set 2 (some (.v x))).set 3 (some (.v x))) := rfl
    rw [e1, Option.bind_some, show fYes _ = some true from rfl, Option.bind_some, if_pos rfl, he _ _ _ e1, h x (by simp), Option.bind_some, ih]
    rfl
def fLikeZ (F_law_like : List D → Option D) : FS :=
  (fSeq (fIfS (fTest (fCB fo_isi (fCons (fVarV 1) (fCons (fC (.ty "tuple")) fNil))))
    (fRet (fAndV (fCB fo_isi (fCons (fVarV 0) (fCons (fC (.ty "tuple")) fNil))) (fAndV (fOp fo_eq (fCB fo_len (fCons (fVarV 0) fNil)) (fCB fo_len (fCons (fVarV 1) fNil))) (fCB fo_allL (fCons (fLc (fiZip (fCons (fVarX 0) (fCons (fVarX 1) fNil))) (fgTup 2 (fgCons (fgName 2) (fgCons (fgName 3) fgNil))) fYes (fCall F_law_like [] (fCons (fVarV 2) (fCons (fVarV 3) fNil))) [2, 3]) fNil)))))
    fNext)
    (fSeq (fIfS (fTest (fOp fo_is (fVarV 1) (fC .non)))
    (fRet (fOp fo_is (fVarV 0) (fC .non)))
    fNext)
    (fSeq (fIfS (fTest (fCB fo_isi (fCons (fVarV 1) (fCons (fC (.ty "bool")) fNil))))
    (fRet (fIf (fTest (fVarX 1)) (fOp fo_is (fVarV 0) (fC (.bl true))) (fOp fo_is (fVarV 0) (fC (.bl false)))))
    fNext)
    (fSeq (fIfS (fTest (fCB fo_isi (fCons (fVarV 1) (fCons (fC (.ty "int")) fNil))))
    (fRet (fAndV (fCB fo_isi (fCons (fVarV 0) (fCons (fC (.ty "int")) fNil))) (fAndV (fNotV (fCB fo_isi (fCons (fVarV 0) (fCons (fC (.ty "bool")) fNil)))) (fOp fo_eq (fVarV 0) (fVarV 1)))))
    fNext)
    (fRet (fAndV (fCB fo_isi (fCons (fVarV 0) (fCons (fC (.ty "str")) fNil))) (fAndV (fCB fo_isi (fCons (fVarV 1) (fCons (fC (.ty "str")) fNil))) (fOp fo_eq (fVarV 0) (fVarV 1)))))))))
abbrev N_likeZ : List Str := ["told", "due", "one", "other"]
theorem likeZ_ev {F : List D → Option D} {n : Nat} (hF : ∀ m x, n = m + 1 → tame m x = true → F [x, x] = some (.bl true)) : ∀ es d, FLike n es = some d → runF N_likeZ 2 (fLikeZ F) es = some d := by
  intro es d h
  obtain ⟨x, rfl, t, rfl⟩ := FLike_inv h
  unfold fLikeZ
  cases x with
  | non => walk_at "ev"
  | bl a => cases a <;> (walk_at "ev")
  | int i => walk_at "ev"
  | str s => walk_at "ev"
  | tup xs =>
    cases n with
    | zero => cases t
    | succ m =>
      have t : (decide (xs.length < 1000000) && xs.all (tame m)) = true := t
      rw [Bool.and_eq_true, decide_eq_true_eq, List.all_eq_true] at t
      have hl : (zipD xs xs).length ≤ sizeLine := by unfold zipD; rw [List.length_zipWith, sizeLine_eq]; omega
      walk_at "ev"
      have e0 : ∀ Γ, (fLc (fiZip (fCons (fVarX 0) (fCons (fVarX 1) fNil))) (fgTup 2 (fgCons (fgName 2) (fgCons (fgName 3) fgNil))) fYes (fCall F [] (fCons (fVarV 2) (fCons (fVarV 3) fNil))) [2, 3]) Γ = ((fiZip (fCons (fVarX 0) (fCons (fVarX 1) fNil)) Γ).bind fun xs => if xs.length ≤ sizeLine then lcF (fgTup 2 (fgCons (fgName 2) (fgCons (fgName 3) fgNil))) fYes (fCall F [] (fCons (fVarV 2) (fCons (fVarV 3) fNil))) (wipeF Γ [2, 3]) xs else none).map .lst := fun _ => rfl
      rw [e0]
      walk_at "ev"
      rw [likeZ_zip (F := F) (fun x y Γ1 h1 => by cases h1; rfl) xs (fun x hx => hF m x rfl (t.2 x hx))]
      walk_at "ev"
      simp
  | _ => cases n <;> cases t
theorem like_semZ {F : List D → Option D} {n : Nat} {b : TDS} (h : PuS b (fLikeZ F)) (hF : ∀ m x, n = m + 1 → tame m x = true → F [x, x] = some (.bl true)) : ∀ ds M Q, pureSp (FLike n) ds M Q → b { nx := fun _ M => gcQ Q .non M, rt := gcQ Q } (startD N_likeZ ds) M := fun ds M Q s => pure_sem h ds M Q (pureSp_mono (likeZ_ev hF) s)
theorem FLike_len {n : Nat} {es : List D} {d : D} (h : FLike n es = some d) : es.length = 2 := by
  obtain ⟨x, rfl, _⟩ := FLike_inv h
  rfl
theorem FLike_step {n : Nat} : ∀ m x, n + 1 = m + 1 → tame m x = true → FLike n [x, x] = some (.bl true) := fun m x e t => by cases e; exact FLike_of rfl t
theorem FLike_zero : ∀ (m : Nat) (x : D), 0 = m + 1 → tame m x = true → (fun _ => none : List D → Option D) [x, x] = some (.bl true) := fun m x e => by cases e
theorem makeSp_len {C : Addr} {ns : List Str} {F : List D → Option (List D)} {n : Nat} (h : ∀ es vs, F es = some vs → es.length = n) {ds : List D} {M : Mem} {Q : QD} (s : makeSp C ns F ds M Q) : ds.length = n + 1 := by
  obtain ⟨p, xs, es, vs, rfl, v, _, e, _⟩ := s
  rw [List.length_cons, v.length, h _ _ e]
end
end DL

set_option Elab.async false
set_option linter.all false
set_option maxRecDepth 100000
set_option maxHeartbeats 4000000
/-! FL: plain pieces within a def that draws. -/
namespace DL
open PySem PySem.Spec PyProof.Rows L2
def exF (Γ : DE) : FE := Γ.map (Option.map FV.v)
theorem relE {Γ : DE} {M : Mem} : Rel M (exF Γ) Γ M := by
  have key : ∀ (i : Nat) (x : FV), (exF Γ)[i]? = some (some x) → ∃ d, Γ[i]? = some (some d) ∧ x = .v d := fun i x h => by
    unfold exF at h
    rw [List.getElem?_map] at h
    cases e : Γ[i]? with
    | none => rw [e] at h; cases h
    | some o =>
      rw [e] at h
      cases o with
      | none => cases h
      | some d => cases h; exact ⟨d, rfl, rfl⟩
  refine ⟨Kp.refl, by unfold exF; simp, fun i x h => ?_, fun i j x x' p ne h1 h2 h3 => ?_⟩
  · obtain ⟨d, e, rfl⟩ := key i x h
    exact ⟨d, e, rfl⟩
  · obtain ⟨d, _, e⟩ := key i _ h1
    cases e
theorem asg_pu {a : TD} (f : FD) [ha : PuX a f] {x : D} {i : Nat} {en : DE → Mem → Prop} {er : D → Mem → Prop} {eb ec : DE → Mem → Prop} {Γ : DE} {M : Mem} (h : f (exF Γ) = some x) (q : ∀ M', Kp M M' → en (Γ.set i (some x)) M') : dAsg a (dgName i) ⟨en, er, eb, ec⟩ Γ M :=
  ha.run relE h fun M' k => q M' k
theorem ifs_pu {t : TDT} (f : FE → Option Bool) [ht : PuT t f] {b : Bool} {u w : TDS} {E : DEnds} {Γ : DE} {M : Mem} (h : f (exF Γ) = some b) (q : ∀ M', Kp M M' → if b = true then u E Γ M' else w E Γ M') : dIfS t u w E Γ M := ht.run relE h fun M' k => q M' k
theorem ret_pu {a : TD} (f : FD) [ha : PuX a f] {x : D} {E : DEnds} {Γ : DE} {M : Mem} (h : f (exF Γ) = some x) (q : ∀ M', Kp M M' → E.rt x M') : dRet a E Γ M := ha.run relE h fun M' k => q M' k
/-- statements that give back -/
theorem rt_pu {s : TDS} (f : FS) [hs : PuS s f] {x : D} {E : DEnds} {Γ : DE} {M : Mem} (h : f (exF Γ) = some (.rt (.v x))) (q : ∀ M', Kp M M' → E.rt x M') : s E Γ M := hs.run relE h fun y M' k e => by cases e; exact q M' k
/-- statements that go on -/
theorem nx_pu {s : TDS} (f : FS) [hs : PuS s f] {Γ' : FE} {E : DEnds} {Γ : DE} {M : Mem} (h : f (exF Γ) = some (.nx Γ')) (q : ∀ Γw M', Kp M M' → Rel M Γ' Γw M' → E.nx Γw M') : s E Γ M := hs.run relE h fun Γw M' R => q Γw M' R.kp R
theorem Rel.at {M0 M : Mem} {Γ : FE} {Γw : DE} (R : Rel M0 Γ Γw M) {i : Nat} {d : D} (h : Γ[i]? = some (some (.v d))) : Γw[i]? = some (some d) := by
  obtain ⟨y, e, s⟩ := R.get i _ h
  cases s
  exact e
theorem gc_src {Q : QD} {x : D} {M M' : Mem} (h : ∀ M', Kp M M' → Q x M') (k : Kp M M') : Q x M' := h M' k
theorem draw_ {x : D} {many : Int} {M : Mem} {Q : QD} (hs : IsSrc M x) (h0 : 0 < many) (h1 : many < 1073741824) (q : ∀ r, 0 ≤ r → r < many → Q (.int r) M) : S_draw [x, .int many] M Q := ⟨x, many, rfl, hs, h0, h1, q⟩
theorem pick_ {x y : D} {M : Mem} {Q : QD} {ys : List D} (hs : IsSrc M x) (hy : itemsD M y = some ys) (h0 : 0 < ys.length) (h1 : ys.length < 1000000) (q : ∀ d ∈ ys, Q d M) : S_pick [x, y] M Q := ⟨x, y, ys, rfl, hs, hy, by omega, by omega, q⟩
end DL

set_option Elab.async false
set_option linter.all false
set_option maxRecDepth 100000
set_option maxHeartbeats 4000000
/-! FL: plain data may be compared. -/
namespace DL
open PySem PySem.Spec PyProof.Rows L2
structure okD (n : Nat) (x : D) : Prop where
  py : isPy x = true
  lay : (DL.py x).canLay0 = true
  dep : (DL.py x).depth ≤ n
theorem okD_int {n : Nat} {i : Int} : okD n (.int i) := ⟨rfl, by rw [py, PyData.canLay0], by rw [py, PyData.depth]; omega⟩
theorem okD_bl {n : Nat} {i : Bool} : okD n (.bl i) := ⟨rfl, by rw [py, PyData.canLay0], by rw [py, PyData.depth]; omega⟩
theorem okD_non {n : Nat} : okD n .non := ⟨rfl, by rw [py, PyData.canLay0], by rw [py, PyData.depth]; omega⟩
theorem okD_str {n : Nat} {s : Str} (h : PyData.strOk s = true) : okD n (.str s) := ⟨rfl, by rw [py, PyData.canLay0]; exact h, by rw [py, PyData.depth]; omega⟩
theorem okL {n : Nat} : ∀ {xs : List D}, (∀ x ∈ xs, okD n x) → isPyL xs = true ∧ PyData.canLayAll0 (pyL xs) = true ∧ PyData.depthAll (pyL xs) ≤ n
  | [], _ => ⟨rfl, by rw [pyL, PyData.canLayAll0], by rw [pyL, PyData.depthAll]; omega⟩
  | x :: xs, h => by
    obtain ⟨h1, h2, h3⟩ := h x (by simp)
    obtain ⟨k1, k2, k3⟩ := okL (xs := xs) fun y hy => h y (List.mem_cons_of_mem _ hy)
    refine ⟨by rw [isPyL, h1, k1]; rfl, by rw [pyL, PyData.canLayAll0, h2, k2]; rfl, ?_⟩
    rw [pyL, PyData.depthAll]
    exact Nat.max_le.mpr ⟨h3, k3⟩
theorem okD_tup {n : Nat} {xs : List D} (h : ∀ x ∈ xs, okD n x) : okD (n + 1) (.tup xs) := by
  obtain ⟨k1, k2, k3⟩ := okL h
  exact ⟨by rw [isPy]; exact k1, by rw [py, PyData.canLay0]; exact k2, by rw [py, PyData.depth]; omega⟩
theorem okD_lst {n : Nat} {xs : List D} (h : ∀ x ∈ xs, okD n x) : okD (n + 1) (.lst xs) := by
  obtain ⟨k1, k2, k3⟩ := okL h
  exact ⟨by rw [isPy]; exact k1, by rw [py, PyData.canLay0]; exact k2, by rw [py, PyData.depth]; omega⟩
theorem okD.mono {n k : Nat} {x : D} (h : okD n x) (hk : n ≤ k) : okD k x := ⟨h.py, h.lay, by have := h.dep; omega⟩
theorem eqOk_of {n k : Nat} {x y : D} (hx : okD n x) (hy : okD k y) (h1 : n ≤ 64) (h2 : k ≤ 64) : eqOk x y := by
  refine ⟨hx.py, hy.py, ?_, ?_⟩
  · show ((py x).canLay0 && decide ((py x).depth ≤ 64)) = true
    rw [hx.lay, decide_eq_true (by have := hx.dep; omega)]; rfl
  · show ((py y).canLay0 && decide ((py y).depth ≤ 64)) = true
    rw [hy.lay, decide_eq_true (by have := hy.dep; omega)]; rfl
theorem ne_nilT {n : Nat} {xs : List D} (h : ∀ x ∈ xs, okD n x) (hn : n ≤ 60) : fo_ne (.tup xs) (.tup []) = some (.bl (!xs.isEmpty)) := by
  show gOk _ _ = _
  rw [gOk_t (eqOk_of (okD_tup h) (okD_tup (n := 0) (xs := []) (by simp)) (by omega) (by omega)), py, py, pyL]
  cases xs <;> rfl
theorem eq_nilT {n : Nat} {xs : List D} (h : ∀ x ∈ xs, okD n x) (hn : n ≤ 60) : fo_eq (.tup xs) (.tup []) = some (.bl (xs.isEmpty)) := by
  show gOk _ _ = _
  rw [gOk_t (eqOk_of (okD_tup h) (okD_tup (n := 0) (xs := []) (by simp)) (by omega) (by omega)), py, py, pyL]
  cases xs <;> rfl
theorem ne_nilL {n : Nat} {xs : List D} (h : ∀ x ∈ xs, okD n x) (hn : n ≤ 60) : fo_ne (.lst xs) (.lst []) = some (.bl (!xs.isEmpty)) := by
  show gOk _ _ = _
  rw [gOk_t (eqOk_of (okD_lst h) (okD_lst (n := 0) (xs := []) (by simp)) (by omega) (by omega)), py, py, pyL]
  cases xs <;> rfl
theorem eq_nilL {n : Nat} {xs : List D} (h : ∀ x ∈ xs, okD n x) (hn : n ≤ 60) : fo_eq (.lst xs) (.lst []) = some (.bl (xs.isEmpty)) := by
  show gOk _ _ = _
  rw [gOk_t (eqOk_of (okD_lst h) (okD_lst (n := 0) (xs := []) (by simp)) (by omega) (by omega)), py, py, pyL]
  cases xs <;> rfl
/-- a while by an indexed invariant -/
theorem whileF_dec {c : FE → Option Bool} {b : FS} (I : Nat → FE → Prop) (P : FOut → Prop) (hs : ∀ m Γ, I m Γ → ∃ k, c Γ = some k ∧ if k = true then ∃ o, b Γ = some o ∧ (match o with
      | .nx Γ2 => ∃ m', m' < m ∧ I m' Γ2
      | .ct Γ2 => ∃ m', m' < m ∧ I m' Γ2
      | .bk Γ2 => P (.nx Γ2)
      | .rt x => P (.rt x)) else P (.nx Γ)) : ∀ (n m : Nat) (Γ : FE), I m Γ → m < n → ∃ o, whileF c b n Γ = some o ∧ P o
  | 0, _, _, _, h => absurd h (Nat.not_lt_zero _)
  | n + 1, m, Γ, r, h => by
    obtain ⟨k, h1, h2⟩ := hs m Γ r
    simp only [whileF, h1, Option.bind_some]
    cases k with
    | false => rw [if_neg Bool.false_ne_true] at h2 ⊢; exact ⟨_, rfl, h2⟩
    | true =>
      rw [if_pos rfl] at h2 ⊢
      obtain ⟨o, h3, h4⟩ := h2
      rw [h3, Option.bind_some]
      cases o with
      | nx Γ2 => obtain ⟨m', h5, h6⟩ := h4; exact whileF_dec I P hs n m' Γ2 h6 (by omega)
      | ct Γ2 => obtain ⟨m', h5, h6⟩ := h4; exact whileF_dec I P hs n m' Γ2 h6 (by omega)
      | bk Γ2 => exact ⟨_, rfl, h4⟩
      | rt x => exact ⟨_, rfl, h4⟩
theorem fWhile_dec {c : FE → Option Bool} {b : FS} (I : Nat → FE → Prop) (P : FOut → Prop) {m : Nat} {Γ : FE} (h : I m Γ) (hm : m < 1000000) (hs : ∀ m Γ, I m Γ → ∃ k, c Γ = some k ∧ if k = true then ∃ o, b Γ = some o ∧ (match o with
      | .nx Γ2 => ∃ m', m' < m ∧ I m' Γ2
      | .ct Γ2 => ∃ m', m' < m ∧ I m' Γ2
      | .bk Γ2 => P (.nx Γ2)
      | .rt x => P (.rt x)) else P (.nx Γ)) : ∃ o, fWhile c b Γ = some o ∧ P o := whileF_dec I P hs FUEL m Γ h hm
/-- a comprehension whose turns draw -/
theorem lcL_each {grd : Mem → Prop} {g : TDG} {t : TDT} {e : TD} {Γ : DE} {fin : List D → Mem → Prop} {M : Mem} (P : D → Prop) (hg : grd M) :
    ∀ (xs acc : List D), (∀ x ∈ xs, ∀ (Y : QD) (N : Mem → Prop), (∀ y, P y → Y y M) → g x Γ M fun Γ1 M1 => t Γ1 M1 fun b M2 => if b = true then e Γ1 M2 Y else N M2) → acc.length + xs.length ≤ sizeLine →
      (∀ ys, ys.length = xs.length → (∀ y ∈ ys, P y) → fin (acc ++ ys) M) → lcL grd g t e Γ fin xs acc M
  | [], acc, _, _, h => ⟨hg, by have := h [] rfl (by simp); rwa [List.append_nil] at this⟩
  | x :: xs, acc, hs, hl, h => by
    rw [List.length_cons] at hl
    refine ⟨hg, hs x (by simp) _ _ fun y hy => ⟨by omega, ?_⟩⟩
    refine lcL_each P hg xs (acc ++ [y]) (fun z hz => hs z (by simp [hz])) (by rw [List.length_append, List.length_singleton]; omega) fun ys hl hP => ?_
    rw [List.append_assoc]
    exact h (y :: ys) (by simp [hl]) (by simpa using ⟨hy, hP⟩)
end DL

set_option Elab.async false
set_option linter.all false
/-! a list of known length is a row. Written by a program. -/
namespace DL
theorem lit_0 {α : Type} {l : List α} (h : l.length = 0) : l = [] := List.length_eq_zero_iff.mp h
theorem lit_1 {α : Type} {l : List α} (h : l.length = 1) : ∃ a0, l = [a0] := by
  cases l with
  | nil => cases h
  | cons a l => exact ⟨a, by rw [lit_0 (Nat.succ.inj h)]⟩
theorem lit_2 {α : Type} {l : List α} (h : l.length = 2) : ∃ a0 a1, l = [a0, a1] := by
  cases l with
  | nil => cases h
  | cons a l =>
    obtain ⟨b0, e⟩ := lit_1 (Nat.succ.inj h)
    exact ⟨a, b0, by rw [e]⟩
theorem lit_3 {α : Type} {l : List α} (h : l.length = 3) : ∃ a0 a1 a2, l = [a0, a1, a2] := by
  cases l with
  | nil => cases h
  | cons a l =>
    obtain ⟨b0, b1, e⟩ := lit_2 (Nat.succ.inj h)
    exact ⟨a, b0, b1, by rw [e]⟩
theorem lit_4 {α : Type} {l : List α} (h : l.length = 4) : ∃ a0 a1 a2 a3, l = [a0, a1, a2, a3] := by
  cases l with
  | nil => cases h
  | cons a l =>
    obtain ⟨b0, b1, b2, e⟩ := lit_3 (Nat.succ.inj h)
    exact ⟨a, b0, b1, b2, by rw [e]⟩
theorem lit_5 {α : Type} {l : List α} (h : l.length = 5) : ∃ a0 a1 a2 a3 a4, l = [a0, a1, a2, a3, a4] := by
  cases l with
  | nil => cases h
  | cons a l =>
    obtain ⟨b0, b1, b2, b3, e⟩ := lit_4 (Nat.succ.inj h)
    exact ⟨a, b0, b1, b2, b3, by rw [e]⟩
theorem lit_6 {α : Type} {l : List α} (h : l.length = 6) : ∃ a0 a1 a2 a3 a4 a5, l = [a0, a1, a2, a3, a4, a5] := by
  cases l with
  | nil => cases h
  | cons a l =>
    obtain ⟨b0, b1, b2, b3, b4, e⟩ := lit_5 (Nat.succ.inj h)
    exact ⟨a, b0, b1, b2, b3, b4, by rw [e]⟩
theorem lit_7 {α : Type} {l : List α} (h : l.length = 7) : ∃ a0 a1 a2 a3 a4 a5 a6, l = [a0, a1, a2, a3, a4, a5, a6] := by
  cases l with
  | nil => cases h
  | cons a l =>
    obtain ⟨b0, b1, b2, b3, b4, b5, e⟩ := lit_6 (Nat.succ.inj h)
    exact ⟨a, b0, b1, b2, b3, b4, b5, by rw [e]⟩
theorem lit_8 {α : Type} {l : List α} (h : l.length = 8) : ∃ a0 a1 a2 a3 a4 a5 a6 a7, l = [a0, a1, a2, a3, a4, a5, a6, a7] := by
  cases l with
  | nil => cases h
  | cons a l =>
    obtain ⟨b0, b1, b2, b3, b4, b5, b6, e⟩ := lit_7 (Nat.succ.inj h)
    exact ⟨a, b0, b1, b2, b3, b4, b5, b6, by rw [e]⟩
theorem lit_9 {α : Type} {l : List α} (h : l.length = 9) : ∃ a0 a1 a2 a3 a4 a5 a6 a7 a8, l = [a0, a1, a2, a3, a4, a5, a6, a7, a8] := by
  cases l with
  | nil => cases h
  | cons a l =>
    obtain ⟨b0, b1, b2, b3, b4, b5, b6, b7, e⟩ := lit_8 (Nat.succ.inj h)
    exact ⟨a, b0, b1, b2, b3, b4, b5, b6, b7, by rw [e]⟩
theorem lit_10 {α : Type} {l : List α} (h : l.length = 10) : ∃ a0 a1 a2 a3 a4 a5 a6 a7 a8 a9, l = [a0, a1, a2, a3, a4, a5, a6, a7, a8, a9] := by
  cases l with
  | nil => cases h
  | cons a l =>
    obtain ⟨b0, b1, b2, b3, b4, b5, b6, b7, b8, e⟩ := lit_9 (Nat.succ.inj h)
    exact ⟨a, b0, b1, b2, b3, b4, b5, b6, b7, b8, by rw [e]⟩
theorem lit_11 {α : Type} {l : List α} (h : l.length = 11) : ∃ a0 a1 a2 a3 a4 a5 a6 a7 a8 a9 a10, l = [a0, a1, a2, a3, a4, a5, a6, a7, a8, a9, a10] := by
  cases l with
  | nil => cases h
  | cons a l =>
    obtain ⟨b0, b1, b2, b3, b4, b5, b6, b7, b8, b9, e⟩ := lit_10 (Nat.succ.inj h)
    exact ⟨a, b0, b1, b2, b3, b4, b5, b6, b7, b8, b9, by rw [e]⟩
theorem lit_12 {α : Type} {l : List α} (h : l.length = 12) : ∃ a0 a1 a2 a3 a4 a5 a6 a7 a8 a9 a10 a11, l = [a0, a1, a2, a3, a4, a5, a6, a7, a8, a9, a10, a11] := by
  cases l with
  | nil => cases h
  | cons a l =>
    obtain ⟨b0, b1, b2, b3, b4, b5, b6, b7, b8, b9, b10, e⟩ := lit_11 (Nat.succ.inj h)
    exact ⟨a, b0, b1, b2, b3, b4, b5, b6, b7, b8, b9, b10, by rw [e]⟩
theorem lit_13 {α : Type} {l : List α} (h : l.length = 13) : ∃ a0 a1 a2 a3 a4 a5 a6 a7 a8 a9 a10 a11 a12, l = [a0, a1, a2, a3, a4, a5, a6, a7, a8, a9, a10, a11, a12] := by
  cases l with
  | nil => cases h
  | cons a l =>
    obtain ⟨b0, b1, b2, b3, b4, b5, b6, b7, b8, b9, b10, b11, e⟩ := lit_12 (Nat.succ.inj h)
    exact ⟨a, b0, b1, b2, b3, b4, b5, b6, b7, b8, b9, b10, b11, by rw [e]⟩
theorem lit_14 {α : Type} {l : List α} (h : l.length = 14) : ∃ a0 a1 a2 a3 a4 a5 a6 a7 a8 a9 a10 a11 a12 a13, l = [a0, a1, a2, a3, a4, a5, a6, a7, a8, a9, a10, a11, a12, a13] := by
  cases l with
  | nil => cases h
  | cons a l =>
    obtain ⟨b0, b1, b2, b3, b4, b5, b6, b7, b8, b9, b10, b11, b12, e⟩ := lit_13 (Nat.succ.inj h)
    exact ⟨a, b0, b1, b2, b3, b4, b5, b6, b7, b8, b9, b10, b11, b12, by rw [e]⟩
theorem lit_15 {α : Type} {l : List α} (h : l.length = 15) : ∃ a0 a1 a2 a3 a4 a5 a6 a7 a8 a9 a10 a11 a12 a13 a14, l = [a0, a1, a2, a3, a4, a5, a6, a7, a8, a9, a10, a11, a12, a13, a14] := by
  cases l with
  | nil => cases h
  | cons a l =>
    obtain ⟨b0, b1, b2, b3, b4, b5, b6, b7, b8, b9, b10, b11, b12, b13, e⟩ := lit_14 (Nat.succ.inj h)
    exact ⟨a, b0, b1, b2, b3, b4, b5, b6, b7, b8, b9, b10, b11, b12, b13, by rw [e]⟩
theorem lit_16 {α : Type} {l : List α} (h : l.length = 16) : ∃ a0 a1 a2 a3 a4 a5 a6 a7 a8 a9 a10 a11 a12 a13 a14 a15, l = [a0, a1, a2, a3, a4, a5, a6, a7, a8, a9, a10, a11, a12, a13, a14, a15] := by
  cases l with
  | nil => cases h
  | cons a l =>
    obtain ⟨b0, b1, b2, b3, b4, b5, b6, b7, b8, b9, b10, b11, b12, b13, b14, e⟩ := lit_15 (Nat.succ.inj h)
    exact ⟨a, b0, b1, b2, b3, b4, b5, b6, b7, b8, b9, b10, b11, b12, b13, b14, by rw [e]⟩
theorem lit_17 {α : Type} {l : List α} (h : l.length = 17) : ∃ a0 a1 a2 a3 a4 a5 a6 a7 a8 a9 a10 a11 a12 a13 a14 a15 a16, l = [a0, a1, a2, a3, a4, a5, a6, a7, a8, a9, a10, a11, a12, a13, a14, a15, a16] := by
  cases l with
  | nil => cases h
  | cons a l =>
    obtain ⟨b0, b1, b2, b3, b4, b5, b6, b7, b8, b9, b10, b11, b12, b13, b14, b15, e⟩ := lit_16 (Nat.succ.inj h)
    exact ⟨a, b0, b1, b2, b3, b4, b5, b6, b7, b8, b9, b10, b11, b12, b13, b14, b15, by rw [e]⟩
theorem lit_18 {α : Type} {l : List α} (h : l.length = 18) : ∃ a0 a1 a2 a3 a4 a5 a6 a7 a8 a9 a10 a11 a12 a13 a14 a15 a16 a17, l = [a0, a1, a2, a3, a4, a5, a6, a7, a8, a9, a10, a11, a12, a13, a14, a15, a16, a17] := by
  cases l with
  | nil => cases h
  | cons a l =>
    obtain ⟨b0, b1, b2, b3, b4, b5, b6, b7, b8, b9, b10, b11, b12, b13, b14, b15, b16, e⟩ := lit_17 (Nat.succ.inj h)
    exact ⟨a, b0, b1, b2, b3, b4, b5, b6, b7, b8, b9, b10, b11, b12, b13, b14, b15, b16, by rw [e]⟩
theorem lit_19 {α : Type} {l : List α} (h : l.length = 19) : ∃ a0 a1 a2 a3 a4 a5 a6 a7 a8 a9 a10 a11 a12 a13 a14 a15 a16 a17 a18, l = [a0, a1, a2, a3, a4, a5, a6, a7, a8, a9, a10, a11, a12, a13, a14, a15, a16, a17, a18] := by
  cases l with
  | nil => cases h
  | cons a l =>
    obtain ⟨b0, b1, b2, b3, b4, b5, b6, b7, b8, b9, b10, b11, b12, b13, b14, b15, b16, b17, e⟩ := lit_18 (Nat.succ.inj h)
    exact ⟨a, b0, b1, b2, b3, b4, b5, b6, b7, b8, b9, b10, b11, b12, b13, b14, b15, b16, b17, by rw [e]⟩
theorem lit_20 {α : Type} {l : List α} (h : l.length = 20) : ∃ a0 a1 a2 a3 a4 a5 a6 a7 a8 a9 a10 a11 a12 a13 a14 a15 a16 a17 a18 a19, l = [a0, a1, a2, a3, a4, a5, a6, a7, a8, a9, a10, a11, a12, a13, a14, a15, a16, a17, a18, a19] := by
  cases l with
  | nil => cases h
  | cons a l =>
    obtain ⟨b0, b1, b2, b3, b4, b5, b6, b7, b8, b9, b10, b11, b12, b13, b14, b15, b16, b17, b18, e⟩ := lit_19 (Nat.succ.inj h)
    exact ⟨a, b0, b1, b2, b3, b4, b5, b6, b7, b8, b9, b10, b11, b12, b13, b14, b15, b16, b17, b18, by rw [e]⟩
theorem lit_21 {α : Type} {l : List α} (h : l.length = 21) : ∃ a0 a1 a2 a3 a4 a5 a6 a7 a8 a9 a10 a11 a12 a13 a14 a15 a16 a17 a18 a19 a20, l = [a0, a1, a2, a3, a4, a5, a6, a7, a8, a9, a10, a11, a12, a13, a14, a15, a16, a17, a18, a19, a20] := by
  cases l with
  | nil => cases h
  | cons a l =>
    obtain ⟨b0, b1, b2, b3, b4, b5, b6, b7, b8, b9, b10, b11, b12, b13, b14, b15, b16, b17, b18, b19, e⟩ := lit_20 (Nat.succ.inj h)
    exact ⟨a, b0, b1, b2, b3, b4, b5, b6, b7, b8, b9, b10, b11, b12, b13, b14, b15, b16, b17, b18, b19, by rw [e]⟩
theorem lit_22 {α : Type} {l : List α} (h : l.length = 22) : ∃ a0 a1 a2 a3 a4 a5 a6 a7 a8 a9 a10 a11 a12 a13 a14 a15 a16 a17 a18 a19 a20 a21, l = [a0, a1, a2, a3, a4, a5, a6, a7, a8, a9, a10, a11, a12, a13, a14, a15, a16, a17, a18, a19, a20, a21] := by
  cases l with
  | nil => cases h
  | cons a l =>
    obtain ⟨b0, b1, b2, b3, b4, b5, b6, b7, b8, b9, b10, b11, b12, b13, b14, b15, b16, b17, b18, b19, b20, e⟩ := lit_21 (Nat.succ.inj h)
    exact ⟨a, b0, b1, b2, b3, b4, b5, b6, b7, b8, b9, b10, b11, b12, b13, b14, b15, b16, b17, b18, b19, b20, by rw [e]⟩
theorem lit_23 {α : Type} {l : List α} (h : l.length = 23) : ∃ a0 a1 a2 a3 a4 a5 a6 a7 a8 a9 a10 a11 a12 a13 a14 a15 a16 a17 a18 a19 a20 a21 a22, l = [a0, a1, a2, a3, a4, a5, a6, a7, a8, a9, a10, a11, a12, a13, a14, a15, a16, a17, a18, a19, a20, a21, a22] := by
  cases l with
  | nil => cases h
  | cons a l =>
    obtain ⟨b0, b1, b2, b3, b4, b5, b6, b7, b8, b9, b10, b11, b12, b13, b14, b15, b16, b17, b18, b19, b20, b21, e⟩ := lit_22 (Nat.succ.inj h)
    exact ⟨a, b0, b1, b2, b3, b4, b5, b6, b7, b8, b9, b10, b11, b12, b13, b14, b15, b16, b17, b18, b19, b20, b21, by rw [e]⟩
theorem lit_24 {α : Type} {l : List α} (h : l.length = 24) : ∃ a0 a1 a2 a3 a4 a5 a6 a7 a8 a9 a10 a11 a12 a13 a14 a15 a16 a17 a18 a19 a20 a21 a22 a23, l = [a0, a1, a2, a3, a4, a5, a6, a7, a8, a9, a10, a11, a12, a13, a14, a15, a16, a17, a18, a19, a20, a21, a22, a23] := by
  cases l with
  | nil => cases h
  | cons a l =>
    obtain ⟨b0, b1, b2, b3, b4, b5, b6, b7, b8, b9, b10, b11, b12, b13, b14, b15, b16, b17, b18, b19, b20, b21, b22, e⟩ := lit_23 (Nat.succ.inj h)
    exact ⟨a, b0, b1, b2, b3, b4, b5, b6, b7, b8, b9, b10, b11, b12, b13, b14, b15, b16, b17, b18, b19, b20, b21, b22, by rw [e]⟩
theorem lit_25 {α : Type} {l : List α} (h : l.length = 25) : ∃ a0 a1 a2 a3 a4 a5 a6 a7 a8 a9 a10 a11 a12 a13 a14 a15 a16 a17 a18 a19 a20 a21 a22 a23 a24, l = [a0, a1, a2, a3, a4, a5, a6, a7, a8, a9, a10, a11, a12, a13, a14, a15, a16, a17, a18, a19, a20, a21, a22, a23, a24] := by
  cases l with
  | nil => cases h
  | cons a l =>
    obtain ⟨b0, b1, b2, b3, b4, b5, b6, b7, b8, b9, b10, b11, b12, b13, b14, b15, b16, b17, b18, b19, b20, b21, b22, b23, e⟩ := lit_24 (Nat.succ.inj h)
    exact ⟨a, b0, b1, b2, b3, b4, b5, b6, b7, b8, b9, b10, b11, b12, b13, b14, b15, b16, b17, b18, b19, b20, b21, b22, b23, by rw [e]⟩
theorem lit_26 {α : Type} {l : List α} (h : l.length = 26) : ∃ a0 a1 a2 a3 a4 a5 a6 a7 a8 a9 a10 a11 a12 a13 a14 a15 a16 a17 a18 a19 a20 a21 a22 a23 a24 a25, l = [a0, a1, a2, a3, a4, a5, a6, a7, a8, a9, a10, a11, a12, a13, a14, a15, a16, a17, a18, a19, a20, a21, a22, a23, a24, a25] := by
  cases l with
  | nil => cases h
  | cons a l =>
    obtain ⟨b0, b1, b2, b3, b4, b5, b6, b7, b8, b9, b10, b11, b12, b13, b14, b15, b16, b17, b18, b19, b20, b21, b22, b23, b24, e⟩ := lit_25 (Nat.succ.inj h)
    exact ⟨a, b0, b1, b2, b3, b4, b5, b6, b7, b8, b9, b10, b11, b12, b13, b14, b15, b16, b17, b18, b19, b20, b21, b22, b23, b24, by rw [e]⟩
theorem lit_27 {α : Type} {l : List α} (h : l.length = 27) : ∃ a0 a1 a2 a3 a4 a5 a6 a7 a8 a9 a10 a11 a12 a13 a14 a15 a16 a17 a18 a19 a20 a21 a22 a23 a24 a25 a26, l = [a0, a1, a2, a3, a4, a5, a6, a7, a8, a9, a10, a11, a12, a13, a14, a15, a16, a17, a18, a19, a20, a21, a22, a23, a24, a25, a26] := by
  cases l with
  | nil => cases h
  | cons a l =>
    obtain ⟨b0, b1, b2, b3, b4, b5, b6, b7, b8, b9, b10, b11, b12, b13, b14, b15, b16, b17, b18, b19, b20, b21, b22, b23, b24, b25, e⟩ := lit_26 (Nat.succ.inj h)
    exact ⟨a, b0, b1, b2, b3, b4, b5, b6, b7, b8, b9, b10, b11, b12, b13, b14, b15, b16, b17, b18, b19, b20, b21, b22, b23, b24, b25, by rw [e]⟩
theorem lit_28 {α : Type} {l : List α} (h : l.length = 28) : ∃ a0 a1 a2 a3 a4 a5 a6 a7 a8 a9 a10 a11 a12 a13 a14 a15 a16 a17 a18 a19 a20 a21 a22 a23 a24 a25 a26 a27, l = [a0, a1, a2, a3, a4, a5, a6, a7, a8, a9, a10, a11, a12, a13, a14, a15, a16, a17, a18, a19, a20, a21, a22, a23, a24, a25, a26, a27] := by
  cases l with
  | nil => cases h
  | cons a l =>
    obtain ⟨b0, b1, b2, b3, b4, b5, b6, b7, b8, b9, b10, b11, b12, b13, b14, b15, b16, b17, b18, b19, b20, b21, b22, b23, b24, b25, b26, e⟩ := lit_27 (Nat.succ.inj h)
    exact ⟨a, b0, b1, b2, b3, b4, b5, b6, b7, b8, b9, b10, b11, b12, b13, b14, b15, b16, b17, b18, b19, b20, b21, b22, b23, b24, b25, b26, by rw [e]⟩
theorem lit_29 {α : Type} {l : List α} (h : l.length = 29) : ∃ a0 a1 a2 a3 a4 a5 a6 a7 a8 a9 a10 a11 a12 a13 a14 a15 a16 a17 a18 a19 a20 a21 a22 a23 a24 a25 a26 a27 a28, l = [a0, a1, a2, a3, a4, a5, a6, a7, a8, a9, a10, a11, a12, a13, a14, a15, a16, a17, a18, a19, a20, a21, a22, a23, a24, a25, a26, a27, a28] := by
  cases l with
  | nil => cases h
  | cons a l =>
    obtain ⟨b0, b1, b2, b3, b4, b5, b6, b7, b8, b9, b10, b11, b12, b13, b14, b15, b16, b17, b18, b19, b20, b21, b22, b23, b24, b25, b26, b27, e⟩ := lit_28 (Nat.succ.inj h)
    exact ⟨a, b0, b1, b2, b3, b4, b5, b6, b7, b8, b9, b10, b11, b12, b13, b14, b15, b16, b17, b18, b19, b20, b21, b22, b23, b24, b25, b26, b27, by rw [e]⟩
theorem lit_30 {α : Type} {l : List α} (h : l.length = 30) : ∃ a0 a1 a2 a3 a4 a5 a6 a7 a8 a9 a10 a11 a12 a13 a14 a15 a16 a17 a18 a19 a20 a21 a22 a23 a24 a25 a26 a27 a28 a29, l = [a0, a1, a2, a3, a4, a5, a6, a7, a8, a9, a10, a11, a12, a13, a14, a15, a16, a17, a18, a19, a20, a21, a22, a23, a24, a25, a26, a27, a28, a29] := by
  cases l with
  | nil => cases h
  | cons a l =>
    obtain ⟨b0, b1, b2, b3, b4, b5, b6, b7, b8, b9, b10, b11, b12, b13, b14, b15, b16, b17, b18, b19, b20, b21, b22, b23, b24, b25, b26, b27, b28, e⟩ := lit_29 (Nat.succ.inj h)
    exact ⟨a, b0, b1, b2, b3, b4, b5, b6, b7, b8, b9, b10, b11, b12, b13, b14, b15, b16, b17, b18, b19, b20, b21, b22, b23, b24, b25, b26, b27, b28, by rw [e]⟩
theorem lit_31 {α : Type} {l : List α} (h : l.length = 31) : ∃ a0 a1 a2 a3 a4 a5 a6 a7 a8 a9 a10 a11 a12 a13 a14 a15 a16 a17 a18 a19 a20 a21 a22 a23 a24 a25 a26 a27 a28 a29 a30, l = [a0, a1, a2, a3, a4, a5, a6, a7, a8, a9, a10, a11, a12, a13, a14, a15, a16, a17, a18, a19, a20, a21, a22, a23, a24, a25, a26, a27, a28, a29, a30] := by
  cases l with
  | nil => cases h
  | cons a l =>
    obtain ⟨b0, b1, b2, b3, b4, b5, b6, b7, b8, b9, b10, b11, b12, b13, b14, b15, b16, b17, b18, b19, b20, b21, b22, b23, b24, b25, b26, b27, b28, b29, e⟩ := lit_30 (Nat.succ.inj h)
    exact ⟨a, b0, b1, b2, b3, b4, b5, b6, b7, b8, b9, b10, b11, b12, b13, b14, b15, b16, b17, b18, b19, b20, b21, b22, b23, b24, b25, b26, b27, b28, b29, by rw [e]⟩
theorem lit_32 {α : Type} {l : List α} (h : l.length = 32) : ∃ a0 a1 a2 a3 a4 a5 a6 a7 a8 a9 a10 a11 a12 a13 a14 a15 a16 a17 a18 a19 a20 a21 a22 a23 a24 a25 a26 a27 a28 a29 a30 a31, l = [a0, a1, a2, a3, a4, a5, a6, a7, a8, a9, a10, a11, a12, a13, a14, a15, a16, a17, a18, a19, a20, a21, a22, a23, a24, a25, a26, a27, a28, a29, a30, a31] := by
  cases l with
  | nil => cases h
  | cons a l =>
    obtain ⟨b0, b1, b2, b3, b4, b5, b6, b7, b8, b9, b10, b11, b12, b13, b14, b15, b16, b17, b18, b19, b20, b21, b22, b23, b24, b25, b26, b27, b28, b29, b30, e⟩ := lit_31 (Nat.succ.inj h)
    exact ⟨a, b0, b1, b2, b3, b4, b5, b6, b7, b8, b9, b10, b11, b12, b13, b14, b15, b16, b17, b18, b19, b20, b21, b22, b23, b24, b25, b26, b27, b28, b29, b30, by rw [e]⟩
theorem lit_33 {α : Type} {l : List α} (h : l.length = 33) : ∃ a0 a1 a2 a3 a4 a5 a6 a7 a8 a9 a10 a11 a12 a13 a14 a15 a16 a17 a18 a19 a20 a21 a22 a23 a24 a25 a26 a27 a28 a29 a30 a31 a32, l = [a0, a1, a2, a3, a4, a5, a6, a7, a8, a9, a10, a11, a12, a13, a14, a15, a16, a17, a18, a19, a20, a21, a22, a23, a24, a25, a26, a27, a28, a29, a30, a31, a32] := by
  cases l with
  | nil => cases h
  | cons a l =>
    obtain ⟨b0, b1, b2, b3, b4, b5, b6, b7, b8, b9, b10, b11, b12, b13, b14, b15, b16, b17, b18, b19, b20, b21, b22, b23, b24, b25, b26, b27, b28, b29, b30, b31, e⟩ := lit_32 (Nat.succ.inj h)
    exact ⟨a, b0, b1, b2, b3, b4, b5, b6, b7, b8, b9, b10, b11, b12, b13, b14, b15, b16, b17, b18, b19, b20, b21, b22, b23, b24, b25, b26, b27, b28, b29, b30, b31, by rw [e]⟩
theorem lit_34 {α : Type} {l : List α} (h : l.length = 34) : ∃ a0 a1 a2 a3 a4 a5 a6 a7 a8 a9 a10 a11 a12 a13 a14 a15 a16 a17 a18 a19 a20 a21 a22 a23 a24 a25 a26 a27 a28 a29 a30 a31 a32 a33, l = [a0, a1, a2, a3, a4, a5, a6, a7, a8, a9, a10, a11, a12, a13, a14, a15, a16, a17, a18, a19, a20, a21, a22, a23, a24, a25, a26, a27, a28, a29, a30, a31, a32, a33] := by
  cases l with
  | nil => cases h
  | cons a l =>
    obtain ⟨b0, b1, b2, b3, b4, b5, b6, b7, b8, b9, b10, b11, b12, b13, b14, b15, b16, b17, b18, b19, b20, b21, b22, b23, b24, b25, b26, b27, b28, b29, b30, b31, b32, e⟩ := lit_33 (Nat.succ.inj h)
    exact ⟨a, b0, b1, b2, b3, b4, b5, b6, b7, b8, b9, b10, b11, b12, b13, b14, b15, b16, b17, b18, b19, b20, b21, b22, b23, b24, b25, b26, b27, b28, b29, b30, b31, b32, by rw [e]⟩
theorem lit_35 {α : Type} {l : List α} (h : l.length = 35) : ∃ a0 a1 a2 a3 a4 a5 a6 a7 a8 a9 a10 a11 a12 a13 a14 a15 a16 a17 a18 a19 a20 a21 a22 a23 a24 a25 a26 a27 a28 a29 a30 a31 a32 a33 a34, l = [a0, a1, a2, a3, a4, a5, a6, a7, a8, a9, a10, a11, a12, a13, a14, a15, a16, a17, a18, a19, a20, a21, a22, a23, a24, a25, a26, a27, a28, a29, a30, a31, a32, a33, a34] := by
  cases l with
  | nil => cases h
  | cons a l =>
    obtain ⟨b0, b1, b2, b3, b4, b5, b6, b7, b8, b9, b10, b11, b12, b13, b14, b15, b16, b17, b18, b19, b20, b21, b22, b23, b24, b25, b26, b27, b28, b29, b30, b31, b32, b33, e⟩ := lit_34 (Nat.succ.inj h)
    exact ⟨a, b0, b1, b2, b3, b4, b5, b6, b7, b8, b9, b10, b11, b12, b13, b14, b15, b16, b17, b18, b19, b20, b21, b22, b23, b24, b25, b26, b27, b28, b29, b30, b31, b32, b33, by rw [e]⟩
theorem lit_36 {α : Type} {l : List α} (h : l.length = 36) : ∃ a0 a1 a2 a3 a4 a5 a6 a7 a8 a9 a10 a11 a12 a13 a14 a15 a16 a17 a18 a19 a20 a21 a22 a23 a24 a25 a26 a27 a28 a29 a30 a31 a32 a33 a34 a35, l = [a0, a1, a2, a3, a4, a5, a6, a7, a8, a9, a10, a11, a12, a13, a14, a15, a16, a17, a18, a19, a20, a21, a22, a23, a24, a25, a26, a27, a28, a29, a30, a31, a32, a33, a34, a35] := by
  cases l with
  | nil => cases h
  | cons a l =>
    obtain ⟨b0, b1, b2, b3, b4, b5, b6, b7, b8, b9, b10, b11, b12, b13, b14, b15, b16, b17, b18, b19, b20, b21, b22, b23, b24, b25, b26, b27, b28, b29, b30, b31, b32, b33, b34, e⟩ := lit_35 (Nat.succ.inj h)
    exact ⟨a, b0, b1, b2, b3, b4, b5, b6, b7, b8, b9, b10, b11, b12, b13, b14, b15, b16, b17, b18, b19, b20, b21, b22, b23, b24, b25, b26, b27, b28, b29, b30, b31, b32, b33, b34, by rw [e]⟩
theorem lit_37 {α : Type} {l : List α} (h : l.length = 37) : ∃ a0 a1 a2 a3 a4 a5 a6 a7 a8 a9 a10 a11 a12 a13 a14 a15 a16 a17 a18 a19 a20 a21 a22 a23 a24 a25 a26 a27 a28 a29 a30 a31 a32 a33 a34 a35 a36, l = [a0, a1, a2, a3, a4, a5, a6, a7, a8, a9, a10, a11, a12, a13, a14, a15, a16, a17, a18, a19, a20, a21, a22, a23, a24, a25, a26, a27, a28, a29, a30, a31, a32, a33, a34, a35, a36] := by
  cases l with
  | nil => cases h
  | cons a l =>
    obtain ⟨b0, b1, b2, b3, b4, b5, b6, b7, b8, b9, b10, b11, b12, b13, b14, b15, b16, b17, b18, b19, b20, b21, b22, b23, b24, b25, b26, b27, b28, b29, b30, b31, b32, b33, b34, b35, e⟩ := lit_36 (Nat.succ.inj h)
    exact ⟨a, b0, b1, b2, b3, b4, b5, b6, b7, b8, b9, b10, b11, b12, b13, b14, b15, b16, b17, b18, b19, b20, b21, b22, b23, b24, b25, b26, b27, b28, b29, b30, b31, b32, b33, b34, b35, by rw [e]⟩
theorem lit_38 {α : Type} {l : List α} (h : l.length = 38) : ∃ a0 a1 a2 a3 a4 a5 a6 a7 a8 a9 a10 a11 a12 a13 a14 a15 a16 a17 a18 a19 a20 a21 a22 a23 a24 a25 a26 a27 a28 a29 a30 a31 a32 a33 a34 a35 a36 a37, l = [a0, a1, a2, a3, a4, a5, a6, a7, a8, a9, a10, a11, a12, a13, a14, a15, a16, a17, a18, a19, a20, a21, a22, a23, a24, a25, a26, a27, a28, a29, a30, a31, a32, a33, a34, a35, a36, a37] := by
  cases l with
  | nil => cases h
  | cons a l =>
    obtain ⟨b0, b1, b2, b3, b4, b5, b6, b7, b8, b9, b10, b11, b12, b13, b14, b15, b16, b17, b18, b19, b20, b21, b22, b23, b24, b25, b26, b27, b28, b29, b30, b31, b32, b33, b34, b35, b36, e⟩ := lit_37 (Nat.succ.inj h)
    exact ⟨a, b0, b1, b2, b3, b4, b5, b6, b7, b8, b9, b10, b11, b12, b13, b14, b15, b16, b17, b18, b19, b20, b21, b22, b23, b24, b25, b26, b27, b28, b29, b30, b31, b32, b33, b34, b35, b36, by rw [e]⟩
theorem lit_39 {α : Type} {l : List α} (h : l.length = 39) : ∃ a0 a1 a2 a3 a4 a5 a6 a7 a8 a9 a10 a11 a12 a13 a14 a15 a16 a17 a18 a19 a20 a21 a22 a23 a24 a25 a26 a27 a28 a29 a30 a31 a32 a33 a34 a35 a36 a37 a38, l = [a0, a1, a2, a3, a4, a5, a6, a7, a8, a9, a10, a11, a12, a13, a14, a15, a16, a17, a18, a19, a20, a21, a22, a23, a24, a25, a26, a27, a28, a29, a30, a31, a32, a33, a34, a35, a36, a37, a38] := by
  cases l with
  | nil => cases h
  | cons a l =>
    obtain ⟨b0, b1, b2, b3, b4, b5, b6, b7, b8, b9, b10, b11, b12, b13, b14, b15, b16, b17, b18, b19, b20, b21, b22, b23, b24, b25, b26, b27, b28, b29, b30, b31, b32, b33, b34, b35, b36, b37, e⟩ := lit_38 (Nat.succ.inj h)
    exact ⟨a, b0, b1, b2, b3, b4, b5, b6, b7, b8, b9, b10, b11, b12, b13, b14, b15, b16, b17, b18, b19, b20, b21, b22, b23, b24, b25, b26, b27, b28, b29, b30, b31, b32, b33, b34, b35, b36, b37, by rw [e]⟩
theorem lit_40 {α : Type} {l : List α} (h : l.length = 40) : ∃ a0 a1 a2 a3 a4 a5 a6 a7 a8 a9 a10 a11 a12 a13 a14 a15 a16 a17 a18 a19 a20 a21 a22 a23 a24 a25 a26 a27 a28 a29 a30 a31 a32 a33 a34 a35 a36 a37 a38 a39, l = [a0, a1, a2, a3, a4, a5, a6, a7, a8, a9, a10, a11, a12, a13, a14, a15, a16, a17, a18, a19, a20, a21, a22, a23, a24, a25, a26, a27, a28, a29, a30, a31, a32, a33, a34, a35, a36, a37, a38, a39] := by
  cases l with
  | nil => cases h
  | cons a l =>
    obtain ⟨b0, b1, b2, b3, b4, b5, b6, b7, b8, b9, b10, b11, b12, b13, b14, b15, b16, b17, b18, b19, b20, b21, b22, b23, b24, b25, b26, b27, b28, b29, b30, b31, b32, b33, b34, b35, b36, b37, b38, e⟩ := lit_39 (Nat.succ.inj h)
    exact ⟨a, b0, b1, b2, b3, b4, b5, b6, b7, b8, b9, b10, b11, b12, b13, b14, b15, b16, b17, b18, b19, b20, b21, b22, b23, b24, b25, b26, b27, b28, b29, b30, b31, b32, b33, b34, b35, b36, b37, b38, by rw [e]⟩
end DL

set_option Elab.async false
set_option linter.all false
set_option maxRecDepth 100000
set_option maxHeartbeats 4000000
set_option synthInstance.maxHeartbeats 4000000
set_option synthInstance.maxSize 100000
/-! The defs of the text, their bodies over data, the derivations: printed by gen.py. -/
namespace K54
open PySem PySem.Spec PyProof.Rows L2 DL
def topS (i : Nat) : Stmt := PySem.Challenge.pw_agreedapart_k54_whole_how_often_all_is_s.main.body.getD i (.Pass ⟨0, 0, 0, 0⟩)
abbrev s_outcome : Stmt := topS 1
abbrev N_outcome : List Str := ["order", "width", "state", "number", "base", "above"]
abbrev P_outcome : Nat := 4
theorem sc_outcome : FnScope N_outcome ["order", "width", "state", "number"] (defScope s_outcome) := ⟨rfl, rfl, rfl, by decide +kernel, rfl, by decide +kernel, by decide +kernel⟩
abbrev s_moved_by : Stmt := topS 2
abbrev N_moved_by : List Str := ["order", "width", "state", "number", "word", "base", "above", "ran", "one"]
abbrev P_moved_by : Nat := 4
theorem sc_moved_by : FnScope N_moved_by ["order", "width", "state", "number"] (defScope s_moved_by) := ⟨rfl, rfl, rfl, by decide +kernel, rfl, by decide +kernel, by decide +kernel⟩
abbrev s_passes : Stmt := topS 3
abbrev N_passes : List Str := ["order", "width", "row", "state", "found", "number"]
abbrev P_passes : Nat := 3
theorem sc_passes : FnScope N_passes ["order", "width", "row"] (defScope s_passes) := ⟨rfl, rfl, rfl, by decide +kernel, rfl, by decide +kernel, by decide +kernel⟩
abbrev s_law_heap : Stmt := topS 5
abbrev N_law_heap : List Str := ["script", "cell", "cells", "stir"]
abbrev P_law_heap : Nat := 1
theorem sc_law_heap : FnScope N_law_heap ["script"] (defScope s_law_heap) := ⟨rfl, rfl, rfl, by decide +kernel, rfl, by decide +kernel, by decide +kernel⟩
abbrev s_law_draw : Stmt := topS 6
abbrev N_law_draw : List Str := ["heap", "many", "rest"]
abbrev P_law_draw : Nat := 2
theorem sc_law_draw : FnScope N_law_draw ["heap", "many"] (defScope s_law_draw) := ⟨rfl, rfl, rfl, by decide +kernel, rfl, by decide +kernel, by decide +kernel⟩
abbrev s_law_pick : Stmt := topS 7
abbrev N_law_pick : List Str := ["heap", "some"]
abbrev P_law_pick : Nat := 2
theorem sc_law_pick : FnScope N_law_pick ["heap", "some"] (defScope s_law_pick) := ⟨rfl, rfl, rfl, by decide +kernel, rfl, by decide +kernel, by decide +kernel⟩
abbrev s_law_shuffled : Stmt := topS 8
abbrev N_law_shuffled : List Str := ["heap", "some", "rest", "made"]
abbrev P_law_shuffled : Nat := 2
theorem sc_law_shuffled : FnScope N_law_shuffled ["heap", "some"] (defScope s_law_shuffled) := ⟨rfl, rfl, rfl, by decide +kernel, rfl, by decide +kernel, by decide +kernel⟩
abbrev s_law_same : Stmt := topS 9
abbrev N_law_same : List Str := ["value", "due", "one", "other"]
abbrev P_law_same : Nat := 2
theorem sc_law_same : FnScope N_law_same ["value", "due"] (defScope s_law_same) := ⟨rfl, rfl, rfl, by decide +kernel, rfl, by decide +kernel, by decide +kernel⟩
abbrev s_law_row_drawn : Stmt := topS 10
abbrev N_law_row_drawn : List Str := ["heap", "many", "row", "kind", "at", "turn"]
abbrev P_law_row_drawn : Nat := 2
theorem sc_law_row_drawn : FnScope N_law_row_drawn ["heap", "many"] (defScope s_law_row_drawn) := ⟨rfl, rfl, rfl, by decide +kernel, rfl, by decide +kernel, by decide +kernel⟩
abbrev s_law_said : Stmt := topS 11
abbrev N_law_said : List Str := ["order", "width", "row", "done", "held", "base", "often", "number"]
abbrev P_law_said : Nat := 3
theorem sc_law_said : FnScope N_law_said ["order", "width", "row"] (defScope s_law_said) := ⟨rfl, rfl, rfl, by decide +kernel, rfl, by decide +kernel, by decide +kernel⟩
abbrev s_law_passes_right : Stmt := topS 12
abbrev N_law_passes_right : List Str := ["order", "width", "row", "told", "place", "at", "number", "late", "one", "other"]
abbrev P_law_passes_right : Nat := 3
theorem sc_law_passes_right : FnScope N_law_passes_right ["order", "width", "row"] (defScope s_law_passes_right) := ⟨rfl, rfl, rfl, by decide +kernel, rfl, by decide +kernel, by decide +kernel⟩
abbrev s_law_all_rows : Stmt := topS 13
abbrev N_law_all_rows : List Str := ["many", "rows", "number", "longer", "row", "at"]
abbrev P_law_all_rows : Nat := 1
theorem sc_law_all_rows : FnScope N_law_all_rows ["many"] (defScope s_law_all_rows) := ⟨rfl, rfl, rfl, by decide +kernel, rfl, by decide +kernel, by decide +kernel⟩
abbrev s_law : Stmt := topS 14
abbrev N_law : List Str := ["script", "heap", "row", "order", "turn", "width"]
abbrev P_law : Nat := 1
theorem sc_law : FnScope N_law ["script"] (defScope s_law) := ⟨rfl, rfl, rfl, by decide +kernel, rfl, by decide +kernel, by decide +kernel⟩
/-- what the module's names hold -/
structure Txt (K : PySem.W.Frag) (mg : Str → Option Value) : Prop where
  n_tuple : mg "tuple" = none
  n_sorted : mg "sorted" = none
  n_len : mg "len" = none
  n_abs : mg "abs" = none
  n_int : mg "int" = none
  n_list : mg "list" = none
  n_isinstance : mg "isinstance" = none
  n_zip : mg "zip" = none
  n_bool : mg "bool" = none
  n_str : mg "str" = none
  n_range : mg "range" = none
  n_enumerate : mg "enumerate" = none
section
variable {P : Program} {w : World} {K : PySem.W.Frag} {mg : Str → Option Value} {base : Heap}
/-- outcome -/
def b_outcome : TDS :=
  (dSeq (dAsg (dVar 2) (dgTup 2 (dgCons (dgName 4) (dgCons (dgName 5) dgNil))))
    (dSeq (dIfS (dOr (dTest (dOp ltD (dVar 3) (dVar 4))) (dAnd (dTest (dOp eqD (dVar 0) (dC (.str "any")))) (dTest (dOp inD (dVar 3) (dVar 5)))))
    (dRet (dC (.str "again")))
    dNext)
    (dSeq (dIfS (dOr (dTest (dOp geD (dVar 3) (dOp addD (dVar 4) (dVar 1)))) (dAnd (dTest (dOp eqD (dVar 0) (dC (.str "next")))) (dTest (dOp gtD (dVar 3) (dVar 4)))))
    (dRet (dC (.str "early")))
    dNext)
    (dRet (dIf (dOr (dTest (dOp eqD (dVar 3) (dVar 4))) (dTest (dOp eqD (dVar 0) (dC (.str "any"))))) (dC (.str "acts")) (dC (.str "held")))))))
noncomputable def f_outcome : FS :=
  (fSeq (fAsg (fVarX 2) (fgTup 2 (fgCons (fgName 4) (fgCons (fgName 5) fgNil))))
    (fSeq (fIfS (fOr (fTest (fOp fo_lt (fVarV 3) (fVarV 4))) (fAnd (fTest (fOp fo_eq (fVarV 0) (fC (.str "any")))) (fTest (fOp fo_in (fVarV 3) (fVarV 5)))))
    (fRet (fC (.str "again")))
    fNext)
    (fSeq (fIfS (fOr (fTest (fOp fo_ge (fVarV 3) (fOp fo_add (fVarV 4) (fVarV 1)))) (fAnd (fTest (fOp fo_eq (fVarV 0) (fC (.str "next")))) (fTest (fOp fo_gt (fVarV 3) (fVarV 4)))))
    (fRet (fC (.str "early")))
    fNext)
    (fRet (fIf (fOr (fTest (fOp fo_eq (fVarV 3) (fVarV 4))) (fTest (fOp fo_eq (fVarV 0) (fC (.str "any"))))) (fC (.str "acts")) (fC (.str "held")))))))
theorem pu_outcome : PuS (b_outcome) (f_outcome) := by unfold b_outcome f_outcome; infer_instance
theorem w_outcome (T : Txt K mg)  {f : Addr} (cdv : Value) (A : Around) (outer : List Env) (s : Shared) (H : Hp) (E : XK) (hr : Room 0 (A.deeper (envOfC "outcome" (defScope s_outcome) s.heap.objs.size f cdv))) :
    ∃ t, PDSs (cxOf CX0 P w K mg base N_outcome "outcome" (defScope s_outcome) f cdv A outer s H E).nox (defBody s_outcome) t (b_outcome) := by
  have hu := hu64 hr
  exact ⟨_, (pdss_cons (pds_asg (pd_var (pv 2)) (kdg_tup (K := K) rfl rfl (pdgs_cons (pdg_name (pg_name (i := 4) sc_outcome.nd rfl (Or.inl rfl))) (pdgs_cons (pdg_name (pg_name (i := 5) sc_outcome.nd rfl (Or.inl rfl))) pdgs_nil))))
    (pdss_cons (pds_if (PDW.pt (pdw_or (pdt_cmp oop_lt s2_lt (pd_var (pv 3)) (pd_var (pv 4)) (nomark _)) (pdw_or1 (PDW.pt (pdw_and (pdt_cmp (ko_eq (K := K) rfl hu) s2_eq (pd_var (pv 0)) pd_str (nomark _)) (pdw_and1 (pdt_cmp (ko_in (K := K) rfl) s2_in (pd_var (pv 3)) (pd_var (pv 5)) (by rfl))))))))
    (pdss_one (pds_ret pd_str))
    pdss_nil)
    (pdss_cons (pds_if (PDW.pt (pdw_or (pdt_cmp oop_ge s2_ge (pd_var (pv 3)) (pd_op (ko_add (K := K) rfl) s2_add (pd_var (pv 4)) (pd_var (pv 1))) (nomark _)) (pdw_or1 (PDW.pt (pdw_and (pdt_cmp (ko_eq (K := K) rfl hu) s2_eq (pd_var (pv 0)) pd_str (nomark _)) (pdw_and1 (pdt_cmp oop_gt s2_gt (pd_var (pv 3)) (pd_var (pv 4)) (nomark _))))))))
    (pdss_one (pds_ret pd_str))
    pdss_nil)
    (pdss_one (pds_ret (pd_ifExp (PDW.pt (pdw_or (pdt_cmp (ko_eq (K := K) rfl hu) s2_eq (pd_var (pv 3)) (pd_var (pv 4)) (nomark _)) (pdw_or1 (pdt_cmp (ko_eq (K := K) rfl hu) s2_eq (pd_var (pv 0)) pd_str (nomark _))))) pd_str pd_str))))))⟩
theorem ok_outcome {S : DSp} (T : Txt K mg)  {f : Addr} {fd : FuncData} {dvs0 : List V} (F : FunD K "outcome" "outcome" (defArgs s_outcome) (defBody s_outcome) (defScope s_outcome) dvs0 [] f fd)
    (len : ∀ ds M Q, S ds M Q → ds.length = 4) (sem : ∀ ds M Q, S ds M Q → (b_outcome) { nx := fun _ M => Q .non M, rt := Q } (startD N_outcome ds) M) : FnOk P w K mg base CX0 1 f fd ["order", "width", "state", "number"] (spD K S) :=
  fn_d F sc_outcome len (fun cdv A outer s H E hr => w_outcome T cdv A outer s H E hr) sem
theorem okg_outcome {S : DSp} (T : Txt K mg)  {f : Addr} {fd : FuncData} {dvs0 : List V} (F : FunD K "outcome" "outcome" (defArgs s_outcome) (defBody s_outcome) (defScope s_outcome) dvs0 [] f fd)
    (len : ∀ ds M Q, S ds M Q → ds.length = 4) (sem : ∀ ds M Q, S ds M Q → (b_outcome) { nx := fun _ M => gcQ Q .non M, rt := gcQ Q } (startD N_outcome ds) M) : FnOk P w K mg base CX0 1 f fd ["order", "width", "state", "number"] (spD K S) :=
  fn_g F sc_outcome len (fun cdv A outer s H E hr => w_outcome T cdv A outer s H E hr) sem
/-- moved_by -/
def b_moved_by (S_outcome : DSp) : TDS :=
  (dSeq (dAsg (dCall S_outcome [] (dCons (dVar 0) (dCons (dVar 1) (dCons (dVar 2) (dCons (dVar 3) dNil))))) (dgName 4))
    (dSeq (dAsg (dVar 2) (dgTup 2 (dgCons (dgName 5) (dgCons (dgName 6) dgNil))))
    (dSeq (dIfS (dAnd (dTest (dOp eqD (dVar 4) (dC (.str "held")))) (dTest (dOp notInD (dVar 3) (dVar 6))))
    (dRet (dTup (dCons (dTup (dCons (dVar 5) (dCons (dCB tupleD (dCons (dCB sortD (dCons (dOp addD (dVar 6) (dTup (dCons (dVar 3) dNil))) dNil)) dNil)) dNil))) (dCons (dTup dNil) dNil))))
    dNext)
    (dSeq (dIfS (dTest (dOp neD (dVar 4) (dC (.str "acts"))))
    (dRet (dTup (dCons (dVar 2) (dCons (dTup dNil) dNil))))
    dNext)
    (dSeq (dIfS (dTest (dOp gtD (dVar 3) (dVar 5)))
    (dRet (dTup (dCons (dTup (dCons (dVar 5) (dCons (dCB tupleD (dCons (dCB sortD (dCons (dOp addD (dVar 6) (dTup (dCons (dVar 3) dNil))) dNil)) dNil)) dNil))) (dCons (dTup (dCons (dVar 3) dNil)) dNil))))
    dNext)
    (dSeq (dAsg (dTup (dCons (dLstM (dCons (dVar 3) dNil)) (dCons (dOp addD (dVar 5) (dC (.int 1))) dNil))) (dgTup 2 (dgCons (dgName 7) (dgCons (dgName 5) dgNil))))
    (dSeq (dWhile (dTest (dOp inD (dVar 5) (dVar 6)))
    (dSeq (dIfS (dTest (dOp eqD (dVar 0) (dC (.str "wait"))))
    (dDrop (dBM appD (dVar 7) (dCons (dVar 5) dNil)))
    dNext)
    (dAug 5 iaddD (dC (.int 1)))))
    (dRet (dTup (dCons (dTup (dCons (dVar 5) (dCons (dCB tupleD (dCons (dLc (diAny (dVar 6)) (dgName 8) (dTest (dOp gtD (dVar 8) (dVar 5))) (dVar 8) [8]) dNil)) dNil))) (dCons (dCB tupleD (dCons (dVar 7) dNil)) dNil)))))))))))
noncomputable def f_moved_by (F_outcome : List D → Option D) : FS :=
  (fSeq (fAsg (fCall F_outcome [] (fCons (fVarV 0) (fCons (fVarV 1) (fCons (fVarV 2) (fCons (fVarV 3) fNil))))) (fgName 4))
    (fSeq (fAsg (fVarX 2) (fgTup 2 (fgCons (fgName 5) (fgCons (fgName 6) fgNil))))
    (fSeq (fIfS (fAnd (fTest (fOp fo_eq (fVarV 4) (fC (.str "held")))) (fTest (fOp fo_notIn (fVarV 3) (fVarV 6))))
    (fRet (fTup (fCons (fTup (fCons (fVarX 5) (fCons (fCB fo_tuple (fCons (fCB fo_sort (fCons (fOp fo_add (fVarV 6) (fTup (fCons (fVarX 3) fNil))) fNil)) fNil)) fNil))) (fCons (fTup fNil) fNil))))
    fNext)
    (fSeq (fIfS (fTest (fOp fo_ne (fVarV 4) (fC (.str "acts"))))
    (fRet (fTup (fCons (fVarX 2) (fCons (fTup fNil) fNil))))
    fNext)
    (fSeq (fIfS (fTest (fOp fo_gt (fVarV 3) (fVarV 5)))
    (fRet (fTup (fCons (fTup (fCons (fVarX 5) (fCons (fCB fo_tuple (fCons (fCB fo_sort (fCons (fOp fo_add (fVarV 6) (fTup (fCons (fVarX 3) fNil))) fNil)) fNil)) fNil))) (fCons (fTup (fCons (fVarX 3) fNil)) fNil))))
    fNext)
    (fSeq (fTupM 2 [7, 5] (fMO (fLstM (fCons (fVarX 3) fNil)) (fMX (fOp fo_add (fVarV 5) (fC (.int 1))) fMNil)))
    (fSeq (fWhile (fTest (fOp fo_in (fVarV 5) (fVarV 6)))
    (fSeq (fIfS (fTest (fOp fo_eq (fVarV 0) (fC (.str "wait"))))
    (fApp 7 (fVarX 5))
    fNext)
    (fAug 5 fo_iadd (fC (.int 1)))))
    (fRet (fTup (fCons (fTup (fCons (fVarX 5) (fCons (fCB fo_tuple (fCons (fLc (fiAny (fVarV 6)) (fgName 8) (fTest (fOp fo_gt (fVarV 8) (fVarV 5))) (fVarX 8) [8]) fNil)) fNil))) (fCons (fCB fo_tuple (fCons (fVarV 7) fNil)) fNil)))))))))))
theorem pu_moved_by {F_outcome : List D → Option D} : PuS (b_moved_by (pureSp F_outcome)) (f_moved_by F_outcome) := by unfold b_moved_by f_moved_by; infer_instance
theorem w_moved_by {S_outcome : DSp} (T : Txt K mg) (c0 : Callee P w K mg base 1 "outcome" ["order", "width", "state", "number"] S_outcome []) {f : Addr} (cdv : Value) (A : Around) (outer : List Env) (s : Shared) (H : Hp) (E : XK) (hr : Room 1 (A.deeper (envOfC "moved_by" (defScope s_moved_by) s.heap.objs.size f cdv))) :
    ∃ t, PDSs (cxOf CX0 P w K mg base N_moved_by "moved_by" (defScope s_moved_by) f cdv A outer s H E).nox (defBody s_moved_by) t (b_moved_by S_outcome) := by
  have hu := hu64 hr
  obtain ⟨f0, fd0, ds0, dvs0, F0, m0, kp0, b0, v0, r0⟩ := c0.ex
  exact ⟨_, (pdss_cons (pds_set (i := 4) sc_moved_by.nd rfl (Or.inl rfl) (kd_call rfl F0 (hr.mono (by first | decide | exact Nat.le_refl _ | omega)) (by rfl) m0 kp0 b0 v0 r0 (pda_cons (pd_var (pv 0)) (pda_cons (pd_var (pv 1)) (pda_cons (pd_var (pv 2)) (pda_cons (pd_var (pv 3)) pda_nil))))))
    (pdss_cons (pds_asg (pd_var (pv 2)) (kdg_tup (K := K) rfl rfl (pdgs_cons (pdg_name (pg_name (i := 5) sc_moved_by.nd rfl (Or.inr rfl))) (pdgs_cons (pdg_name (pg_name (i := 6) sc_moved_by.nd rfl (Or.inl rfl))) pdgs_nil))))
    (pdss_cons (pds_if (PDW.pt (pdw_and (pdt_cmp (ko_eq (K := K) rfl hu) s2_eq (pd_var (pv 4)) pd_str (nomark _)) (pdw_and1 (pdt_cmp (ko_notIn (K := K) rfl) s2_notIn (pd_var (pv 3)) (pd_var (pv 6)) (by rfl)))))
    (pdss_one (pds_ret (pd_tup (pda_cons (pd_tup (pda_cons (pd_var (pv 5)) (pda_cons (pd_callTy (kc_tuple (K := K) rfl) ks_tuple (by rfl) T.n_tuple (by decide +kernel) (pda_cons (pd_callB (kc_sorted (K := K) rfl) ks_sorted (by rfl) T.n_sorted (by decide +kernel) (pda_cons (pd_op (ko_add (K := K) rfl) s2_add (pd_var (pv 6)) (pd_tup (pda_cons (pd_var (pv 3)) pda_nil))) pda_nil)) pda_nil)) pda_nil))) (pda_cons (pd_tup pda_nil) pda_nil)))))
    pdss_nil)
    (pdss_cons (pds_if (pdt_cmp (ko_ne (K := K) rfl hu) s2_ne (pd_var (pv 4)) pd_str (nomark _))
    (pdss_one (pds_ret (pd_tup (pda_cons (pd_var (pv 2)) (pda_cons (pd_tup pda_nil) pda_nil)))))
    pdss_nil)
    (pdss_cons (pds_if (pdt_cmp oop_gt s2_gt (pd_var (pv 3)) (pd_var (pv 5)) (nomark _))
    (pdss_one (pds_ret (pd_tup (pda_cons (pd_tup (pda_cons (pd_var (pv 5)) (pda_cons (pd_callTy (kc_tuple (K := K) rfl) ks_tuple (by rfl) T.n_tuple (by decide +kernel) (pda_cons (pd_callB (kc_sorted (K := K) rfl) ks_sorted (by rfl) T.n_sorted (by decide +kernel) (pda_cons (pd_op (ko_add (K := K) rfl) s2_add (pd_var (pv 6)) (pd_tup (pda_cons (pd_var (pv 3)) pda_nil))) pda_nil)) pda_nil)) pda_nil))) (pda_cons (pd_tup (pda_cons (pd_var (pv 3)) pda_nil)) pda_nil)))))
    pdss_nil)
    (pdss_cons (pds_asg (pd_tup (pda_cons (pd_lstM (pda_cons (pd_var (pv 3)) pda_nil)) (pda_cons (pd_op (ko_add (K := K) rfl) s2_add (pd_var (pv 5)) pd_int) pda_nil))) (kdg_tup (K := K) rfl rfl (pdgs_cons (pdg_name (pg_name (i := 7) sc_moved_by.nd rfl (Or.inl rfl))) (pdgs_cons (pdg_name (pg_name (i := 5) sc_moved_by.nd rfl (Or.inr rfl))) pdgs_nil))))
    (pdss_cons (pds_while PassesOwn.never (pdt_cmp (ko_in (K := K) rfl) s2_in (pd_var (pv 5)) (pd_var (pv 6)) (by rfl))
    (pdss_cons (pds_if (pdt_cmp (ko_eq (K := K) rfl hu) s2_eq (pd_var (pv 0)) pd_str (nomark _))
    (pdss_one (pds_expr (kd_app (K := K) rfl (pd_var (pv 7)) (pda_cons (pd_var (pv 5)) pda_nil))))
    pdss_nil)
    (pdss_one (pds_augAdd (i := 5) sc_moved_by.nd rfl (Or.inr rfl) pd_int))))
    (pdss_one (pds_ret (pd_tup (pda_cons (pd_tup (pda_cons (pd_var (pv 5)) (pda_cons (pd_callTy (kc_tuple (K := K) rfl) ks_tuple (by rfl) T.n_tuple (by decide +kernel) (pda_cons (pd_lc rfl sc_moved_by.nd (kdi_any (K := K) rfl (pd_var (pv 6))) (blkOk_by (N := N_moved_by) (sc := defScope s_moved_by) (own := [("one", 8)]) (by decide +kernel)) rfl (fun _ _ _ _ _ => (pdg_name (pg_name (i := 8) sc_moved_by.nd rfl (by first | exact Or.inl rfl | exact Or.inr rfl)))) (wr_name (by decide)) (fun _ _ _ _ _ => (pdts_one (pdt_cmp oop_gt s2_gt (pd_var (pv 8)) (pd_var (pv 5)) (nomark _)))) (fun _ _ _ _ _ => (pd_var (pv 8)))) pda_nil)) pda_nil))) (pda_cons (pd_callTy (kc_tuple (K := K) rfl) ks_tuple (by rfl) T.n_tuple (by decide +kernel) (pda_cons (pd_var (pv 7)) pda_nil)) pda_nil))))))))))))⟩
theorem ok_moved_by {S_outcome : DSp} {S : DSp} (T : Txt K mg) (c0 : Callee P w K mg base 1 "outcome" ["order", "width", "state", "number"] S_outcome []) {f : Addr} {fd : FuncData} {dvs0 : List V} (F : FunD K "moved_by" "moved_by" (defArgs s_moved_by) (defBody s_moved_by) (defScope s_moved_by) dvs0 [] f fd)
    (len : ∀ ds M Q, S ds M Q → ds.length = 4) (sem : ∀ ds M Q, S ds M Q → (b_moved_by S_outcome) { nx := fun _ M => Q .non M, rt := Q } (startD N_moved_by ds) M) : FnOk P w K mg base CX0 2 f fd ["order", "width", "state", "number"] (spD K S) :=
  fn_d F sc_moved_by len (fun cdv A outer s H E hr => w_moved_by T c0 cdv A outer s H E hr) sem
theorem okg_moved_by {S_outcome : DSp} {S : DSp} (T : Txt K mg) (c0 : Callee P w K mg base 1 "outcome" ["order", "width", "state", "number"] S_outcome []) {f : Addr} {fd : FuncData} {dvs0 : List V} (F : FunD K "moved_by" "moved_by" (defArgs s_moved_by) (defBody s_moved_by) (defScope s_moved_by) dvs0 [] f fd)
    (len : ∀ ds M Q, S ds M Q → ds.length = 4) (sem : ∀ ds M Q, S ds M Q → (b_moved_by S_outcome) { nx := fun _ M => gcQ Q .non M, rt := gcQ Q } (startD N_moved_by ds) M) : FnOk P w K mg base CX0 2 f fd ["order", "width", "state", "number"] (spD K S) :=
  fn_g F sc_moved_by len (fun cdv A outer s H E hr => w_moved_by T c0 cdv A outer s H E hr) sem
/-- passes -/
def b_passes (S_moved_by : DSp) : TDS :=
  (dSeq (dAsg (dTup (dCons (dTup (dCons (dC (.int 0)) (dCons (dTup dNil) dNil))) (dCons (dC (.int 0)) dNil))) (dgTup 2 (dgCons (dgName 3) (dgCons (dgName 4) dgNil))))
    (dSeq (dWhile (dTest (dOp ltD (dOp ixD (dVar 3) (dC (.int 0))) (dCB lenD (dCons (dVar 2) dNil))))
    (dSeq (dAug 4 iaddD (dC (.int 1)))
    (dFor (diAny (dVar 2)) (dgName 5)
    (dAsg (dOp ixD (dCall S_moved_by [] (dCons (dVar 0) (dCons (dVar 1) (dCons (dVar 3) (dCons (dVar 5) dNil))))) (dC (.int 0))) (dgName 3)))))
    (dRet (dVar 4))))
noncomputable def f_passes (F_moved_by : List D → Option D) : FS :=
  (fSeq (fAsg (fTup (fCons (fTup (fCons (fC (.int 0)) (fCons (fTup fNil) fNil))) (fCons (fC (.int 0)) fNil))) (fgTup 2 (fgCons (fgName 3) (fgCons (fgName 4) fgNil))))
    (fSeq (fWhile (fTest (fOp fo_lt (fOp fo_ix (fVarV 3) (fC (.int 0))) (fCB fo_len (fCons (fVarV 2) fNil))))
    (fSeq (fAug 4 fo_iadd (fC (.int 1)))
    (fFor (fiAny (fVarW 2)) (fgName 5)
    (fAsg (fOp fo_ix (fCall F_moved_by [] (fCons (fVarV 0) (fCons (fVarV 1) (fCons (fVarV 3) (fCons (fVarV 5) fNil))))) (fC (.int 0))) (fgName 3)))))
    (fRetVar 4)))
theorem pu_passes {F_moved_by : List D → Option D} : PuS (b_passes (pureSp F_moved_by)) (f_passes F_moved_by) := by unfold b_passes f_passes; infer_instance
theorem w_passes {S_moved_by : DSp} (T : Txt K mg) (c0 : Callee P w K mg base 2 "moved_by" ["order", "width", "state", "number"] S_moved_by []) {f : Addr} (cdv : Value) (A : Around) (outer : List Env) (s : Shared) (H : Hp) (E : XK) (hr : Room 2 (A.deeper (envOfC "passes" (defScope s_passes) s.heap.objs.size f cdv))) :
    ∃ t, PDSs (cxOf CX0 P w K mg base N_passes "passes" (defScope s_passes) f cdv A outer s H E).nox (defBody s_passes) t (b_passes S_moved_by) := by
  have hu := hu64 hr
  obtain ⟨f0, fd0, ds0, dvs0, F0, m0, kp0, b0, v0, r0⟩ := c0.ex
  exact ⟨_, (pdss_cons (pds_asg (pd_tup (pda_cons (pd_tup (pda_cons pd_int (pda_cons (pd_tup pda_nil) pda_nil))) (pda_cons pd_int pda_nil))) (kdg_tup (K := K) rfl rfl (pdgs_cons (pdg_name (pg_name (i := 3) sc_passes.nd rfl (Or.inl rfl))) (pdgs_cons (pdg_name (pg_name (i := 4) sc_passes.nd rfl (Or.inl rfl))) pdgs_nil))))
    (pdss_cons (pds_while PassesOwn.never (pdt_cmp oop_lt s2_lt (pd_ix (kix (K := K) rfl) s2_ix (pd_var (pv 3)) pd_int (fun _ _ => rfl)) (pd_callB (kc_len (K := K) rfl) ks_len (by rfl) T.n_len (by decide +kernel) (pda_cons (pd_var (pv 2)) pda_nil)) (nomark _))
    (pdss_cons (pds_augAdd (i := 4) sc_passes.nd rfl (Or.inl rfl) pd_int)
    (pdss_one (pds_for PassesOwn.never rfl (kdi_any (K := K) rfl (pd_var (pv 2))) (pdg_name (pg_name (i := 5) sc_passes.nd rfl (Or.inl rfl)))
    (pdss_one (pds_set (i := 3) sc_passes.nd rfl (Or.inl rfl) (pd_ix (kix (K := K) rfl) s2_ix (kd_call rfl F0 (hr.mono (by first | decide | exact Nat.le_refl _ | omega)) (by rfl) m0 kp0 b0 v0 r0 (pda_cons (pd_var (pv 0)) (pda_cons (pd_var (pv 1)) (pda_cons (pd_var (pv 3)) (pda_cons (pd_var (pv 5)) pda_nil))))) pd_int (fun _ _ => rfl))))))))
    (pdss_one (pds_ret (pd_var (pv 4))))))⟩
theorem ok_passes {S_moved_by : DSp} {S : DSp} (T : Txt K mg) (c0 : Callee P w K mg base 2 "moved_by" ["order", "width", "state", "number"] S_moved_by []) {f : Addr} {fd : FuncData} {dvs0 : List V} (F : FunD K "passes" "passes" (defArgs s_passes) (defBody s_passes) (defScope s_passes) dvs0 [] f fd)
    (len : ∀ ds M Q, S ds M Q → ds.length = 3) (sem : ∀ ds M Q, S ds M Q → (b_passes S_moved_by) { nx := fun _ M => Q .non M, rt := Q } (startD N_passes ds) M) : FnOk P w K mg base CX0 3 f fd ["order", "width", "row"] (spD K S) :=
  fn_d F sc_passes len (fun cdv A outer s H E hr => w_passes T c0 cdv A outer s H E hr) sem
theorem okg_passes {S_moved_by : DSp} {S : DSp} (T : Txt K mg) (c0 : Callee P w K mg base 2 "moved_by" ["order", "width", "state", "number"] S_moved_by []) {f : Addr} {fd : FuncData} {dvs0 : List V} (F : FunD K "passes" "passes" (defArgs s_passes) (defBody s_passes) (defScope s_passes) dvs0 [] f fd)
    (len : ∀ ds M Q, S ds M Q → ds.length = 3) (sem : ∀ ds M Q, S ds M Q → (b_passes S_moved_by) { nx := fun _ M => gcQ Q .non M, rt := gcQ Q } (startD N_passes ds) M) : FnOk P w K mg base CX0 3 f fd ["order", "width", "row"] (spD K S) :=
  fn_g F sc_passes len (fun cdv A outer s H E hr => w_passes T c0 cdv A outer s H E hr) sem
/-- _law_heap -/
def b_law_heap : TDS :=
  (dSeq (dPar [2, 3] (dCons (dLc (diAny (dSl (dVar 0) dNoPart (dPart (dC (.int 60))))) (dgName 1) dYes (dOp addD (dOp mulD (dC (.int 2)) (dCB absD (dCons (dVar 1) dNil))) (dCB intD (dCons (dOp ltD (dVar 1) (dC (.int 0))) dNil))) [1]) (dCons (dC (.int 61553)) dNil)))
    (dSeq (dFor (diAny (dVar 2)) (dgName 1)
    (dAsg (dOp modD (dCB intD (dCons (dOp addD (dOp addD (dOp mulD (dVar 3) (dC (.int 16807))) (dOp modD (dCB intD (dCons (dVar 1) dNil)) (dC (.int 2147483563)))) (dC (.int 47))) dNil)) (dC (.int 2147483647))) (dgName 3)))
    (dRet (dLstM (dCons (dRevM (dLc (diAny (dVar 2)) (dgName 1) (dTest (dOp geD (dVar 1) (dOp powD (dC (.int 10)) (dC (.int 18))))) (dVar 1) [1])) (dCons (dVar 3) dNil))))))
noncomputable def w1_law_heap_33 : FS :=
  (fPar [2, 3] (fMX (fLc (fiAny (fSl (fVarV 0) fNoPart (fPart (fC (.int 60))))) (fgName 1) fYes (fOp fo_add (fOp fo_mul (fC (.int 2)) (fCB fo_abs (fCons (fVarV 1) fNil))) (fCB fo_int (fCons (fOp fo_lt (fVarV 1) (fC (.int 0))) fNil))) [1]) (fMX (fC (.int 61553)) fMNil)))
noncomputable def w1_law_heap_34 : FS :=
  (fFor (fiAny (fVarW 2)) (fgName 1)
    (fAsg (fOp fo_mod (fCB fo_int (fCons (fOp fo_add (fOp fo_add (fOp fo_mul (fVarV 3) (fC (.int 16807))) (fOp fo_mod (fCB fo_int (fCons (fVarV 1) fNil)) (fC (.int 2147483563)))) (fC (.int 47))) fNil)) (fC (.int 2147483647))) (fgName 3)))
theorem w_law_heap (T : Txt K mg)  {f : Addr} (cdv : Value) (A : Around) (outer : List Env) (s : Shared) (H : Hp) (E : XK) (hr : Room 0 (A.deeper (envOfC "_law_heap" (defScope s_law_heap) s.heap.objs.size f cdv))) :
    ∃ t, PDSs (cxOf CX0 P w K mg base N_law_heap "_law_heap" (defScope s_law_heap) f cdv A outer s H E).nox (defBody s_law_heap) t (b_law_heap) := by
  have hu := hu64 hr
  exact ⟨_, (pdss_cons (pds_par' (i := 2) (j := 3) rfl sc_law_heap.nd rfl rfl (by decide) rfl rfl (pda_cons (pd_lc rfl sc_law_heap.nd (kdi_any (K := K) rfl (kd_slice (K := K) rfl (pd_var (pv 0)) pdo_none (pdo_some pd_int))) (blkOk_by (N := N_law_heap) (sc := defScope s_law_heap) (own := [("cell", 1)]) (by decide +kernel)) rfl (fun _ _ _ _ _ => (pdg_name (pg_name (i := 1) sc_law_heap.nd rfl (by first | exact Or.inl rfl | exact Or.inr rfl)))) (wr_name (by decide)) (fun _ _ _ _ _ => pdts_nil) (fun _ _ _ _ _ => (pd_op (ko_add (K := K) rfl) s2_add (pd_op oop_mul s2_mul pd_int (pd_callB call_abs sc_abs (by rfl) T.n_abs (by decide +kernel) (pda_cons (pd_var (pv 1)) pda_nil))) (pd_callTy call_int1 sc_int (by rfl) T.n_int (by decide +kernel) (pda_cons (pd_cmp oop_lt s2_lt (pd_var (pv 1)) pd_int (nomark _)) pda_nil))))) (pda_cons pd_int pda_nil)) (by rfl))
    (pdss_cons (pds_for PassesOwn.never rfl (kdi_any (K := K) rfl (pd_var (pv 2))) (pdg_name (pg_name (i := 1) sc_law_heap.nd rfl (Or.inl rfl)))
    (pdss_one (pds_set (i := 3) sc_law_heap.nd rfl (Or.inl rfl) (pd_op op_mod s2_mod (pd_callTy call_int1 sc_int (by rfl) T.n_int (by decide +kernel) (pda_cons (pd_op (ko_add (K := K) rfl) s2_add (pd_op (ko_add (K := K) rfl) s2_add (pd_op oop_mul s2_mul (pd_var (pv 3)) pd_int) (pd_op op_mod s2_mod (pd_callTy call_int1 sc_int (by rfl) T.n_int (by decide +kernel) (pda_cons (pd_var (pv 1)) pda_nil)) pd_int)) pd_int) pda_nil)) pd_int))))
    (pdss_one (pds_ret (pd_lstM (pda_cons (kd_revM (K := K) rfl (pd_lc rfl sc_law_heap.nd (kdi_any (K := K) rfl (pd_var (pv 2))) (blkOk_by (N := N_law_heap) (sc := defScope s_law_heap) (own := [("cell", 1)]) (by decide +kernel)) rfl (fun _ _ _ _ _ => (pdg_name (pg_name (i := 1) sc_law_heap.nd rfl (by first | exact Or.inl rfl | exact Or.inr rfl)))) (wr_name (by decide)) (fun _ _ _ _ _ => (pdts_one (pdt_cmp oop_ge s2_ge (pd_var (pv 1)) (pd_op op_pow s2_pow pd_int pd_int) (nomark _)))) (fun _ _ _ _ _ => (pd_var (pv 1))))) (pda_cons (pd_var (pv 3)) pda_nil)))))))⟩
theorem ok_law_heap {S : DSp} (T : Txt K mg)  {f : Addr} {fd : FuncData} {dvs0 : List V} (F : FunD K "_law_heap" "_law_heap" (defArgs s_law_heap) (defBody s_law_heap) (defScope s_law_heap) dvs0 [] f fd)
    (len : ∀ ds M Q, S ds M Q → ds.length = 1) (sem : ∀ ds M Q, S ds M Q → (b_law_heap) { nx := fun _ M => Q .non M, rt := Q } (startD N_law_heap ds) M) : FnOk P w K mg base CX0 1 f fd ["script"] (spD K S) :=
  fn_d F sc_law_heap len (fun cdv A outer s H E hr => w_law_heap T cdv A outer s H E hr) sem
theorem okg_law_heap {S : DSp} (T : Txt K mg)  {f : Addr} {fd : FuncData} {dvs0 : List V} (F : FunD K "_law_heap" "_law_heap" (defArgs s_law_heap) (defBody s_law_heap) (defScope s_law_heap) dvs0 [] f fd)
    (len : ∀ ds M Q, S ds M Q → ds.length = 1) (sem : ∀ ds M Q, S ds M Q → (b_law_heap) { nx := fun _ M => gcQ Q .non M, rt := gcQ Q } (startD N_law_heap ds) M) : FnOk P w K mg base CX0 1 f fd ["script"] (spD K S) :=
  fn_g F sc_law_heap len (fun cdv A outer s H E hr => w_law_heap T cdv A outer s H E hr) sem
/-- _law_draw -/
def b_law_draw : TDS :=
  (dSeq (dWhile (dAnd (dTest (dOp neD (dOp ixD (dVar 0) (dC (.int 0))) (dLst dNil))) (dTest (dOp eqD (dOp ixD (dOp ixD (dVar 0) (dC (.int 0))) (dUn negD (dC (.int 1)))) (dC (.int 0)))))
    (dDrop (dBM0 popD (dOp ixD (dVar 0) (dC (.int 0))))))
    (dSeq (dIfS (dTest (dOp neD (dOp ixD (dVar 0) (dC (.int 0))) (dLst dNil)))
    (dSeq (dAsg (dBM0 popD (dOp ixD (dVar 0) (dC (.int 0)))) (dgName 2))
    (dSeq (dDrop (dBM appD (dOp ixD (dVar 0) (dC (.int 0))) (dCons (dOp fdivD (dVar 2) (dVar 1)) dNil)))
    (dRet (dOp modD (dCB intD (dCons (dVar 2) dNil)) (dVar 1)))))
    dNext)
    (dSeq (dAsg (dOp modD (dCB intD (dCons (dOp addD (dOp mulD (dOp ixD (dVar 0) (dC (.int 1))) (dC (.int 48271))) (dC (.int 41))) dNil)) (dC (.int 2147483647))) (dgSub (dVar 0) (dC (.int 1))))
    (dRet (dOp modD (dCB intD (dCons (dOp fdivD (dOp ixD (dVar 0) (dC (.int 1))) (dC (.int 32))) dNil)) (dVar 1))))))
noncomputable def w1_law_draw_43 : FS :=
  (fRet (fOp fo_mod (fCB fo_int (fCons (fVarV 2) fNil)) (fVarV 1)))
noncomputable def ws_law_draw_44 : FS :=
  (fSeq (fPutL 0 (fC (.int 1)) (fOp fo_mod (fCB fo_int (fCons (fOp fo_add (fOp fo_mul (fOp fo_ix (fVarV 0) (fC (.int 1))) (fC (.int 48271))) (fC (.int 41))) fNil)) (fC (.int 2147483647))))
    (fRet (fOp fo_mod (fCB fo_int (fCons (fOp fo_fdiv (fOp fo_ix (fVarV 0) (fC (.int 1))) (fC (.int 32))) fNil)) (fVarV 1))))
noncomputable def w1_law_draw_44 : FS :=
  (fPutL 0 (fC (.int 1)) (fOp fo_mod (fCB fo_int (fCons (fOp fo_add (fOp fo_mul (fOp fo_ix (fVarV 0) (fC (.int 1))) (fC (.int 48271))) (fC (.int 41))) fNil)) (fC (.int 2147483647))))
noncomputable def w1_law_draw_45 : FS :=
  (fRet (fOp fo_mod (fCB fo_int (fCons (fOp fo_fdiv (fOp fo_ix (fVarV 0) (fC (.int 1))) (fC (.int 32))) fNil)) (fVarV 1)))
theorem w_law_draw (T : Txt K mg)  {f : Addr} (cdv : Value) (A : Around) (outer : List Env) (s : Shared) (H : Hp) (E : XK) (hr : Room 0 (A.deeper (envOfC "_law_draw" (defScope s_law_draw) s.heap.objs.size f cdv))) :
    ∃ t, PDSs (cxOf CX0 P w K mg base N_law_draw "_law_draw" (defScope s_law_draw) f cdv A outer s H E).nox (defBody s_law_draw) t (b_law_draw) := by
  have hu := hu64 hr
  exact ⟨_, (pdss_cons (pds_while PassesOwn.never (PDW.pt (pdw_and (pdt_cmp (ko_ne (K := K) rfl hu) s2_ne (pd_ix (kix (K := K) rfl) s2_ix (pd_var (pv 0)) pd_int (fun _ _ => rfl)) (pd_lst pda_nil) (nomark _)) (pdw_and1 (pdt_cmp (ko_eq (K := K) rfl hu) s2_eq (pd_ix (kix (K := K) rfl) s2_ix (pd_ix (kix (K := K) rfl) s2_ix (pd_var (pv 0)) pd_int (fun _ _ => rfl)) (pd_un un_neg s1_neg pd_int) (fun _ _ => rfl)) pd_int (nomark _)))))
    (pdss_one (pds_expr (kd_pop (K := K) rfl (pd_ix (kix (K := K) rfl) s2_ix (pd_var (pv 0)) pd_int (fun _ _ => rfl))))))
    (pdss_cons (pds_if (pdt_cmp (ko_ne (K := K) rfl hu) s2_ne (pd_ix (kix (K := K) rfl) s2_ix (pd_var (pv 0)) pd_int (fun _ _ => rfl)) (pd_lst pda_nil) (nomark _))
    (pdss_cons (pds_set (i := 2) sc_law_draw.nd rfl (Or.inl rfl) (kd_pop (K := K) rfl (pd_ix (kix (K := K) rfl) s2_ix (pd_var (pv 0)) pd_int (fun _ _ => rfl))))
    (pdss_cons (pds_expr (kd_app (K := K) rfl (pd_ix (kix (K := K) rfl) s2_ix (pd_var (pv 0)) pd_int (fun _ _ => rfl)) (pda_cons (pd_op op_fdiv s2_fdiv (pd_var (pv 2)) (pd_var (pv 1))) pda_nil)))
    (pdss_one (pds_ret (pd_op op_mod s2_mod (pd_callTy call_int1 sc_int (by rfl) T.n_int (by decide +kernel) (pda_cons (pd_var (pv 2)) pda_nil)) (pd_var (pv 1)))))))
    pdss_nil)
    (pdss_cons (pds_asg (pd_op op_mod s2_mod (pd_callTy call_int1 sc_int (by rfl) T.n_int (by decide +kernel) (pda_cons (pd_op (ko_add (K := K) rfl) s2_add (pd_op oop_mul s2_mul (pd_ix (kix (K := K) rfl) s2_ix (pd_var (pv 0)) pd_int (fun _ _ => rfl)) pd_int) pd_int) pda_nil)) pd_int) (pdg_sub (pd_var (pv 0)) pd_int))
    (pdss_one (pds_ret (pd_op op_mod s2_mod (pd_callTy call_int1 sc_int (by rfl) T.n_int (by decide +kernel) (pda_cons (pd_op op_fdiv s2_fdiv (pd_ix (kix (K := K) rfl) s2_ix (pd_var (pv 0)) pd_int (fun _ _ => rfl)) pd_int) pda_nil)) (pd_var (pv 1))))))))⟩
theorem ok_law_draw {S : DSp} (T : Txt K mg)  {f : Addr} {fd : FuncData} {dvs0 : List V} (F : FunD K "_law_draw" "_law_draw" (defArgs s_law_draw) (defBody s_law_draw) (defScope s_law_draw) dvs0 [] f fd)
    (len : ∀ ds M Q, S ds M Q → ds.length = 2) (sem : ∀ ds M Q, S ds M Q → (b_law_draw) { nx := fun _ M => Q .non M, rt := Q } (startD N_law_draw ds) M) : FnOk P w K mg base CX0 1 f fd ["heap", "many"] (spD K S) :=
  fn_d F sc_law_draw len (fun cdv A outer s H E hr => w_law_draw T cdv A outer s H E hr) sem
theorem okg_law_draw {S : DSp} (T : Txt K mg)  {f : Addr} {fd : FuncData} {dvs0 : List V} (F : FunD K "_law_draw" "_law_draw" (defArgs s_law_draw) (defBody s_law_draw) (defScope s_law_draw) dvs0 [] f fd)
    (len : ∀ ds M Q, S ds M Q → ds.length = 2) (sem : ∀ ds M Q, S ds M Q → (b_law_draw) { nx := fun _ M => gcQ Q .non M, rt := gcQ Q } (startD N_law_draw ds) M) : FnOk P w K mg base CX0 1 f fd ["heap", "many"] (spD K S) :=
  fn_g F sc_law_draw len (fun cdv A outer s H E hr => w_law_draw T cdv A outer s H E hr) sem
/-- _law_pick -/
def b_law_pick (S_law_draw : DSp) : TDS :=
  (dRet (dOp ixD (dVar 1) (dCall S_law_draw [] (dCons (dVar 0) (dCons (dCB lenD (dCons (dVar 1) dNil)) dNil)))))
theorem w_law_pick {S_law_draw : DSp} (T : Txt K mg) (c0 : Callee P w K mg base 1 "_law_draw" ["heap", "many"] S_law_draw []) {f : Addr} (cdv : Value) (A : Around) (outer : List Env) (s : Shared) (H : Hp) (E : XK) (hr : Room 1 (A.deeper (envOfC "_law_pick" (defScope s_law_pick) s.heap.objs.size f cdv))) :
    ∃ t, PDSs (cxOf CX0 P w K mg base N_law_pick "_law_pick" (defScope s_law_pick) f cdv A outer s H E).nox (defBody s_law_pick) t (b_law_pick S_law_draw) := by
  have hu := hu64 hr
  obtain ⟨f0, fd0, ds0, dvs0, F0, m0, kp0, b0, v0, r0⟩ := c0.ex
  exact ⟨_, (pdss_one (pds_ret (pd_ix (kix (K := K) rfl) s2_ix (pd_var (pv 1)) (kd_call rfl F0 (hr.mono (by first | decide | exact Nat.le_refl _ | omega)) (by rfl) m0 kp0 b0 v0 r0 (pda_cons (pd_var (pv 0)) (pda_cons (pd_callB (kc_len (K := K) rfl) ks_len (by rfl) T.n_len (by decide +kernel) (pda_cons (pd_var (pv 1)) pda_nil)) pda_nil))) (fun _ _ => rfl))))⟩
theorem ok_law_pick {S_law_draw : DSp} {S : DSp} (T : Txt K mg) (c0 : Callee P w K mg base 1 "_law_draw" ["heap", "many"] S_law_draw []) {f : Addr} {fd : FuncData} {dvs0 : List V} (F : FunD K "_law_pick" "_law_pick" (defArgs s_law_pick) (defBody s_law_pick) (defScope s_law_pick) dvs0 [] f fd)
    (len : ∀ ds M Q, S ds M Q → ds.length = 2) (sem : ∀ ds M Q, S ds M Q → (b_law_pick S_law_draw) { nx := fun _ M => Q .non M, rt := Q } (startD N_law_pick ds) M) : FnOk P w K mg base CX0 2 f fd ["heap", "some"] (spD K S) :=
  fn_d F sc_law_pick len (fun cdv A outer s H E hr => w_law_pick T c0 cdv A outer s H E hr) sem
theorem okg_law_pick {S_law_draw : DSp} {S : DSp} (T : Txt K mg) (c0 : Callee P w K mg base 1 "_law_draw" ["heap", "many"] S_law_draw []) {f : Addr} {fd : FuncData} {dvs0 : List V} (F : FunD K "_law_pick" "_law_pick" (defArgs s_law_pick) (defBody s_law_pick) (defScope s_law_pick) dvs0 [] f fd)
    (len : ∀ ds M Q, S ds M Q → ds.length = 2) (sem : ∀ ds M Q, S ds M Q → (b_law_pick S_law_draw) { nx := fun _ M => gcQ Q .non M, rt := gcQ Q } (startD N_law_pick ds) M) : FnOk P w K mg base CX0 2 f fd ["heap", "some"] (spD K S) :=
  fn_g F sc_law_pick len (fun cdv A outer s H E hr => w_law_pick T c0 cdv A outer s H E hr) sem
/-- _law_shuffled -/
def b_law_shuffled (S_law_draw : DSp) : TDS :=
  (dSeq (dPar [2, 3] (dCons (dCB listMD (dCons (dVar 1) dNil)) (dCons (dLstM dNil) dNil)))
    (dSeq (dWhile (dTest (dOp neD (dVar 2) (dLst dNil)))
    (dDrop (dBM appD (dVar 3) (dCons (dBM popAtD (dVar 2) (dCons (dCall S_law_draw [] (dCons (dVar 0) (dCons (dCB lenD (dCons (dVar 2) dNil)) dNil))) dNil)) dNil))))
    (dRet (dVar 3))))
noncomputable def w1_law_shuffled_49 : FS :=
  (fPar [2, 3] (fMO (fListM (fCons (fVarV 1) fNil)) (fMO (fLstM fNil) fMNil)))
noncomputable def w1_law_shuffled_52 : FS :=
  (fRetVar 3)
theorem w_law_shuffled {S_law_draw : DSp} (T : Txt K mg) (c0 : Callee P w K mg base 1 "_law_draw" ["heap", "many"] S_law_draw []) {f : Addr} (cdv : Value) (A : Around) (outer : List Env) (s : Shared) (H : Hp) (E : XK) (hr : Room 1 (A.deeper (envOfC "_law_shuffled" (defScope s_law_shuffled) s.heap.objs.size f cdv))) :
    ∃ t, PDSs (cxOf CX0 P w K mg base N_law_shuffled "_law_shuffled" (defScope s_law_shuffled) f cdv A outer s H E).nox (defBody s_law_shuffled) t (b_law_shuffled S_law_draw) := by
  have hu := hu64 hr
  obtain ⟨f0, fd0, ds0, dvs0, F0, m0, kp0, b0, v0, r0⟩ := c0.ex
  exact ⟨_, (pdss_cons (pds_par' (i := 2) (j := 3) rfl sc_law_shuffled.nd rfl rfl (by decide) rfl rfl (pda_cons (pd_callTy (kc_list (K := K) rfl) ks_listM (by rfl) T.n_list (by decide +kernel) (pda_cons (pd_var (pv 1)) pda_nil)) (pda_cons (pd_lstM pda_nil) pda_nil)) (by rfl))
    (pdss_cons (pds_while PassesOwn.never (pdt_cmp (ko_ne (K := K) rfl hu) s2_ne (pd_var (pv 2)) (pd_lst pda_nil) (nomark _))
    (pdss_one (pds_expr (kd_app (K := K) rfl (pd_var (pv 3)) (pda_cons (kd_popAt (K := K) rfl (pd_var (pv 2)) (pda_cons (kd_call rfl F0 (hr.mono (by first | decide | exact Nat.le_refl _ | omega)) (by rfl) m0 kp0 b0 v0 r0 (pda_cons (pd_var (pv 0)) (pda_cons (pd_callB (kc_len (K := K) rfl) ks_len (by rfl) T.n_len (by decide +kernel) (pda_cons (pd_var (pv 2)) pda_nil)) pda_nil))) pda_nil)) pda_nil)))))
    (pdss_one (pds_ret (pd_var (pv 3))))))⟩
theorem ok_law_shuffled {S_law_draw : DSp} {S : DSp} (T : Txt K mg) (c0 : Callee P w K mg base 1 "_law_draw" ["heap", "many"] S_law_draw []) {f : Addr} {fd : FuncData} {dvs0 : List V} (F : FunD K "_law_shuffled" "_law_shuffled" (defArgs s_law_shuffled) (defBody s_law_shuffled) (defScope s_law_shuffled) dvs0 [] f fd)
    (len : ∀ ds M Q, S ds M Q → ds.length = 2) (sem : ∀ ds M Q, S ds M Q → (b_law_shuffled S_law_draw) { nx := fun _ M => Q .non M, rt := Q } (startD N_law_shuffled ds) M) : FnOk P w K mg base CX0 2 f fd ["heap", "some"] (spD K S) :=
  fn_d F sc_law_shuffled len (fun cdv A outer s H E hr => w_law_shuffled T c0 cdv A outer s H E hr) sem
theorem okg_law_shuffled {S_law_draw : DSp} {S : DSp} (T : Txt K mg) (c0 : Callee P w K mg base 1 "_law_draw" ["heap", "many"] S_law_draw []) {f : Addr} {fd : FuncData} {dvs0 : List V} (F : FunD K "_law_shuffled" "_law_shuffled" (defArgs s_law_shuffled) (defBody s_law_shuffled) (defScope s_law_shuffled) dvs0 [] f fd)
    (len : ∀ ds M Q, S ds M Q → ds.length = 2) (sem : ∀ ds M Q, S ds M Q → (b_law_shuffled S_law_draw) { nx := fun _ M => gcQ Q .non M, rt := gcQ Q } (startD N_law_shuffled ds) M) : FnOk P w K mg base CX0 2 f fd ["heap", "some"] (spD K S) :=
  fn_g F sc_law_shuffled len (fun cdv A outer s H E hr => w_law_shuffled T c0 cdv A outer s H E hr) sem
/-- _law_same -/
def b_law_same (S_law_same : DSp) : TDS :=
  (dSeq (dIfS (dTest (dCB isiD (dCons (dVar 1) (dCons (dC (.ty "tuple")) dNil))))
    (dSeq (dIfS (dOr (dNot (dTest (dCB isiD (dCons (dVar 0) (dCons (dC (.ty "tuple")) dNil))))) (dTest (dOp neD (dCB lenD (dCons (dVar 0) dNil)) (dCB lenD (dCons (dVar 1) dNil)))))
    (dRet (dC (.bl false)))
    dNext)
    (dRet (dOp eqD (dLc (diZip (dCons (dVar 0) (dCons (dVar 1) dNil))) (dgTup 2 (dgCons (dgName 2) (dgCons (dgName 3) dgNil))) (dNot (dTest (dCall S_law_same [] (dCons (dVar 2) (dCons (dVar 3) dNil))))) (dC (.int 0)) [2, 3]) (dLst dNil))))
    dNext)
    (dSeq (dIfS (dOr (dTest (dOp isD (dVar 1) (dC .non))) (dTest (dCB isiD (dCons (dVar 1) (dCons (dC (.ty "bool")) dNil)))))
    (dRet (dIf (dTest (dOp isD (dVar 1) (dC .non))) (dOp isD (dVar 0) (dC .non)) (dIf (dTest (dVar 1)) (dOp isD (dVar 0) (dC (.bl true))) (dOp isD (dVar 0) (dC (.bl false))))))
    dNext)
    (dSeq (dIfS (dTest (dCB isiD (dCons (dVar 1) (dCons (dC (.ty "int")) dNil))))
    (dRet (dAndV (dCB isiD (dCons (dVar 0) (dCons (dC (.ty "int")) dNil))) (dAndV (dNotV (dCB isiD (dCons (dVar 0) (dCons (dC (.ty "bool")) dNil)))) (dOp eqD (dVar 0) (dVar 1)))))
    dNext)
    (dRet (dAndV (dCB isiD (dCons (dVar 0) (dCons (dC (.ty "str")) dNil))) (dOp eqD (dVar 0) (dVar 1)))))))
noncomputable def f_law_same (F_law_same : List D → Option D) : FS :=
  (fSeq (fIfS (fTest (fCB fo_isi (fCons (fVarV 1) (fCons (fC (.ty "tuple")) fNil))))
    (fSeq (fIfS (fOr (fNot (fTest (fCB fo_isi (fCons (fVarV 0) (fCons (fC (.ty "tuple")) fNil))))) (fTest (fOp fo_ne (fCB fo_len (fCons (fVarV 0) fNil)) (fCB fo_len (fCons (fVarV 1) fNil)))))
    (fRet (fC (.bl false)))
    fNext)
    (fRet (fOp fo_eq (fLc (fiZip (fCons (fVarX 0) (fCons (fVarX 1) fNil))) (fgTup 2 (fgCons (fgName 2) (fgCons (fgName 3) fgNil))) (fNot (fTest (fCall F_law_same [] (fCons (fVarV 2) (fCons (fVarV 3) fNil))))) (fC (.int 0)) [2, 3]) (fLst fNil))))
    fNext)
    (fSeq (fIfS (fOr (fTest (fOp fo_is (fVarV 1) (fC .non))) (fTest (fCB fo_isi (fCons (fVarV 1) (fCons (fC (.ty "bool")) fNil)))))
    (fRet (fIf (fTest (fOp fo_is (fVarV 1) (fC .non))) (fOp fo_is (fVarV 0) (fC .non)) (fIf (fTest (fVarX 1)) (fOp fo_is (fVarV 0) (fC (.bl true))) (fOp fo_is (fVarV 0) (fC (.bl false))))))
    fNext)
    (fSeq (fIfS (fTest (fCB fo_isi (fCons (fVarV 1) (fCons (fC (.ty "int")) fNil))))
    (fRet (fAndV (fCB fo_isi (fCons (fVarV 0) (fCons (fC (.ty "int")) fNil))) (fAndV (fNotV (fCB fo_isi (fCons (fVarV 0) (fCons (fC (.ty "bool")) fNil)))) (fOp fo_eq (fVarV 0) (fVarV 1)))))
    fNext)
    (fRet (fAndV (fCB fo_isi (fCons (fVarV 0) (fCons (fC (.ty "str")) fNil))) (fOp fo_eq (fVarV 0) (fVarV 1)))))))
theorem pu_law_same {F_law_same : List D → Option D} : PuS (b_law_same (pureSp F_law_same)) (f_law_same F_law_same) := by unfold b_law_same f_law_same; infer_instance
theorem w_law_same {S_law_same : DSp} (T : Txt K mg) {rl : Nat} (hrl : 0 ≤ rl) (c0 : Callee P w K mg base rl "_law_same" ["value", "due"] S_law_same []) {f : Addr} (cdv : Value) (A : Around) (outer : List Env) (s : Shared) (H : Hp) (E : XK) (hr : Room rl (A.deeper (envOfC "_law_same" (defScope s_law_same) s.heap.objs.size f cdv))) :
    ∃ t, PDSs (cxOf CX0 P w K mg base N_law_same "_law_same" (defScope s_law_same) f cdv A outer s H E).nox (defBody s_law_same) t (b_law_same S_law_same) := by
  have hu := hu64 hr
  obtain ⟨f0, fd0, ds0, dvs0, F0, m0, kp0, b0, v0, r0⟩ := c0.ex
  exact ⟨_, (pdss_cons (pds_if (pdt_val (pd_callB (kc_isi (K := K) rfl) sc_isi (by rfl) T.n_isinstance (by decide +kernel) (pda_cons (pd_var (pv 1)) (pda_cons (pd_ty (by rfl) T.n_tuple (by decide +kernel)) pda_nil))))
    (pdss_cons (pds_if (PDW.pt (pdw_or (pdt_not (pdt_val (pd_callB (kc_isi (K := K) rfl) sc_isi (by rfl) T.n_isinstance (by decide +kernel) (pda_cons (pd_var (pv 0)) (pda_cons (pd_ty (by rfl) T.n_tuple (by decide +kernel)) pda_nil))))) (pdw_or1 (pdt_cmp (ko_ne (K := K) rfl hu) s2_ne (pd_callB (kc_len (K := K) rfl) ks_len (by rfl) T.n_len (by decide +kernel) (pda_cons (pd_var (pv 0)) pda_nil)) (pd_callB (kc_len (K := K) rfl) ks_len (by rfl) T.n_len (by decide +kernel) (pda_cons (pd_var (pv 1)) pda_nil)) (nomark _)))))
    (pdss_one (pds_ret pd_bl))
    pdss_nil)
    (pdss_one (pds_ret (pd_cmp (ko_eq (K := K) rfl hu) s2_eq (pd_lc rfl sc_law_same.nd (kdi_zip (K := K) rfl (by rfl) T.n_zip (pda_cons (pd_var (pv 0)) (pda_cons (pd_var (pv 1)) pda_nil))) (blkOk_by (N := N_law_same) (sc := defScope s_law_same) (own := [("one", 2), ("other", 3)]) (by decide +kernel)) rfl (fun _ _ _ _ _ => (kdg_tup (K := K) rfl rfl (pdgs_cons (pdg_name (pg_name (i := 2) sc_law_same.nd rfl (by first | exact Or.inl rfl | exact Or.inr rfl))) (pdgs_cons (pdg_name (pg_name (i := 3) sc_law_same.nd rfl (by first | exact Or.inl rfl | exact Or.inr rfl))) pdgs_nil)))) (wr_tup (wrs_name (by decide) (wrs_name (by decide) wrs_nil))) (fun _ _ _ _ _ => (pdts_one (pdt_not (pdt_val (kd_call rfl F0 (hr.mono (by first | decide | exact Nat.le_refl _ | omega)) (by rfl) m0 kp0 b0 v0 r0 (pda_cons (pd_var (pv 2)) (pda_cons (pd_var (pv 3)) pda_nil))))))) (fun _ _ _ _ _ => pd_int)) (pd_lst pda_nil) (nomark _)))))
    pdss_nil)
    (pdss_cons (pds_if (PDW.pt (pdw_or (pdt_cmp oop_is s2_is (pd_var (pv 1)) pd_non (nomark _)) (pdw_or1 (pdt_val (pd_callB (kc_isi (K := K) rfl) sc_isi (by rfl) T.n_isinstance (by decide +kernel) (pda_cons (pd_var (pv 1)) (pda_cons (pd_ty (by rfl) T.n_bool (by decide +kernel)) pda_nil)))))))
    (pdss_one (pds_ret (pd_ifExp (pdt_cmp oop_is s2_is (pd_var (pv 1)) pd_non (nomark _)) (pd_cmp oop_is s2_is (pd_var (pv 0)) pd_non (nomark _)) (pd_ifExp (pdt_val (pd_var (pv 1))) (pd_cmp oop_is s2_is (pd_var (pv 0)) pd_bl (nomark _)) (pd_cmp oop_is s2_is (pd_var (pv 0)) pd_bl (nomark _))))))
    pdss_nil)
    (pdss_cons (pds_if (pdt_val (pd_callB (kc_isi (K := K) rfl) sc_isi (by rfl) T.n_isinstance (by decide +kernel) (pda_cons (pd_var (pv 1)) (pda_cons (pd_ty (by rfl) T.n_int (by decide +kernel)) pda_nil))))
    (pdss_one (pds_ret (pd_and (pd_callB (kc_isi (K := K) rfl) sc_isi (by rfl) T.n_isinstance (by decide +kernel) (pda_cons (pd_var (pv 0)) (pda_cons (pd_ty (by rfl) T.n_int (by decide +kernel)) pda_nil))) (pd_and (pd_not (pd_callB (kc_isi (K := K) rfl) sc_isi (by rfl) T.n_isinstance (by decide +kernel) (pda_cons (pd_var (pv 0)) (pda_cons (pd_ty (by rfl) T.n_bool (by decide +kernel)) pda_nil)))) (pd_one (pd_cmp (ko_eq (K := K) rfl hu) s2_eq (pd_var (pv 0)) (pd_var (pv 1)) (nomark _)))))))
    pdss_nil)
    (pdss_one (pds_ret (pd_and (pd_callB (kc_isi (K := K) rfl) sc_isi (by rfl) T.n_isinstance (by decide +kernel) (pda_cons (pd_var (pv 0)) (pda_cons (pd_ty (by rfl) T.n_str (by decide +kernel)) pda_nil))) (pd_one (pd_cmp (ko_eq (K := K) rfl hu) s2_eq (pd_var (pv 0)) (pd_var (pv 1)) (nomark _)))))))))⟩
theorem ok_law_same {S_law_same : DSp} {S : DSp} (T : Txt K mg) {rl : Nat} (hrl : 0 ≤ rl) (c0 : Callee P w K mg base rl "_law_same" ["value", "due"] S_law_same []) {f : Addr} {fd : FuncData} {dvs0 : List V} (F : FunD K "_law_same" "_law_same" (defArgs s_law_same) (defBody s_law_same) (defScope s_law_same) dvs0 [] f fd)
    (len : ∀ ds M Q, S ds M Q → ds.length = 2) (sem : ∀ ds M Q, S ds M Q → (b_law_same S_law_same) { nx := fun _ M => Q .non M, rt := Q } (startD N_law_same ds) M) : FnOk P w K mg base CX0 (rl + 1) f fd ["value", "due"] (spD K S) :=
  fn_d F sc_law_same len (fun cdv A outer s H E hr => w_law_same T hrl c0 cdv A outer s H E hr) sem
theorem okg_law_same {S_law_same : DSp} {S : DSp} (T : Txt K mg) {rl : Nat} (hrl : 0 ≤ rl) (c0 : Callee P w K mg base rl "_law_same" ["value", "due"] S_law_same []) {f : Addr} {fd : FuncData} {dvs0 : List V} (F : FunD K "_law_same" "_law_same" (defArgs s_law_same) (defBody s_law_same) (defScope s_law_same) dvs0 [] f fd)
    (len : ∀ ds M Q, S ds M Q → ds.length = 2) (sem : ∀ ds M Q, S ds M Q → (b_law_same S_law_same) { nx := fun _ M => gcQ Q .non M, rt := gcQ Q } (startD N_law_same ds) M) : FnOk P w K mg base CX0 (rl + 1) f fd ["value", "due"] (spD K S) :=
  fn_g F sc_law_same len (fun cdv A outer s H E hr => w_law_same T hrl c0 cdv A outer s H E hr) sem
/-- _law_row_drawn -/
def b_law_row_drawn (S_law_draw : DSp) (S_law_shuffled : DSp) : TDS :=
  (dSeq (dPar [2, 3] (dCons (dLstRg1 (dVar 1)) (dCons (dCall S_law_draw [] (dCons (dVar 0) (dCons (dC (.int 5)) dNil))) dNil)))
    (dSeq (dIfS (dTest (dOp eqD (dVar 3) (dC (.int 0))))
    (dRet (dCall S_law_shuffled [] (dCons (dVar 0) (dCons (dVar 2) dNil))))
    dNext)
    (dSeq (dIfS (dTest (dOp eqD (dVar 3) (dC (.int 1))))
    (dRet (dRev (dVar 2)))
    dNext)
    (dSeq (dIfS (dAnd (dTest (dOp eqD (dVar 3) (dC (.int 2)))) (dTest (dOp gtD (dVar 1) (dC (.int 0)))))
    (dSeq (dAsg (dCall S_law_draw [] (dCons (dVar 0) (dCons (dVar 1) dNil))) (dgName 4))
    (dRet (dOp addD (dSl (dVar 2) (dPart (dVar 4)) dNoPart) (dSl (dVar 2) dNoPart (dPart (dVar 4))))))
    dNext)
    (dSeq (dFor (diRng1 (dCons (dCall S_law_draw [] (dCons (dVar 0) (dCons (dOp addD (dOp mulD (dC (.int 2)) (dVar 1)) (dC (.int 1))) dNil))) dNil)) (dgName 5)
    (dSeq (dAsg (dIf (dTest (dOp gtD (dVar 1) (dC (.int 1)))) (dCall S_law_draw [] (dCons (dVar 0) (dCons (dOp subD (dVar 1) (dC (.int 1))) dNil))) (dC (.int 0))) (dgName 4))
    (dIfS (dTest (dOp ltD (dOp addD (dVar 4) (dC (.int 1))) (dVar 1)))
    (dAsg (dOp addD (dOp addD (dSl (dVar 2) dNoPart (dPart (dVar 4))) (dLst (dCons (dOp ixD (dVar 2) (dOp addD (dVar 4) (dC (.int 1)))) (dCons (dOp ixD (dVar 2) (dVar 4)) dNil)))) (dSl (dVar 2) (dPart (dOp addD (dVar 4) (dC (.int 2)))) dNoPart)) (dgName 2))
    dNext)))
    (dRet (dVar 2)))))))
noncomputable def w1_law_row_drawn_67 : FS :=
  (fIfS (fTest (fOp fo_eq (fVarV 3) (fC (.int 1))))
    (fRet (fRev (fVarV 2)))
    fNext)
noncomputable def w1_law_row_drawn_71 : FS :=
  (fRet (fOp fo_add (fSl (fVarV 2) (fPart (fVarV 4)) fNoPart) (fSl (fVarV 2) fNoPart (fPart (fVarV 4)))))
noncomputable def w1_law_row_drawn_74 : FS :=
  (fIfS (fTest (fOp fo_lt (fOp fo_add (fVarV 4) (fC (.int 1))) (fVarV 1)))
    (fAsg (fOp fo_add (fOp fo_add (fSl (fVarV 2) fNoPart (fPart (fVarV 4))) (fLst (fCons (fOp fo_ix (fVarV 2) (fOp fo_add (fVarV 4) (fC (.int 1)))) (fCons (fOp fo_ix (fVarV 2) (fVarV 4)) fNil)))) (fSl (fVarV 2) (fPart (fOp fo_add (fVarV 4) (fC (.int 2)))) fNoPart)) (fgName 2))
    fNext)
noncomputable def w1_law_row_drawn_76 : FS :=
  (fRetVar 2)
theorem w_law_row_drawn {S_law_draw : DSp} {S_law_shuffled : DSp} (T : Txt K mg) (c0 : Callee P w K mg base 1 "_law_draw" ["heap", "many"] S_law_draw []) (c1 : Callee P w K mg base 2 "_law_shuffled" ["heap", "some"] S_law_shuffled []) {f : Addr} (cdv : Value) (A : Around) (outer : List Env) (s : Shared) (H : Hp) (E : XK) (hr : Room 2 (A.deeper (envOfC "_law_row_drawn" (defScope s_law_row_drawn) s.heap.objs.size f cdv))) :
    ∃ t, PDSs (cxOf CX0 P w K mg base N_law_row_drawn "_law_row_drawn" (defScope s_law_row_drawn) f cdv A outer s H E).nox (defBody s_law_row_drawn) t (b_law_row_drawn S_law_draw S_law_shuffled) := by
  have hu := hu64 hr
  obtain ⟨f0, fd0, ds0, dvs0, F0, m0, kp0, b0, v0, r0⟩ := c0.ex
  obtain ⟨f1, fd1, ds1, dvs1, F1, m1, kp1, b1, v1, r1⟩ := c1.ex
  exact ⟨_, (pdss_cons (pds_par' (i := 2) (j := 3) rfl sc_law_row_drawn.nd rfl rfl (by decide) rfl rfl (pda_cons (pd_lstRg1 T.n_list T.n_range (pd_var (pv 1))) (pda_cons (kd_call rfl F0 (hr.mono (by first | decide | exact Nat.le_refl _ | omega)) (by rfl) m0 kp0 b0 v0 r0 (pda_cons (pd_var (pv 0)) (pda_cons pd_int pda_nil))) pda_nil)) (by rfl))
    (pdss_cons (pds_if (pdt_cmp (ko_eq (K := K) rfl hu) s2_eq (pd_var (pv 3)) pd_int (nomark _))
    (pdss_one (pds_ret (kd_call rfl F1 (hr.mono (by first | decide | exact Nat.le_refl _ | omega)) (by rfl) m1 kp1 b1 v1 r1 (pda_cons (pd_var (pv 0)) (pda_cons (pd_var (pv 2)) pda_nil)))))
    pdss_nil)
    (pdss_cons (pds_if (pdt_cmp (ko_eq (K := K) rfl hu) s2_eq (pd_var (pv 3)) pd_int (nomark _))
    (pdss_one (pds_ret (kd_rev (K := K) rfl (pd_var (pv 2)))))
    pdss_nil)
    (pdss_cons (pds_if (PDW.pt (pdw_and (pdt_cmp (ko_eq (K := K) rfl hu) s2_eq (pd_var (pv 3)) pd_int (nomark _)) (pdw_and1 (pdt_cmp oop_gt s2_gt (pd_var (pv 1)) pd_int (nomark _)))))
    (pdss_cons (pds_set (i := 4) sc_law_row_drawn.nd rfl (Or.inl rfl) (kd_call rfl F0 (hr.mono (by first | decide | exact Nat.le_refl _ | omega)) (by rfl) m0 kp0 b0 v0 r0 (pda_cons (pd_var (pv 0)) (pda_cons (pd_var (pv 1)) pda_nil))))
    (pdss_one (pds_ret (pd_op (ko_add (K := K) rfl) s2_add (kd_slice (K := K) rfl (pd_var (pv 2)) (pdo_some (pd_var (pv 4))) pdo_none) (kd_slice (K := K) rfl (pd_var (pv 2)) pdo_none (pdo_some (pd_var (pv 4))))))))
    pdss_nil)
    (pdss_cons (pds_for PassesOwn.never rfl (pdi_rng1 (by rfl) T.n_range (pda_cons (kd_call rfl F0 (hr.mono (by first | decide | exact Nat.le_refl _ | omega)) (by rfl) m0 kp0 b0 v0 r0 (pda_cons (pd_var (pv 0)) (pda_cons (pd_op (ko_add (K := K) rfl) s2_add (pd_op oop_mul s2_mul pd_int (pd_var (pv 1))) pd_int) pda_nil))) pda_nil)) (pdg_name (pg_name (i := 5) sc_law_row_drawn.nd rfl (Or.inl rfl)))
    (pdss_cons (pds_set (i := 4) sc_law_row_drawn.nd rfl (Or.inl rfl) (pd_ifExp (pdt_cmp oop_gt s2_gt (pd_var (pv 1)) pd_int (nomark _)) (kd_call rfl F0 (hr.mono (by first | decide | exact Nat.le_refl _ | omega)) (by rfl) m0 kp0 b0 v0 r0 (pda_cons (pd_var (pv 0)) (pda_cons (pd_op op_sub s2_sub (pd_var (pv 1)) pd_int) pda_nil))) pd_int))
    (pdss_one (pds_if (pdt_cmp oop_lt s2_lt (pd_op (ko_add (K := K) rfl) s2_add (pd_var (pv 4)) pd_int) (pd_var (pv 1)) (nomark _))
    (pdss_one (pds_set (i := 2) sc_law_row_drawn.nd rfl (Or.inl rfl) (pd_op (ko_add (K := K) rfl) s2_add (pd_op (ko_add (K := K) rfl) s2_add (kd_slice (K := K) rfl (pd_var (pv 2)) pdo_none (pdo_some (pd_var (pv 4)))) (pd_lst (pda_cons (pd_ix (kix (K := K) rfl) s2_ix (pd_var (pv 2)) (pd_op (ko_add (K := K) rfl) s2_add (pd_var (pv 4)) pd_int) (fun _ _ => rfl)) (pda_cons (pd_ix (kix (K := K) rfl) s2_ix (pd_var (pv 2)) (pd_var (pv 4)) (fun _ _ => rfl)) pda_nil)))) (kd_slice (K := K) rfl (pd_var (pv 2)) (pdo_some (pd_op (ko_add (K := K) rfl) s2_add (pd_var (pv 4)) pd_int)) pdo_none))))
    pdss_nil))))
    (pdss_one (pds_ret (pd_var (pv 2)))))))))⟩
theorem ok_law_row_drawn {S_law_draw : DSp} {S_law_shuffled : DSp} {S : DSp} (T : Txt K mg) (c0 : Callee P w K mg base 1 "_law_draw" ["heap", "many"] S_law_draw []) (c1 : Callee P w K mg base 2 "_law_shuffled" ["heap", "some"] S_law_shuffled []) {f : Addr} {fd : FuncData} {dvs0 : List V} (F : FunD K "_law_row_drawn" "_law_row_drawn" (defArgs s_law_row_drawn) (defBody s_law_row_drawn) (defScope s_law_row_drawn) dvs0 [] f fd)
    (len : ∀ ds M Q, S ds M Q → ds.length = 2) (sem : ∀ ds M Q, S ds M Q → (b_law_row_drawn S_law_draw S_law_shuffled) { nx := fun _ M => Q .non M, rt := Q } (startD N_law_row_drawn ds) M) : FnOk P w K mg base CX0 3 f fd ["heap", "many"] (spD K S) :=
  fn_d F sc_law_row_drawn len (fun cdv A outer s H E hr => w_law_row_drawn T c0 c1 cdv A outer s H E hr) sem
theorem okg_law_row_drawn {S_law_draw : DSp} {S_law_shuffled : DSp} {S : DSp} (T : Txt K mg) (c0 : Callee P w K mg base 1 "_law_draw" ["heap", "many"] S_law_draw []) (c1 : Callee P w K mg base 2 "_law_shuffled" ["heap", "some"] S_law_shuffled []) {f : Addr} {fd : FuncData} {dvs0 : List V} (F : FunD K "_law_row_drawn" "_law_row_drawn" (defArgs s_law_row_drawn) (defBody s_law_row_drawn) (defScope s_law_row_drawn) dvs0 [] f fd)
    (len : ∀ ds M Q, S ds M Q → ds.length = 2) (sem : ∀ ds M Q, S ds M Q → (b_law_row_drawn S_law_draw S_law_shuffled) { nx := fun _ M => gcQ Q .non M, rt := gcQ Q } (startD N_law_row_drawn ds) M) : FnOk P w K mg base CX0 3 f fd ["heap", "many"] (spD K S) :=
  fn_g F sc_law_row_drawn len (fun cdv A outer s H E hr => w_law_row_drawn T c0 c1 cdv A outer s H E hr) sem
/-- _law_said -/
def b_law_said : TDS :=
  (dSeq (dAsg (dTup (dCons dDicNew (dCons dDicNew (dCons (dC (.int 0)) (dCons (dC (.int 0)) dNil))))) (dgTup 4 (dgCons (dgName 3) (dgCons (dgName 4) (dgCons (dgName 5) (dgCons (dgName 6) dgNil))))))
    (dSeq (dWhile (dTest (dOp ltD (dVar 5) (dCB lenD (dCons (dVar 2) dNil))))
    (dSeq (dAsg (dOp addD (dVar 6) (dC (.int 1))) (dgName 6))
    (dFor (diAny (dVar 2)) (dgName 7)
    (dSeq (dIfS (dOr (dTest (dInK (dVar 7) (dVar 3))) (dOr (dTest (dOp geD (dVar 7) (dOp addD (dVar 5) (dVar 1)))) (dAnd (dTest (dOp eqD (dVar 0) (dC (.str "next")))) (dTest (dOp neD (dVar 7) (dVar 5))))))
    dCont
    dNext)
    (dSeq (dIfS (dAnd (dTest (dOp eqD (dVar 0) (dC (.str "wait")))) (dTest (dOp neD (dVar 7) (dVar 5))))
    (dSeq (dPutK (dVar 4) (dVar 7) (dC (.bl true)))
    dCont)
    dNext)
    (dSeq (dPutK (dVar 3) (dVar 7) (dC (.bl true)))
    (dWhile (dOr (dTest (dInK (dVar 5) (dVar 3))) (dTest (dInK (dVar 5) (dVar 4))))
    (dSeq (dPutK (dVar 3) (dVar 5) (dC (.bl true)))
    (dAsg (dOp addD (dVar 5) (dC (.int 1))) (dgName 5))))))))))
    (dRet (dVar 6))))
noncomputable def f_law_said : FS :=
  (fSeq (fTupM 4 [3, 4, 5, 6] (fMO fDicNew (fMO fDicNew (fMX (fC (.int 0)) (fMX (fC (.int 0)) fMNil)))))
    (fSeq (fWhile (fTest (fOp fo_lt (fVarV 5) (fCB fo_len (fCons (fVarV 2) fNil))))
    (fSeq (fAsg (fOp fo_add (fVarV 6) (fC (.int 1))) (fgName 6))
    (fFor (fiAny (fVarW 2)) (fgName 7)
    (fSeq (fIfS (fOr (fTest (fInK (fVarV 7) 3)) (fOr (fTest (fOp fo_ge (fVarV 7) (fOp fo_add (fVarV 5) (fVarV 1)))) (fAnd (fTest (fOp fo_eq (fVarV 0) (fC (.str "next")))) (fTest (fOp fo_ne (fVarV 7) (fVarV 5))))))
    fCont
    fNext)
    (fSeq (fIfS (fAnd (fTest (fOp fo_eq (fVarV 0) (fC (.str "wait")))) (fTest (fOp fo_ne (fVarV 7) (fVarV 5))))
    (fSeq (fPutK 4 (fVarV 7) (fC (.bl true)))
    fCont)
    fNext)
    (fSeq (fPutK 3 (fVarV 7) (fC (.bl true)))
    (fWhile (fOr (fTest (fInK (fVarV 5) 3)) (fTest (fInK (fVarV 5) 4)))
    (fSeq (fPutK 3 (fVarV 5) (fC (.bl true)))
    (fAsg (fOp fo_add (fVarV 5) (fC (.int 1))) (fgName 5))))))))))
    (fRetVar 6)))
theorem pu_law_said : PuS (b_law_said) (f_law_said) := by unfold b_law_said f_law_said; infer_instance
theorem w_law_said (T : Txt K mg)  {f : Addr} (cdv : Value) (A : Around) (outer : List Env) (s : Shared) (H : Hp) (E : XK) (hr : Room 0 (A.deeper (envOfC "_law_said" (defScope s_law_said) s.heap.objs.size f cdv))) :
    ∃ t, PDSs (cxOf CX0 P w K mg base N_law_said "_law_said" (defScope s_law_said) f cdv A outer s H E).nox (defBody s_law_said) t (b_law_said) := by
  have hu := hu64 hr
  exact ⟨_, (pdss_cons (pds_asg (pd_tup (pda_cons kd_dicNew (pda_cons kd_dicNew (pda_cons pd_int (pda_cons pd_int pda_nil))))) (kdg_tup (K := K) rfl rfl (pdgs_cons (pdg_name (pg_name (i := 3) sc_law_said.nd rfl (Or.inl rfl))) (pdgs_cons (pdg_name (pg_name (i := 4) sc_law_said.nd rfl (Or.inl rfl))) (pdgs_cons (pdg_name (pg_name (i := 5) sc_law_said.nd rfl (Or.inl rfl))) (pdgs_cons (pdg_name (pg_name (i := 6) sc_law_said.nd rfl (Or.inl rfl))) pdgs_nil))))))
    (pdss_cons (pds_while PassesOwn.never (pdt_cmp oop_lt s2_lt (pd_var (pv 5)) (pd_callB (kc_len (K := K) rfl) ks_len (by rfl) T.n_len (by decide +kernel) (pda_cons (pd_var (pv 2)) pda_nil)) (nomark _))
    (pdss_cons (pds_set (i := 6) sc_law_said.nd rfl (Or.inl rfl) (pd_op (ko_add (K := K) rfl) s2_add (pd_var (pv 6)) pd_int))
    (pdss_one (pds_for PassesOwn.never rfl (kdi_any (K := K) rfl (pd_var (pv 2))) (pdg_name (pg_name (i := 7) sc_law_said.nd rfl (Or.inl rfl)))
    (pdss_cons (pds_if (PDW.pt (pdw_or (kdt_inK (K := K) rfl (hu1 hu) (pd_var (pv 7)) (pd_var (pv 3))) (pdw_or (pdt_cmp oop_ge s2_ge (pd_var (pv 7)) (pd_op (ko_add (K := K) rfl) s2_add (pd_var (pv 5)) (pd_var (pv 1))) (nomark _)) (pdw_or1 (PDW.pt (pdw_and (pdt_cmp (ko_eq (K := K) rfl hu) s2_eq (pd_var (pv 0)) pd_str (nomark _)) (pdw_and1 (pdt_cmp (ko_ne (K := K) rfl hu) s2_ne (pd_var (pv 7)) (pd_var (pv 5)) (nomark _)))))))))
    (pdss_one pds_continue)
    pdss_nil)
    (pdss_cons (pds_if (PDW.pt (pdw_and (pdt_cmp (ko_eq (K := K) rfl hu) s2_eq (pd_var (pv 0)) pd_str (nomark _)) (pdw_and1 (pdt_cmp (ko_ne (K := K) rfl hu) s2_ne (pd_var (pv 7)) (pd_var (pv 5)) (nomark _)))))
    (pdss_cons (kds_putK (K := K) rfl (hu1 hu) (pd_var (pv 4)) (pd_var (pv 7)) pd_bl)
    (pdss_one pds_continue))
    pdss_nil)
    (pdss_cons (kds_putK (K := K) rfl (hu1 hu) (pd_var (pv 3)) (pd_var (pv 7)) pd_bl)
    (pdss_one (pds_while PassesOwn.never (PDW.pt (pdw_or (kdt_inK (K := K) rfl (hu1 hu) (pd_var (pv 5)) (pd_var (pv 3))) (pdw_or1 (kdt_inK (K := K) rfl (hu1 hu) (pd_var (pv 5)) (pd_var (pv 4))))))
    (pdss_cons (kds_putK (K := K) rfl (hu1 hu) (pd_var (pv 3)) (pd_var (pv 5)) pd_bl)
    (pdss_one (pds_set (i := 5) sc_law_said.nd rfl (Or.inl rfl) (pd_op (ko_add (K := K) rfl) s2_add (pd_var (pv 5)) pd_int)))))))))))))
    (pdss_one (pds_ret (pd_var (pv 6))))))⟩
theorem ok_law_said {S : DSp} (T : Txt K mg)  {f : Addr} {fd : FuncData} {dvs0 : List V} (F : FunD K "_law_said" "_law_said" (defArgs s_law_said) (defBody s_law_said) (defScope s_law_said) dvs0 [] f fd)
    (len : ∀ ds M Q, S ds M Q → ds.length = 3) (sem : ∀ ds M Q, S ds M Q → (b_law_said) { nx := fun _ M => Q .non M, rt := Q } (startD N_law_said ds) M) : FnOk P w K mg base CX0 1 f fd ["order", "width", "row"] (spD K S) :=
  fn_d F sc_law_said len (fun cdv A outer s H E hr => w_law_said T cdv A outer s H E hr) sem
theorem okg_law_said {S : DSp} (T : Txt K mg)  {f : Addr} {fd : FuncData} {dvs0 : List V} (F : FunD K "_law_said" "_law_said" (defArgs s_law_said) (defBody s_law_said) (defScope s_law_said) dvs0 [] f fd)
    (len : ∀ ds M Q, S ds M Q → ds.length = 3) (sem : ∀ ds M Q, S ds M Q → (b_law_said) { nx := fun _ M => gcQ Q .non M, rt := gcQ Q } (startD N_law_said ds) M) : FnOk P w K mg base CX0 1 f fd ["order", "width", "row"] (spD K S) :=
  fn_g F sc_law_said len (fun cdv A outer s H E hr => w_law_said T cdv A outer s H E hr) sem
/-- _law_passes_right -/
def b_law_passes_right (S_passes : DSp) (S_law_same : DSp) (S_law_said : DSp) : TDS :=
  (dSeq (dAsg (dCallN S_passes [0, 1, 2] 0 (List.length (["order", "width", "row"] : List Str)) [] dNil (dCons (dVar 0) (dCons (dVar 1) (dCons (dCB tupleD (dCons (dVar 2) dNil)) dNil)))) (dgName 3))
    (dSeq (dIfS (dNot (dTest (dCall S_law_same [] (dCons (dVar 3) (dCons (dCall S_law_said [] (dCons (dVar 0) (dCons (dVar 1) (dCons (dVar 2) dNil)))) dNil)))))
    (dRet (dC (.bl false)))
    dNext)
    (dSeq (dAsg dDicNew (dgName 4))
    (dSeq (dFor (diEnum (dCons (dVar 2) dNil)) (dgTup 2 (dgCons (dgName 5) (dgCons (dgName 6) dgNil)))
    (dPutK (dVar 4) (dVar 6) (dVar 5)))
    (dSeq (dIfS (dAnd (dTest (dOp eqD (dVar 0) (dC (.str "next")))) (dTest (dOp neD (dVar 3) (dIf (dTest (dOp neD (dVar 2) (dLst dNil))) (dOp addD (dC (.int 1)) (dCB lenD (dCons (dLc (diAny (dVar 2)) (dgName 8) (dAnd (dTest (dInK (dOp addD (dVar 8) (dC (.int 1))) (dVar 4))) (dTest (dOp ltD (dGetK (dVar 4) (dOp addD (dVar 8) (dC (.int 1)))) (dGetK (dVar 4) (dVar 8))))) (dVar 8) [8]) dNil))) (dC (.int 0))))))
    (dRet (dC (.bl false)))
    dNext)
    (dSeq (dAsg (dLc (diAny (dVar 2)) (dgName 8) (dTest (dOp neD (dLc (diAny (dVar 2)) (dgName 9) (dAnd (dTest (dOp geD (dVar 9) (dOp addD (dVar 8) (dVar 1)))) (dTest (dOp ltD (dGetK (dVar 4) (dVar 9)) (dGetK (dVar 4) (dVar 8))))) (dVar 9) [9]) (dLst dNil))) (dVar 8) [8]) (dgName 7))
    (dSeq (dIfS (dOr (dTest (dOp eqD (dVar 2) (dLst dNil))) (dTest (dOp eqD (dVar 0) (dC (.str "next")))))
    (dRet (dOrV (dOp neD (dVar 2) (dLst dNil)) (dOp eqD (dVar 3) (dC (.int 0)))))
    dNext)
    (dRet (dOp eqD (dOp eqD (dVar 3) (dC (.int 1))) (dOp eqD (dVar 7) (dLst dNil)))))))))))
noncomputable def f_law_passes_right (F_passes : List D → Option D) (F_law_same : List D → Option D) (F_law_said : List D → Option D) : FS :=
  (fSeq (fAsg (fCallN F_passes [0, 1, 2] 0 (List.length (["order", "width", "row"] : List Str)) [] fNil (fCons (fVarV 0) (fCons (fVarV 1) (fCons (fCB fo_tuple (fCons (fVarV 2) fNil)) fNil)))) (fgName 3))
    (fSeq (fIfS (fNot (fTest (fCall F_law_same [] (fCons (fVarV 3) (fCons (fCall F_law_said [] (fCons (fVarV 0) (fCons (fVarV 1) (fCons (fVarV 2) fNil)))) fNil)))))
    (fRet (fC (.bl false)))
    fNext)
    (fSeq (fAsgO fDicNew 4)
    (fSeq (fFor (fiEnum (fVarW 2)) (fgTup 2 (fgCons (fgName 5) (fgCons (fgName 6) fgNil)))
    (fPutK 4 (fVarV 6) (fVarX 5)))
    (fSeq (fIfS (fAnd (fTest (fOp fo_eq (fVarV 0) (fC (.str "next")))) (fTest (fOp fo_ne (fVarV 3) (fIf (fTest (fOp fo_ne (fVarV 2) (fLst fNil))) (fOp fo_add (fC (.int 1)) (fCB fo_len (fCons (fLc (fiAny (fVarV 2)) (fgName 8) (fAnd (fTest (fInK (fOp fo_add (fVarV 8) (fC (.int 1))) 4)) (fTest (fOp fo_lt (fGetK 4 (fOp fo_add (fVarV 8) (fC (.int 1)))) (fGetK 4 (fVarV 8))))) (fVarX 8) [8]) fNil))) (fC (.int 0))))))
    (fRet (fC (.bl false)))
    fNext)
    (fSeq (fAsg (fLc (fiAny (fVarV 2)) (fgName 8) (fTest (fOp fo_ne (fLc (fiAny (fVarV 2)) (fgName 9) (fAnd (fTest (fOp fo_ge (fVarV 9) (fOp fo_add (fVarV 8) (fVarV 1)))) (fTest (fOp fo_lt (fGetK 4 (fVarV 9)) (fGetK 4 (fVarV 8))))) (fVarX 9) [9]) (fLst fNil))) (fVarX 8) [8]) (fgName 7))
    (fSeq (fIfS (fOr (fTest (fOp fo_eq (fVarV 2) (fLst fNil))) (fTest (fOp fo_eq (fVarV 0) (fC (.str "next")))))
    (fRet (fOrV (fOp fo_ne (fVarV 2) (fLst fNil)) (fOp fo_eq (fVarV 3) (fC (.int 0)))))
    fNext)
    (fRet (fOp fo_eq (fOp fo_eq (fVarV 3) (fC (.int 1))) (fOp fo_eq (fVarV 7) (fLst fNil)))))))))))
theorem pu_law_passes_right {F_passes : List D → Option D} {F_law_same : List D → Option D} {F_law_said : List D → Option D} : PuS (b_law_passes_right (pureSp F_passes) (pureSp F_law_same) (pureSp F_law_said)) (f_law_passes_right F_passes F_law_same F_law_said) := by unfold b_law_passes_right f_law_passes_right; infer_instance
theorem w_law_passes_right {S_passes : DSp} {S_law_same : DSp} {S_law_said : DSp} (T : Txt K mg) (c0 : CalleeN P w K mg base 3 "passes" ["order", "width", "row"] S_passes 0 ["order", "width", "row"] [0, 1, 2] []) (c1 : Callee P w K mg base 6 "_law_same" ["value", "due"] S_law_same []) (c2 : Callee P w K mg base 1 "_law_said" ["order", "width", "row"] S_law_said []) {f : Addr} (cdv : Value) (A : Around) (outer : List Env) (s : Shared) (H : Hp) (E : XK) (hr : Room 6 (A.deeper (envOfC "_law_passes_right" (defScope s_law_passes_right) s.heap.objs.size f cdv))) :
    ∃ t, PDSs (cxOf CX0 P w K mg base N_law_passes_right "_law_passes_right" (defScope s_law_passes_right) f cdv A outer s H E).nox (defBody s_law_passes_right) t (b_law_passes_right S_passes S_law_same S_law_said) := by
  have hu := hu64 hr
  obtain ⟨f0, fd0, its0, dvs0, F0, m0, kp0, b0, r0⟩ := c0.ex
  obtain ⟨f1, fd1, ds1, dvs1, F1, m1, kp1, b1, v1, r1⟩ := c1.ex
  obtain ⟨f2, fd2, ds2, dvs2, F2, m2, kp2, b2, v2, r2⟩ := c2.ex
  exact ⟨_, (pdss_cons (pds_set (i := 3) sc_law_passes_right.nd rfl (Or.inl rfl) (kd_callN0 rfl F0 (hr.mono (by first | decide | exact Nat.le_refl _ | omega)) (by rfl) m0 kp0 b0 r0 (pdk_cons (pd_var (pv 0)) (pdk_cons (pd_var (pv 1)) (pdk_cons (pd_callTy (kc_tuple (K := K) rfl) ks_tuple (by rfl) T.n_tuple (by decide +kernel) (pda_cons (pd_var (pv 2)) pda_nil)) pdk_nil)))))
    (pdss_cons (pds_if (pdt_not (pdt_val (kd_call rfl F1 (hr.mono (by first | decide | exact Nat.le_refl _ | omega)) (by rfl) m1 kp1 b1 v1 r1 (pda_cons (pd_var (pv 3)) (pda_cons (kd_call rfl F2 (hr.mono (by first | decide | exact Nat.le_refl _ | omega)) (by rfl) m2 kp2 b2 v2 r2 (pda_cons (pd_var (pv 0)) (pda_cons (pd_var (pv 1)) (pda_cons (pd_var (pv 2)) pda_nil)))) pda_nil)))))
    (pdss_one (pds_ret pd_bl))
    pdss_nil)
    (pdss_cons (pds_set (i := 4) sc_law_passes_right.nd rfl (Or.inr rfl) kd_dicNew)
    (pdss_cons (pds_for PassesOwn.never rfl (kdi_enum (K := K) rfl (by rfl) T.n_enumerate (pda_cons (pd_var (pv 2)) pda_nil)) (kdg_tup (K := K) rfl rfl (pdgs_cons (pdg_name (pg_name (i := 5) sc_law_passes_right.nd rfl (Or.inl rfl))) (pdgs_cons (pdg_name (pg_name (i := 6) sc_law_passes_right.nd rfl (Or.inl rfl))) pdgs_nil)))
    (pdss_one (kds_putK (K := K) rfl (hu1 hu) (pd_var (pv 4)) (pd_var (pv 6)) (pd_var (pv 5)))))
    (pdss_cons (pds_if (PDW.pt (pdw_and (pdt_cmp (ko_eq (K := K) rfl hu) s2_eq (pd_var (pv 0)) pd_str (nomark _)) (pdw_and1 (pdt_cmp (ko_ne (K := K) rfl hu) s2_ne (pd_var (pv 3)) (pd_ifExp (pdt_cmp (ko_ne (K := K) rfl hu) s2_ne (pd_var (pv 2)) (pd_lst pda_nil) (nomark _)) (pd_op (ko_add (K := K) rfl) s2_add pd_int (pd_callB (kc_len (K := K) rfl) ks_len (by rfl) T.n_len (by decide +kernel) (pda_cons (pd_lc rfl sc_law_passes_right.nd (kdi_any (K := K) rfl (pd_var (pv 2))) (blkOk_by (N := N_law_passes_right) (sc := defScope s_law_passes_right) (own := [("one", 8)]) (by decide +kernel)) rfl (fun _ _ _ _ _ => (pdg_name (pg_name (i := 8) sc_law_passes_right.nd rfl (by first | exact Or.inl rfl | exact Or.inr rfl)))) (wr_name (by decide)) (fun _ _ _ _ _ => (pdts_one (PDW.pt (pdw_and (kdt_inK (K := K) rfl (hu1 hu) (pd_op (ko_add (K := K) rfl) s2_add (pd_var (pv 8)) pd_int) (pd_var (pv 4))) (pdw_and1 (pdt_cmp oop_lt s2_lt (kd_getK (K := K) rfl (hu1 hu) (pd_var (pv 4)) (pd_op (ko_add (K := K) rfl) s2_add (pd_var (pv 8)) pd_int)) (kd_getK (K := K) rfl (hu1 hu) (pd_var (pv 4)) (pd_var (pv 8))) (nomark _))))))) (fun _ _ _ _ _ => (pd_var (pv 8)))) pda_nil))) pd_int) (nomark _)))))
    (pdss_one (pds_ret pd_bl))
    pdss_nil)
    (pdss_cons (pds_setLc (i := 7) rfl sc_law_passes_right.nd rfl rfl (sw_true rfl rfl rfl (by decide +kernel)) (kdi_any (K := K) rfl (pd_var (pv 2))) (blkOk_by (N := N_law_passes_right) (sc := defScope s_law_passes_right) (own := [("one", 8)]) (by decide +kernel)) rfl (fun _ _ _ _ _ => (pdg_name (pg_name (i := 8) sc_law_passes_right.nd rfl (by first | exact Or.inl rfl | exact Or.inr rfl)))) (wr_name (by decide)) (fun _ _ _ _ _ => (pdts_one (pdt_cmp (ko_ne (K := K) rfl hu) s2_ne (pd_lc rfl sc_law_passes_right.nd (kdi_any (K := K) rfl (pd_var (pv 2))) (blkOk_by (N := N_law_passes_right) (sc := (relS _ (defScope s_law_passes_right))) (own := [("other", 9)]) (by decide +kernel)) rfl (fun _ _ _ _ _ => (pdg_name (pg_name (i := 9) sc_law_passes_right.nd rfl (by first | exact Or.inl rfl | exact Or.inr rfl)))) (wr_name (by decide)) (fun _ _ _ _ _ => (pdts_one (PDW.pt (pdw_and (pdt_cmp oop_ge s2_ge (pd_var (pv 9)) (pd_op (ko_add (K := K) rfl) s2_add (pd_var (pv 8)) (pd_var (pv 1))) (nomark _)) (pdw_and1 (pdt_cmp oop_lt s2_lt (kd_getK (K := K) rfl (hu1 hu) (pd_var (pv 4)) (pd_var (pv 9))) (kd_getK (K := K) rfl (hu1 hu) (pd_var (pv 4)) (pd_var (pv 8))) (nomark _))))))) (fun _ _ _ _ _ => (pd_var (pv 9)))) (pd_lst pda_nil) (nomark _)))) (fun _ _ _ _ _ => (pd_var (pv 8))))
    (pdss_cons (pds_if (PDW.pt (pdw_or (pdt_cmp (ko_eq (K := K) rfl hu) s2_eq (pd_var (pv 2)) (pd_lst pda_nil) (nomark _)) (pdw_or1 (pdt_cmp (ko_eq (K := K) rfl hu) s2_eq (pd_var (pv 0)) pd_str (nomark _)))))
    (pdss_one (pds_ret (pd_or (pd_cmp (ko_ne (K := K) rfl hu) s2_ne (pd_var (pv 2)) (pd_lst pda_nil) (nomark _)) (pd_one (pd_cmp (ko_eq (K := K) rfl hu) s2_eq (pd_var (pv 3)) pd_int (nomark _))))))
    pdss_nil)
    (pdss_one (pds_ret (pd_cmp (ko_eq (K := K) rfl hu) s2_eq (pd_cmp (ko_eq (K := K) rfl hu) s2_eq (pd_var (pv 3)) pd_int (nomark _)) (pd_cmp (ko_eq (K := K) rfl hu) s2_eq (pd_var (pv 7)) (pd_lst pda_nil) (nomark _)) (nomark _)))))))))))⟩
theorem ok_law_passes_right {S_passes : DSp} {S_law_same : DSp} {S_law_said : DSp} {S : DSp} (T : Txt K mg) (c0 : CalleeN P w K mg base 3 "passes" ["order", "width", "row"] S_passes 0 ["order", "width", "row"] [0, 1, 2] []) (c1 : Callee P w K mg base 6 "_law_same" ["value", "due"] S_law_same []) (c2 : Callee P w K mg base 1 "_law_said" ["order", "width", "row"] S_law_said []) {f : Addr} {fd : FuncData} {dvs0 : List V} (F : FunD K "_law_passes_right" "_law_passes_right" (defArgs s_law_passes_right) (defBody s_law_passes_right) (defScope s_law_passes_right) dvs0 [] f fd)
    (len : ∀ ds M Q, S ds M Q → ds.length = 3) (sem : ∀ ds M Q, S ds M Q → (b_law_passes_right S_passes S_law_same S_law_said) { nx := fun _ M => Q .non M, rt := Q } (startD N_law_passes_right ds) M) : FnOk P w K mg base CX0 7 f fd ["order", "width", "row"] (spD K S) :=
  fn_d F sc_law_passes_right len (fun cdv A outer s H E hr => w_law_passes_right T c0 c1 c2 cdv A outer s H E hr) sem
theorem okg_law_passes_right {S_passes : DSp} {S_law_same : DSp} {S_law_said : DSp} {S : DSp} (T : Txt K mg) (c0 : CalleeN P w K mg base 3 "passes" ["order", "width", "row"] S_passes 0 ["order", "width", "row"] [0, 1, 2] []) (c1 : Callee P w K mg base 6 "_law_same" ["value", "due"] S_law_same []) (c2 : Callee P w K mg base 1 "_law_said" ["order", "width", "row"] S_law_said []) {f : Addr} {fd : FuncData} {dvs0 : List V} (F : FunD K "_law_passes_right" "_law_passes_right" (defArgs s_law_passes_right) (defBody s_law_passes_right) (defScope s_law_passes_right) dvs0 [] f fd)
    (len : ∀ ds M Q, S ds M Q → ds.length = 3) (sem : ∀ ds M Q, S ds M Q → (b_law_passes_right S_passes S_law_same S_law_said) { nx := fun _ M => gcQ Q .non M, rt := gcQ Q } (startD N_law_passes_right ds) M) : FnOk P w K mg base CX0 7 f fd ["order", "width", "row"] (spD K S) :=
  fn_g F sc_law_passes_right len (fun cdv A outer s H E hr => w_law_passes_right T c0 c1 c2 cdv A outer s H E hr) sem
/-- _law_all_rows -/
def b_law_all_rows : TDS :=
  (dSeq (dAsg (dLst (dCons (dLst dNil) dNil)) (dgName 1))
    (dSeq (dFor (diRng1 (dCons (dVar 0) dNil)) (dgName 2)
    (dSeq (dAsg (dLst dNil) (dgName 3))
    (dSeq (dFor (diAny (dVar 1)) (dgName 4)
    (dAsg (dOp addD (dVar 3) (dLc (diRng1 (dCons (dOp addD (dCB lenD (dCons (dVar 4) dNil)) (dC (.int 1))) dNil)) (dgName 5) dYes (dOp addD (dOp addD (dSl (dVar 4) dNoPart (dPart (dVar 5))) (dLst (dCons (dVar 2) dNil))) (dSl (dVar 4) (dPart (dVar 5)) dNoPart)) [5])) (dgName 3)))
    (dAsg (dVar 3) (dgName 1)))))
    (dRet (dVar 1))))
noncomputable def f_law_all_rows : FS :=
  (fSeq (fAsg (fLst (fCons (fLst fNil) fNil)) (fgName 1))
    (fSeq (fFor (fiRng1 (fCons (fVarV 0) fNil)) (fgName 2)
    (fSeq (fAsg (fLst fNil) (fgName 3))
    (fSeq (fFor (fiAny (fVarW 1)) (fgName 4)
    (fAsg (fOp fo_add (fVarV 3) (fLc (fiRng1 (fCons (fOp fo_add (fCB fo_len (fCons (fVarV 4) fNil)) (fC (.int 1))) fNil)) (fgName 5) fYes (fOp fo_add (fOp fo_add (fSl (fVarV 4) fNoPart (fPart (fVarV 5))) (fLst (fCons (fVarX 2) fNil))) (fSl (fVarV 4) (fPart (fVarV 5)) fNoPart)) [5])) (fgName 3)))
    (fAsg (fVarX 3) (fgName 1)))))
    (fRetVar 1)))
theorem pu_law_all_rows : PuS (b_law_all_rows) (f_law_all_rows) := by unfold b_law_all_rows f_law_all_rows; infer_instance
theorem w_law_all_rows (T : Txt K mg)  {f : Addr} (cdv : Value) (A : Around) (outer : List Env) (s : Shared) (H : Hp) (E : XK) (hr : Room 0 (A.deeper (envOfC "_law_all_rows" (defScope s_law_all_rows) s.heap.objs.size f cdv))) :
    ∃ t, PDSs (cxOf CX0 P w K mg base N_law_all_rows "_law_all_rows" (defScope s_law_all_rows) f cdv A outer s H E).nox (defBody s_law_all_rows) t (b_law_all_rows) := by
  have hu := hu64 hr
  exact ⟨_, (pdss_cons (pds_set (i := 1) sc_law_all_rows.nd rfl (Or.inl rfl) (pd_lst (pda_cons (pd_lst pda_nil) pda_nil)))
    (pdss_cons (pds_for PassesOwn.never rfl (pdi_rng1 (by rfl) T.n_range (pda_cons (pd_var (pv 0)) pda_nil)) (pdg_name (pg_name (i := 2) sc_law_all_rows.nd rfl (Or.inr rfl)))
    (pdss_cons (pds_set (i := 3) sc_law_all_rows.nd rfl (Or.inl rfl) (pd_lst pda_nil))
    (pdss_cons (pds_for PassesOwn.never rfl (kdi_any (K := K) rfl (pd_var (pv 1))) (pdg_name (pg_name (i := 4) sc_law_all_rows.nd rfl (Or.inr rfl)))
    (pdss_one (pds_set (i := 3) sc_law_all_rows.nd rfl (Or.inl rfl) (pd_op (ko_add (K := K) rfl) s2_add (pd_var (pv 3)) (pd_lc rfl sc_law_all_rows.nd (pdi_rng1 (by rfl) T.n_range (pda_cons (pd_op (ko_add (K := K) rfl) s2_add (pd_callB (kc_len (K := K) rfl) ks_len (by rfl) T.n_len (by decide +kernel) (pda_cons (pd_var (pv 4)) pda_nil)) pd_int) pda_nil)) (blkOk_by (N := N_law_all_rows) (sc := defScope s_law_all_rows) (own := [("at", 5)]) (by decide +kernel)) rfl (fun _ _ _ _ _ => (pdg_name (pg_name (i := 5) sc_law_all_rows.nd rfl (by first | exact Or.inl rfl | exact Or.inr rfl)))) (wr_name (by decide)) (fun _ _ _ _ _ => pdts_nil) (fun _ _ _ _ _ => (pd_op (ko_add (K := K) rfl) s2_add (pd_op (ko_add (K := K) rfl) s2_add (kd_slice (K := K) rfl (pd_var (pv 4)) pdo_none (pdo_some (pd_var (pv 5)))) (pd_lst (pda_cons (pd_var (pv 2)) pda_nil))) (kd_slice (K := K) rfl (pd_var (pv 4)) (pdo_some (pd_var (pv 5))) pdo_none))))))))
    (pdss_one (pds_set (i := 1) sc_law_all_rows.nd rfl (Or.inl rfl) (pd_var (pv 3)))))))
    (pdss_one (pds_ret (pd_var (pv 1))))))⟩
theorem ok_law_all_rows {S : DSp} (T : Txt K mg)  {f : Addr} {fd : FuncData} {dvs0 : List V} (F : FunD K "_law_all_rows" "_law_all_rows" (defArgs s_law_all_rows) (defBody s_law_all_rows) (defScope s_law_all_rows) dvs0 [] f fd)
    (len : ∀ ds M Q, S ds M Q → ds.length = 1) (sem : ∀ ds M Q, S ds M Q → (b_law_all_rows) { nx := fun _ M => Q .non M, rt := Q } (startD N_law_all_rows ds) M) : FnOk P w K mg base CX0 1 f fd ["many"] (spD K S) :=
  fn_d F sc_law_all_rows len (fun cdv A outer s H E hr => w_law_all_rows T cdv A outer s H E hr) sem
theorem okg_law_all_rows {S : DSp} (T : Txt K mg)  {f : Addr} {fd : FuncData} {dvs0 : List V} (F : FunD K "_law_all_rows" "_law_all_rows" (defArgs s_law_all_rows) (defBody s_law_all_rows) (defScope s_law_all_rows) dvs0 [] f fd)
    (len : ∀ ds M Q, S ds M Q → ds.length = 1) (sem : ∀ ds M Q, S ds M Q → (b_law_all_rows) { nx := fun _ M => gcQ Q .non M, rt := gcQ Q } (startD N_law_all_rows ds) M) : FnOk P w K mg base CX0 1 f fd ["many"] (spD K S) :=
  fn_g F sc_law_all_rows len (fun cdv A outer s H E hr => w_law_all_rows T cdv A outer s H E hr) sem
/-- law -/
def b_law (S_law_heap : DSp) (S_law_all_rows : DSp) (S_law_draw : DSp) (S_law_passes_right : DSp) (S_law_pick : DSp) (S_law_row_drawn : DSp) (S_passes : DSp) (S_law_same : DSp) : TDS :=
  (dSeq (dAsg (dCall S_law_heap [] (dCons (dVar 0) dNil)) (dgName 1))
    (dSeq (dFor (diAny (dCall S_law_all_rows [] (dCons (dCall S_law_draw [] (dCons (dVar 1) (dCons (dC (.int 4)) dNil))) dNil))) (dgName 2)
    (dIfS (dNot (dTest (dCall S_law_passes_right [] (dCons (dCall S_law_pick [] (dCons (dVar 1) (dCons (dLst (dCons (dC (.str "any")) (dCons (dC (.str "next")) (dCons (dC (.str "wait")) dNil)))) dNil))) (dCons (dOp addD (dC (.int 1)) (dCall S_law_draw [] (dCons (dVar 1) (dCons (dC (.int 3)) dNil)))) (dCons (dVar 2) dNil))))))
    (dRet (dC (.bl false)))
    dNext))
    (dSeq (dAsg (dOp ixD (dCall S_law_all_rows [] (dCons (dC (.int 4)) dNil)) (dCall S_law_draw [] (dCons (dVar 1) (dCons (dC (.int 24)) dNil)))) (dgName 2))
    (dSeq (dFor (diAny (dLst (dCons (dC (.str "any")) (dCons (dC (.str "next")) (dCons (dC (.str "wait")) dNil))))) (dgName 3)
    (dIfS (dNot (dTest (dCall S_law_passes_right [] (dCons (dVar 3) (dCons (dOp addD (dC (.int 1)) (dCall S_law_draw [] (dCons (dVar 1) (dCons (dC (.int 4)) dNil)))) (dCons (dVar 2) dNil))))))
    (dRet (dC (.bl false)))
    dNext))
    (dSeq (dFor (diRng1 (dCons (dC (.int 3)) dNil)) (dgName 4)
    (dSeq (dAsg (dCall S_law_row_drawn [] (dCons (dVar 1) (dCons (dCall S_law_pick [] (dCons (dVar 1) (dCons (dLst (dCons (dC (.int 1)) (dCons (dC (.int 6)) (dCons (dC (.int 10)) (dCons (dC (.int 20)) (dCons (dC (.int 30)) dNil)))))) dNil))) dNil))) (dgName 2))
    (dSeq (dPar [3, 5] (dCons (dCall S_law_pick [] (dCons (dVar 1) (dCons (dLst (dCons (dC (.str "any")) (dCons (dC (.str "next")) (dCons (dC (.str "wait")) dNil)))) dNil))) (dCons (dOp addD (dC (.int 1)) (dCall S_law_draw [] (dCons (dVar 1) (dCons (dC (.int 6)) dNil)))) dNil)))
    (dSeq (dIfS (dNot (dTest (dCall S_law_passes_right [] (dCons (dVar 3) (dCons (dVar 5) (dCons (dVar 2) dNil))))))
    (dRet (dC (.bl false)))
    dNext)
    (dSeq (dIfS (dNot (dTest (dChain leD leD (dCall S_passes [] (dCons (dC (.str "any")) (dCons (dC (.int 6)) (dCons (dCB tupleD (dCons (dVar 2) dNil)) dNil)))) (dCall S_passes [] (dCons (dC (.str "any")) (dCons (dVar 5) (dCons (dCB tupleD (dCons (dVar 2) dNil)) dNil)))) (dCall S_passes [] (dCons (dC (.str "next")) (dCons (dC (.int 1)) (dCons (dCB tupleD (dCons (dVar 2) dNil)) dNil)))))))
    (dRet (dC (.bl false)))
    dNext)
    (dIfS (dNot (dTest (dCall S_law_same [] (dCons (dCall S_passes [] (dCons (dC (.str "wait")) (dCons (dVar 5) (dCons (dCB tupleD (dCons (dVar 2) dNil)) dNil)))) (dCons (dCall S_passes [] (dCons (dC (.str "any")) (dCons (dVar 5) (dCons (dCB tupleD (dCons (dVar 2) dNil)) dNil)))) dNil)))))
    (dRet (dC (.bl false)))
    dNext))))))
    (dRet (dC (.bl true))))))))
noncomputable def w1_law_117 : FS :=
  (fRet (fC (.bl false)))
noncomputable def w1_law_121 : FS :=
  (fRet (fC (.bl false)))
noncomputable def ws_law_125 (F_law_passes_right : List D → Option D) (F_passes : List D → Option D) (F_law_same : List D → Option D) : FS :=
  (fSeq (fIfS (fNot (fTest (fCall F_law_passes_right [] (fCons (fVarV 3) (fCons (fVarV 5) (fCons (fVarV 2) fNil))))))
    (fRet (fC (.bl false)))
    fNext)
    (fSeq (fIfS (fNot (fTest (fChain fo_le fo_le (fCall F_passes [] (fCons (fC (.str "any")) (fCons (fC (.int 6)) (fCons (fCB fo_tuple (fCons (fVarV 2) fNil)) fNil)))) (fCall F_passes [] (fCons (fC (.str "any")) (fCons (fVarV 5) (fCons (fCB fo_tuple (fCons (fVarV 2) fNil)) fNil)))) (fCall F_passes [] (fCons (fC (.str "next")) (fCons (fC (.int 1)) (fCons (fCB fo_tuple (fCons (fVarV 2) fNil)) fNil)))))))
    (fRet (fC (.bl false)))
    fNext)
    (fIfS (fNot (fTest (fCall F_law_same [] (fCons (fCall F_passes [] (fCons (fC (.str "wait")) (fCons (fVarV 5) (fCons (fCB fo_tuple (fCons (fVarV 2) fNil)) fNil)))) (fCons (fCall F_passes [] (fCons (fC (.str "any")) (fCons (fVarV 5) (fCons (fCB fo_tuple (fCons (fVarV 2) fNil)) fNil)))) fNil)))))
    (fRet (fC (.bl false)))
    fNext)))
noncomputable def w1_law_125 (F_law_passes_right : List D → Option D) : FS :=
  (fIfS (fNot (fTest (fCall F_law_passes_right [] (fCons (fVarV 3) (fCons (fVarV 5) (fCons (fVarV 2) fNil))))))
    (fRet (fC (.bl false)))
    fNext)
noncomputable def ws_law_127 (F_passes : List D → Option D) (F_law_same : List D → Option D) : FS :=
  (fSeq (fIfS (fNot (fTest (fChain fo_le fo_le (fCall F_passes [] (fCons (fC (.str "any")) (fCons (fC (.int 6)) (fCons (fCB fo_tuple (fCons (fVarV 2) fNil)) fNil)))) (fCall F_passes [] (fCons (fC (.str "any")) (fCons (fVarV 5) (fCons (fCB fo_tuple (fCons (fVarV 2) fNil)) fNil)))) (fCall F_passes [] (fCons (fC (.str "next")) (fCons (fC (.int 1)) (fCons (fCB fo_tuple (fCons (fVarV 2) fNil)) fNil)))))))
    (fRet (fC (.bl false)))
    fNext)
    (fIfS (fNot (fTest (fCall F_law_same [] (fCons (fCall F_passes [] (fCons (fC (.str "wait")) (fCons (fVarV 5) (fCons (fCB fo_tuple (fCons (fVarV 2) fNil)) fNil)))) (fCons (fCall F_passes [] (fCons (fC (.str "any")) (fCons (fVarV 5) (fCons (fCB fo_tuple (fCons (fVarV 2) fNil)) fNil)))) fNil)))))
    (fRet (fC (.bl false)))
    fNext))
noncomputable def w1_law_127 (F_passes : List D → Option D) : FS :=
  (fIfS (fNot (fTest (fChain fo_le fo_le (fCall F_passes [] (fCons (fC (.str "any")) (fCons (fC (.int 6)) (fCons (fCB fo_tuple (fCons (fVarV 2) fNil)) fNil)))) (fCall F_passes [] (fCons (fC (.str "any")) (fCons (fVarV 5) (fCons (fCB fo_tuple (fCons (fVarV 2) fNil)) fNil)))) (fCall F_passes [] (fCons (fC (.str "next")) (fCons (fC (.int 1)) (fCons (fCB fo_tuple (fCons (fVarV 2) fNil)) fNil)))))))
    (fRet (fC (.bl false)))
    fNext)
noncomputable def w1_law_129 (F_law_same : List D → Option D) (F_passes : List D → Option D) : FS :=
  (fIfS (fNot (fTest (fCall F_law_same [] (fCons (fCall F_passes [] (fCons (fC (.str "wait")) (fCons (fVarV 5) (fCons (fCB fo_tuple (fCons (fVarV 2) fNil)) fNil)))) (fCons (fCall F_passes [] (fCons (fC (.str "any")) (fCons (fVarV 5) (fCons (fCB fo_tuple (fCons (fVarV 2) fNil)) fNil)))) fNil)))))
    (fRet (fC (.bl false)))
    fNext)
noncomputable def w1_law_131 : FS :=
  (fRet (fC (.bl true)))
theorem w_law {S_law_heap : DSp} {S_law_all_rows : DSp} {S_law_draw : DSp} {S_law_passes_right : DSp} {S_law_pick : DSp} {S_law_row_drawn : DSp} {S_passes : DSp} {S_law_same : DSp} (T : Txt K mg) (c0 : Callee P w K mg base 1 "_law_heap" ["script"] S_law_heap []) (c1 : Callee P w K mg base 1 "_law_all_rows" ["many"] S_law_all_rows []) (c2 : Callee P w K mg base 1 "_law_draw" ["heap", "many"] S_law_draw []) (c3 : Callee P w K mg base 7 "_law_passes_right" ["order", "width", "row"] S_law_passes_right []) (c4 : Callee P w K mg base 2 "_law_pick" ["heap", "some"] S_law_pick []) (c5 : Callee P w K mg base 3 "_law_row_drawn" ["heap", "many"] S_law_row_drawn []) (c6 : Callee P w K mg base 3 "passes" ["order", "width", "row"] S_passes []) (c7 : Callee P w K mg base 6 "_law_same" ["value", "due"] S_law_same []) {f : Addr} (cdv : Value) (A : Around) (outer : List Env) (s : Shared) (H : Hp) (E : XK) (hr : Room 7 (A.deeper (envOfC "law" (defScope s_law) s.heap.objs.size f cdv))) :
    ∃ t, PDSs (cxOf CX0 P w K mg base N_law "law" (defScope s_law) f cdv A outer s H E).nox (defBody s_law) t (b_law S_law_heap S_law_all_rows S_law_draw S_law_passes_right S_law_pick S_law_row_drawn S_passes S_law_same) := by
  have hu := hu64 hr
  obtain ⟨f0, fd0, ds0, dvs0, F0, m0, kp0, b0, v0, r0⟩ := c0.ex
  obtain ⟨f1, fd1, ds1, dvs1, F1, m1, kp1, b1, v1, r1⟩ := c1.ex
  obtain ⟨f2, fd2, ds2, dvs2, F2, m2, kp2, b2, v2, r2⟩ := c2.ex
  obtain ⟨f3, fd3, ds3, dvs3, F3, m3, kp3, b3, v3, r3⟩ := c3.ex
  obtain ⟨f4, fd4, ds4, dvs4, F4, m4, kp4, b4, v4, r4⟩ := c4.ex
  obtain ⟨f5, fd5, ds5, dvs5, F5, m5, kp5, b5, v5, r5⟩ := c5.ex
  obtain ⟨f6, fd6, ds6, dvs6, F6, m6, kp6, b6, v6, r6⟩ := c6.ex
  obtain ⟨f7, fd7, ds7, dvs7, F7, m7, kp7, b7, v7, r7⟩ := c7.ex
  exact ⟨_, (pdss_cons (pds_set (i := 1) sc_law.nd rfl (Or.inl rfl) (kd_call rfl F0 (hr.mono (by first | decide | exact Nat.le_refl _ | omega)) (by rfl) m0 kp0 b0 v0 r0 (pda_cons (pd_var (pv 0)) pda_nil)))
    (pdss_cons (pds_for PassesOwn.never rfl (kdi_any (K := K) rfl (kd_call rfl F1 (hr.mono (by first | decide | exact Nat.le_refl _ | omega)) (by rfl) m1 kp1 b1 v1 r1 (pda_cons (kd_call rfl F2 (hr.mono (by first | decide | exact Nat.le_refl _ | omega)) (by rfl) m2 kp2 b2 v2 r2 (pda_cons (pd_var (pv 1)) (pda_cons pd_int pda_nil))) pda_nil))) (pdg_name (pg_name (i := 2) sc_law.nd rfl (Or.inl rfl)))
    (pdss_one (pds_if (pdt_not (pdt_val (kd_call rfl F3 (hr.mono (by first | decide | exact Nat.le_refl _ | omega)) (by rfl) m3 kp3 b3 v3 r3 (pda_cons (kd_call rfl F4 (hr.mono (by first | decide | exact Nat.le_refl _ | omega)) (by rfl) m4 kp4 b4 v4 r4 (pda_cons (pd_var (pv 1)) (pda_cons (pd_lst (pda_cons pd_str (pda_cons pd_str (pda_cons pd_str pda_nil)))) pda_nil))) (pda_cons (pd_op (ko_add (K := K) rfl) s2_add pd_int (kd_call rfl F2 (hr.mono (by first | decide | exact Nat.le_refl _ | omega)) (by rfl) m2 kp2 b2 v2 r2 (pda_cons (pd_var (pv 1)) (pda_cons pd_int pda_nil)))) (pda_cons (pd_var (pv 2)) pda_nil))))))
    (pdss_one (pds_ret pd_bl))
    pdss_nil)))
    (pdss_cons (pds_set (i := 2) sc_law.nd rfl (Or.inl rfl) (pd_ix (kix (K := K) rfl) s2_ix (kd_call rfl F1 (hr.mono (by first | decide | exact Nat.le_refl _ | omega)) (by rfl) m1 kp1 b1 v1 r1 (pda_cons pd_int pda_nil)) (kd_call rfl F2 (hr.mono (by first | decide | exact Nat.le_refl _ | omega)) (by rfl) m2 kp2 b2 v2 r2 (pda_cons (pd_var (pv 1)) (pda_cons pd_int pda_nil))) (fun _ _ => rfl)))
    (pdss_cons (pds_for PassesOwn.never rfl (kdi_any (K := K) rfl (pd_lst (pda_cons pd_str (pda_cons pd_str (pda_cons pd_str pda_nil))))) (pdg_name (pg_name (i := 3) sc_law.nd rfl (Or.inl rfl)))
    (pdss_one (pds_if (pdt_not (pdt_val (kd_call rfl F3 (hr.mono (by first | decide | exact Nat.le_refl _ | omega)) (by rfl) m3 kp3 b3 v3 r3 (pda_cons (pd_var (pv 3)) (pda_cons (pd_op (ko_add (K := K) rfl) s2_add pd_int (kd_call rfl F2 (hr.mono (by first | decide | exact Nat.le_refl _ | omega)) (by rfl) m2 kp2 b2 v2 r2 (pda_cons (pd_var (pv 1)) (pda_cons pd_int pda_nil)))) (pda_cons (pd_var (pv 2)) pda_nil))))))
    (pdss_one (pds_ret pd_bl))
    pdss_nil)))
    (pdss_cons (pds_for PassesOwn.never rfl (pdi_rng1 (by rfl) T.n_range (pda_cons pd_int pda_nil)) (pdg_name (pg_name (i := 4) sc_law.nd rfl (Or.inl rfl)))
    (pdss_cons (pds_set (i := 2) sc_law.nd rfl (Or.inl rfl) (kd_call rfl F5 (hr.mono (by first | decide | exact Nat.le_refl _ | omega)) (by rfl) m5 kp5 b5 v5 r5 (pda_cons (pd_var (pv 1)) (pda_cons (kd_call rfl F4 (hr.mono (by first | decide | exact Nat.le_refl _ | omega)) (by rfl) m4 kp4 b4 v4 r4 (pda_cons (pd_var (pv 1)) (pda_cons (pd_lst (pda_cons pd_int (pda_cons pd_int (pda_cons pd_int (pda_cons pd_int (pda_cons pd_int pda_nil)))))) pda_nil))) pda_nil))))
    (pdss_cons (pds_par' (i := 3) (j := 5) rfl sc_law.nd rfl rfl (by decide) rfl rfl (pda_cons (kd_call rfl F4 (hr.mono (by first | decide | exact Nat.le_refl _ | omega)) (by rfl) m4 kp4 b4 v4 r4 (pda_cons (pd_var (pv 1)) (pda_cons (pd_lst (pda_cons pd_str (pda_cons pd_str (pda_cons pd_str pda_nil)))) pda_nil))) (pda_cons (pd_op (ko_add (K := K) rfl) s2_add pd_int (kd_call rfl F2 (hr.mono (by first | decide | exact Nat.le_refl _ | omega)) (by rfl) m2 kp2 b2 v2 r2 (pda_cons (pd_var (pv 1)) (pda_cons pd_int pda_nil)))) pda_nil)) (by rfl))
    (pdss_cons (pds_if (pdt_not (pdt_val (kd_call rfl F3 (hr.mono (by first | decide | exact Nat.le_refl _ | omega)) (by rfl) m3 kp3 b3 v3 r3 (pda_cons (pd_var (pv 3)) (pda_cons (pd_var (pv 5)) (pda_cons (pd_var (pv 2)) pda_nil))))))
    (pdss_one (pds_ret pd_bl))
    pdss_nil)
    (pdss_cons (pds_if (pdt_not (pdt_chain oop_le s2_le oop_le s2_le (kd_call rfl F6 (hr.mono (by first | decide | exact Nat.le_refl _ | omega)) (by rfl) m6 kp6 b6 v6 r6 (pda_cons pd_str (pda_cons pd_int (pda_cons (pd_callTy (kc_tuple (K := K) rfl) ks_tuple (by rfl) T.n_tuple (by decide +kernel) (pda_cons (pd_var (pv 2)) pda_nil)) pda_nil)))) (kd_call rfl F6 (hr.mono (by first | decide | exact Nat.le_refl _ | omega)) (by rfl) m6 kp6 b6 v6 r6 (pda_cons pd_str (pda_cons (pd_var (pv 5)) (pda_cons (pd_callTy (kc_tuple (K := K) rfl) ks_tuple (by rfl) T.n_tuple (by decide +kernel) (pda_cons (pd_var (pv 2)) pda_nil)) pda_nil)))) (kd_call rfl F6 (hr.mono (by first | decide | exact Nat.le_refl _ | omega)) (by rfl) m6 kp6 b6 v6 r6 (pda_cons pd_str (pda_cons pd_int (pda_cons (pd_callTy (kc_tuple (K := K) rfl) ks_tuple (by rfl) T.n_tuple (by decide +kernel) (pda_cons (pd_var (pv 2)) pda_nil)) pda_nil))))))
    (pdss_one (pds_ret pd_bl))
    pdss_nil)
    (pdss_one (pds_if (pdt_not (pdt_val (kd_call rfl F7 (hr.mono (by first | decide | exact Nat.le_refl _ | omega)) (by rfl) m7 kp7 b7 v7 r7 (pda_cons (kd_call rfl F6 (hr.mono (by first | decide | exact Nat.le_refl _ | omega)) (by rfl) m6 kp6 b6 v6 r6 (pda_cons pd_str (pda_cons (pd_var (pv 5)) (pda_cons (pd_callTy (kc_tuple (K := K) rfl) ks_tuple (by rfl) T.n_tuple (by decide +kernel) (pda_cons (pd_var (pv 2)) pda_nil)) pda_nil)))) (pda_cons (kd_call rfl F6 (hr.mono (by first | decide | exact Nat.le_refl _ | omega)) (by rfl) m6 kp6 b6 v6 r6 (pda_cons pd_str (pda_cons (pd_var (pv 5)) (pda_cons (pd_callTy (kc_tuple (K := K) rfl) ks_tuple (by rfl) T.n_tuple (by decide +kernel) (pda_cons (pd_var (pv 2)) pda_nil)) pda_nil)))) pda_nil)))))
    (pdss_one (pds_ret pd_bl))
    pdss_nil)))))))
    (pdss_one (pds_ret pd_bl)))))))⟩
theorem ok_law {S_law_heap : DSp} {S_law_all_rows : DSp} {S_law_draw : DSp} {S_law_passes_right : DSp} {S_law_pick : DSp} {S_law_row_drawn : DSp} {S_passes : DSp} {S_law_same : DSp} {S : DSp} (T : Txt K mg) (c0 : Callee P w K mg base 1 "_law_heap" ["script"] S_law_heap []) (c1 : Callee P w K mg base 1 "_law_all_rows" ["many"] S_law_all_rows []) (c2 : Callee P w K mg base 1 "_law_draw" ["heap", "many"] S_law_draw []) (c3 : Callee P w K mg base 7 "_law_passes_right" ["order", "width", "row"] S_law_passes_right []) (c4 : Callee P w K mg base 2 "_law_pick" ["heap", "some"] S_law_pick []) (c5 : Callee P w K mg base 3 "_law_row_drawn" ["heap", "many"] S_law_row_drawn []) (c6 : Callee P w K mg base 3 "passes" ["order", "width", "row"] S_passes []) (c7 : Callee P w K mg base 6 "_law_same" ["value", "due"] S_law_same []) {f : Addr} {fd : FuncData} {dvs0 : List V} (F : FunD K "law" "law" (defArgs s_law) (defBody s_law) (defScope s_law) dvs0 [] f fd)
    (len : ∀ ds M Q, S ds M Q → ds.length = 1) (sem : ∀ ds M Q, S ds M Q → (b_law S_law_heap S_law_all_rows S_law_draw S_law_passes_right S_law_pick S_law_row_drawn S_passes S_law_same) { nx := fun _ M => Q .non M, rt := Q } (startD N_law ds) M) : FnOk P w K mg base CX0 8 f fd ["script"] (spD K S) :=
  fn_d F sc_law len (fun cdv A outer s H E hr => w_law T c0 c1 c2 c3 c4 c5 c6 c7 cdv A outer s H E hr) sem
theorem okg_law {S_law_heap : DSp} {S_law_all_rows : DSp} {S_law_draw : DSp} {S_law_passes_right : DSp} {S_law_pick : DSp} {S_law_row_drawn : DSp} {S_passes : DSp} {S_law_same : DSp} {S : DSp} (T : Txt K mg) (c0 : Callee P w K mg base 1 "_law_heap" ["script"] S_law_heap []) (c1 : Callee P w K mg base 1 "_law_all_rows" ["many"] S_law_all_rows []) (c2 : Callee P w K mg base 1 "_law_draw" ["heap", "many"] S_law_draw []) (c3 : Callee P w K mg base 7 "_law_passes_right" ["order", "width", "row"] S_law_passes_right []) (c4 : Callee P w K mg base 2 "_law_pick" ["heap", "some"] S_law_pick []) (c5 : Callee P w K mg base 3 "_law_row_drawn" ["heap", "many"] S_law_row_drawn []) (c6 : Callee P w K mg base 3 "passes" ["order", "width", "row"] S_passes []) (c7 : Callee P w K mg base 6 "_law_same" ["value", "due"] S_law_same []) {f : Addr} {fd : FuncData} {dvs0 : List V} (F : FunD K "law" "law" (defArgs s_law) (defBody s_law) (defScope s_law) dvs0 [] f fd)
    (len : ∀ ds M Q, S ds M Q → ds.length = 1) (sem : ∀ ds M Q, S ds M Q → (b_law S_law_heap S_law_all_rows S_law_draw S_law_passes_right S_law_pick S_law_row_drawn S_passes S_law_same) { nx := fun _ M => gcQ Q .non M, rt := gcQ Q } (startD N_law ds) M) : FnOk P w K mg base CX0 8 f fd ["script"] (spD K S) :=
  fn_g F sc_law len (fun cdv A outer s H E hr => w_law T c0 c1 c2 c3 c4 c5 c6 c7 cdv A outer s H E hr) sem
end
end K54

set_option Elab.async false
set_option linter.all false
set_option maxRecDepth 100000
set_option maxHeartbeats 4000000
/-! k54, the plain law: what is received, number by number. -/
namespace K54
open DL
/-- what was received; the numbers are those below n -/
abbrev Set' := Int → Bool
def mexI (n : Nat) (S : Set') : Int := ((iota 0 n).find? fun y => !S y).getD n
theorem mex_spec (n : Nat) (S : Set') : 0 ≤ mexI n S ∧ mexI n S ≤ n ∧ (∀ y, 0 ≤ y → y < mexI n S → S y = true) ∧ (mexI n S < n → S (mexI n S) = false) := by
  unfold mexI
  cases h : (iota 0 n).find? fun y => !S y with
  | none =>
    rw [List.find?_eq_none] at h
    refine ⟨by simp, by simp, fun y h0 h1 => ?_, fun h1 => by simp at h1⟩
    have := h y (by rw [mem_iota]; simp at h1; omega)
    simpa using this
  | some a =>
    obtain ⟨h1, pre, suf, h2, h3⟩ := List.find?_eq_some_iff_append.mp h
    have ha : a ∈ iota 0 n := by rw [h2]; simp
    rw [mem_iota] at ha
    refine ⟨by simp; omega, by simp; omega, fun y h0 hy => ?_, fun _ => by simpa using h1⟩
    have hy : y < a := by simpa using hy
    have hm : y ∈ iota 0 n := by rw [mem_iota]; omega
    rw [h2, List.mem_append, List.mem_cons] at hm
    have hp : (iota 0 n).Pairwise (· < ·) := by
      unfold iota
      rw [List.pairwise_map]
      exact List.pairwise_lt_range.imp fun h => by omega
    rw [h2, List.pairwise_append, List.pairwise_cons] at hp
    rcases hm with hm | rfl | hm
    · have := h3 y hm
      simpa using this
    · omega
    · have := hp.2.1.1 y hm
      omega
theorem mex_eq {n : Nat} {S : Set'} {b : Int} (h0 : 0 ≤ b) (h1 : b ≤ n) (h2 : ∀ y, 0 ≤ y → y < b → S y = true) (h3 : b < n → S b = false) : mexI n S = b := by
  obtain ⟨k0, k1, k2, k3⟩ := mex_spec n S
  by_cases h : mexI n S < b
  · have := h2 _ k0 h
    rw [k3 (by omega)] at this
    cases this
  · by_cases h' : b < mexI n S
    · have := k2 b h0 h'
      rw [h3 (by omega)] at this
      cases this
    · omega
/-- next: only the very next one -/
def accI (n : Nat) (nx : Bool) (w : Int) (S : Set') (x : Int) : Bool := decide (x < mexI n S + w) && (!nx || decide (x ≤ mexI n S))
def stepI (n : Nat) (nx : Bool) (w : Int) (S : Set') (x : Int) : Set' := if accI n nx w S x = true then fun y => S y || decide (y = x) else S
def passI (n : Nat) (nx : Bool) (w : Int) (row : List Int) (S : Set') : Set' := row.foldl (stepI n nx w) S
def cntI (n : Nat) (nx : Bool) (w : Int) (row : List Int) : Nat → Set' → Int
  | 0, _ => 0
  | k + 1, S => if mexI n S < n then 1 + cntI n nx w row k (passI n nx w row S) else 0
def noneI : Set' := fun _ => false
def timesI (n : Nat) (nx : Bool) (w : Int) (row : List Int) : Int := cntI n nx w row n noneI
/-- each number below n once -/
structure RowOk (n : Nat) (row : List Int) : Prop where
  perm : row.Perm (iota 0 n)
theorem RowOk.mem {n : Nat} {row : List Int} (h : RowOk n row) {x : Int} : x ∈ row ↔ 0 ≤ x ∧ x < n := by
  rw [h.perm.mem_iff, mem_iota]; omega
theorem iota_nodup (a : Int) (n : Nat) : (iota a n).Nodup := by
  unfold iota
  rw [List.nodup_iff_pairwise_ne, List.pairwise_map]
  exact (List.nodup_iff_pairwise_ne.mp List.nodup_range).imp fun h => by omega
theorem RowOk.nodup {n : Nat} {row : List Int} (h : RowOk n row) : row.Nodup := h.perm.nodup_iff.mpr (iota_nodup 0 n)
theorem RowOk.len {n : Nat} {row : List Int} (h : RowOk n row) : row.length = n := by rw [h.perm.length_eq, iota_length]
def SubI (n : Nat) (S T : Set') : Prop := ∀ y : Int, 0 ≤ y → y < n → S y = true → T y = true
theorem SubI.mex {n : Nat} {S T : Set'} (h : SubI n S T) : mexI n S ≤ mexI n T := by
  obtain ⟨k0, k1, k2, k3⟩ := mex_spec n S
  obtain ⟨l0, l1, l2, l3⟩ := mex_spec n T
  by_cases hh : mexI n T < mexI n S
  · have hq : ∀ y : Int, 0 ≤ y → y < (n : Int) → S y = true → T y = true := h
    have := hq (mexI n T) l0 (by omega) (k2 _ l0 hh)
    rw [l3 (by omega)] at this
    cases this
  · omega
/-- who accepts more has more -/
def LeR (nx : Bool) (w : Int) (nx' : Bool) (w' : Int) : Prop := ∀ b b' x : Int, b ≤ b' → (x < b + w ∧ (nx = true → x ≤ b)) → x < b' + w' ∧ (nx' = true → x ≤ b' ∨ x < b')
theorem acc_iff {n : Nat} {nx : Bool} {w : Int} {S : Set'} {x : Int} : accI n nx w S x = true ↔ x < mexI n S + w ∧ (nx = true → x ≤ mexI n S) := by
  unfold accI
  rw [Bool.and_eq_true, Bool.or_eq_true, decide_eq_true_eq, decide_eq_true_eq]
  cases nx <;> simp
theorem step_sub {n : Nat} {nx nx' : Bool} {w w' : Int} {S T : Set'} {x : Int} (h : SubI n S T) (hw : w ≤ w') (hx : nx' = true → nx = true) : SubI n (stepI n nx w S x) (stepI n nx' w' T x) := by
  intro y y0 y1 hy
  have hm := h.mex
  unfold stepI at hy ⊢
  by_cases ha : accI n nx w S x = true
  · rw [if_pos ha] at hy
    rw [acc_iff] at ha
    have hT : ∀ z, T z = true → (if accI n nx' w' T x = true then fun y => T y || decide (y = x) else T) z = true := by
      intro z hz
      split
      · simp [hz]
      · exact hz
    rw [Bool.or_eq_true, decide_eq_true_eq] at hy
    rcases hy with hy | rfl
    · exact hT y (h y y0 y1 hy)
    · by_cases hn : nx' = true → y ≤ mexI n T
      · rw [if_pos (acc_iff.mpr ⟨by omega, hn⟩)]
        simp
      · exfalso
        apply hn
        intro h1
        have := ha.2 (hx h1)
        omega
  · rw [if_neg ha] at hy
    have := h y y0 y1 hy
    split
    · simp [this]
    · exact this
theorem pass_sub {n : Nat} {nx nx' : Bool} {w w' : Int} (hw : w ≤ w') (hx : nx' = true → nx = true) : ∀ (row : List Int) {S T : Set'}, SubI n S T → SubI n (passI n nx w row S) (passI n nx' w' row T)
  | [], S, T, h => h
  | x :: row, S, T, h => pass_sub hw hx row (step_sub h hw hx)
theorem cnt_le {n : Nat} {nx nx' : Bool} {w w' : Int} (hw : w ≤ w') (hx : nx' = true → nx = true) {row : List Int} : ∀ (k : Nat) {S T : Set'}, SubI n S T → cntI n nx' w' row k T ≤ cntI n nx w row k S
  | 0, S, T, _ => Int.le_refl _
  | k + 1, S, T, h => by
    have hm := h.mex
    unfold cntI
    have ih := cnt_le hw hx (row := row) k (pass_sub hw hx row h)
    have h0 : ∀ (k : Nat) (S : Set'), 0 ≤ cntI n nx w row k S := by
      intro k
      induction k with
      | zero => intro S; exact Int.le_refl _
      | succ k ih =>
        intro S
        unfold cntI
        split
        · have := ih (passI n nx w row S); omega
        · omega
    split
    · rw [if_pos (by omega)]
      omega
    · split
      · have := h0 k (passI n nx w row S); omega
      · omega
theorem times_le {n : Nat} {nx nx' : Bool} {w w' : Int} (hw : w ≤ w') (hx : nx' = true → nx = true) {row : List Int} : timesI n nx' w' row ≤ timesI n nx w row := cnt_le hw hx n (fun _ _ _ h => h)
/-! once is enough just if none comes too early -/
theorem foldl_stepI_of {n : Nat} {nx : Bool} {w : Int} : ∀ (row : List Int) (S : Set') (y : Int), (row.foldl (stepI n nx w) S) y = true → S y = true ∨ y ∈ row
  | [], S, y, h => .inl h
  | x :: row, S, y, h => by
    rcases foldl_stepI_of row _ y h with h | h
    · unfold stepI at h
      split at h
      · rw [Bool.or_eq_true, decide_eq_true_eq] at h
        rcases h with h | rfl
        · exact .inl h
        · exact .inr (by simp)
      · exact .inl h
    · exact .inr (by simp [h])
theorem stepI_mono {n : Nat} {nx : Bool} {w : Int} {S : Set'} {x y : Int} (h : S y = true) : stepI n nx w S x y = true := by
  unfold stepI
  split
  · simp [h]
  · exact h
theorem foldl_stepI_mono {n : Nat} {nx : Bool} {w : Int} : ∀ (row : List Int) {S : Set'} {y : Int}, S y = true → (row.foldl (stepI n nx w) S) y = true
  | [], _, _, h => h
  | _ :: row, _, _, h => foldl_stepI_mono row (stepI_mono h)
/-- y stands ahead of x -/
def Ahead (row : List Int) (y x : Int) : Prop := ∃ pre suf, row = pre ++ x :: suf ∧ y ∈ pre
def LateI (row : List Int) (w : Int) : Prop := ∃ x y, Ahead row y x ∧ x + w ≤ y
theorem once_of {n : Nat} {w : Int} {row : List Int} (hw : 1 ≤ w) (hr : RowOk n row) (hl : ¬ LateI row w) : ∀ (suf pre : List Int) (S : Set'), row = pre ++ suf → (∀ y, S y = true ↔ y ∈ pre) → ∀ y, (suf.foldl (stepI n false w) S) y = true ↔ y ∈ row
  | [], pre, S, e, h, y => by rw [e, List.append_nil]; exact h y
  | x :: suf, pre, S, e, h, y => by
    refine once_of hw hr hl suf (pre ++ [x]) _ (by rw [e]; simp) (fun z => ?_) y
    have hx : 0 ≤ x ∧ x < n := hr.mem.mp (by rw [e]; simp)
    have hacc : accI n false w S x = true := by
      rw [acc_iff]
      refine ⟨?_, by simp⟩
      obtain ⟨k0, k1, k2, k3⟩ := mex_spec n S
      by_cases hc : x < mexI n S + w
      · exact hc
      · exfalso
        apply hl
        have hm : mexI n S < n := by omega
        have hn : mexI n S ∉ pre := fun z => by
          have := (h _).mpr z
          rw [k3 hm] at this
          cases this
        have hin : mexI n S ∈ row := hr.mem.mpr ⟨k0, hm⟩
        rw [e, List.mem_append, List.mem_cons] at hin
        rcases hin with hin | hin | hin
        · exact absurd hin hn
        · omega
        · obtain ⟨a, b, hab⟩ := List.append_of_mem hin
          exact ⟨mexI n S, x, ⟨pre ++ x :: a, b, by rw [e, hab]; simp, by simp⟩, by omega⟩
    unfold stepI
    rw [if_pos hacc, Bool.or_eq_true, decide_eq_true_eq, h z, List.mem_append, List.mem_singleton]
theorem times_pos {n : Nat} {nx : Bool} {w : Int} {row : List Int} (hn : 0 < n) : timesI n nx w row = 1 + cntI n nx w row (n - 1) (passI n nx w row noneI) := by
  unfold timesI
  have e : n = (n - 1) + 1 := by omega
  have : mexI n noneI = 0 := mex_eq (by omega) (by omega) (fun y h0 h1 => by omega) (fun _ => rfl)
  have key : ∀ k, n = k + 1 → cntI n nx w row n noneI = 1 + cntI n nx w row k (passI n nx w row noneI) := fun k hk => by
    have e1 : cntI n nx w row n noneI = cntI n nx w row (k + 1) noneI := by rw [← hk]
    rw [e1, cntI, if_pos (by rw [this]; omega)]
  exact key (n - 1) e
theorem cnt_nonneg {n : Nat} {nx : Bool} {w : Int} {row : List Int} : ∀ (k : Nat) (S : Set'), 0 ≤ cntI n nx w row k S
  | 0, _ => Int.le_refl _
  | k + 1, S => by
    unfold cntI
    split
    · have := cnt_nonneg (n := n) (nx := nx) (w := w) (row := row) k (passI n nx w row S); omega
    · omega
theorem pass_grows {n : Nat} {nx : Bool} {w : Int} {row : List Int} (hw : 1 ≤ w) (hr : RowOk n row) {S : Set'} (h : mexI n S < n) : mexI n S < mexI n (passI n nx w row S) := by
  obtain ⟨k0, k1, k2, k3⟩ := mex_spec n S
  have hin : mexI n S ∈ row := hr.mem.mpr ⟨k0, h⟩
  obtain ⟨pre, suf, e⟩ := List.append_of_mem hin
  have hpre : ∀ y, S y = true → (pre.foldl (stepI n nx w) S) y = true := fun y hy => foldl_stepI_mono pre hy
  have hmex : mexI n S ≤ mexI n (pre.foldl (stepI n nx w) S) := SubI.mex fun y _ _ hy => hpre y hy
  have hin2 : (passI n nx w row S) (mexI n S) = true := by
    unfold passI
    rw [e, List.foldl_append, List.foldl_cons]
    apply foldl_stepI_mono
    generalize pre.foldl (stepI n nx w) S = S1 at hmex
    unfold stepI
    by_cases ha : accI n nx w S1 (mexI n S) = true
    · rw [if_pos ha]; simp
    · exfalso
      apply ha
      rw [acc_iff]
      exact ⟨by omega, fun _ => hmex⟩
  have hall : ∀ y, 0 ≤ y → y < mexI n S → (passI n nx w row S) y = true := fun y y0 y1 => foldl_stepI_mono row (k2 y y0 y1)
  obtain ⟨l0, l1, l2, l3⟩ := mex_spec n (passI n nx w row S)
  by_cases hc : mexI n S < mexI n (passI n nx w row S)
  · exact hc
  · exfalso
    have hm : mexI n (passI n nx w row S) < n := by omega
    have := l3 hm
    by_cases he : mexI n (passI n nx w row S) = mexI n S
    · rw [he, hin2] at this; cases this
    · rw [hall _ l0 (by omega)] at this; cases this
theorem once_iff {n : Nat} {w : Int} {row : List Int} (hw : 1 ≤ w) (hr : RowOk n row) (hn : 0 < n) : timesI n false w row = 1 ↔ ¬ LateI row w := by
  rw [times_pos hn]
  constructor
  · intro h hl
    obtain ⟨x, y, ⟨pre, suf, e, hy⟩, hxy⟩ := hl
    obtain ⟨p1, p2, rfl⟩ := List.append_of_mem hy
    -- y is refused when it comes
    have hnd := hr.nodup
    have hx : 0 ≤ x ∧ x < n := hr.mem.mp (by rw [e]; simp)
    have hyn : 0 ≤ y ∧ y < n := hr.mem.mp (by rw [e]; simp)
    have e2 : row = p1 ++ y :: (p2 ++ x :: suf) := by rw [e]; simp
    rw [e2] at hnd
    have hx1 : x ∉ p1 := fun z => by
      rw [List.nodup_append] at hnd
      exact hnd.2.2 x z x (by simp) rfl
    have hy1 : y ∉ p1 := fun z => by
      rw [List.nodup_append] at hnd
      exact hnd.2.2 y z y (by simp) rfl
    have hy2 : y ∉ p2 ++ x :: suf := by
      rw [List.nodup_append, List.nodup_cons] at hnd
      exact hnd.2.1.1
    have hS : (p1.foldl (stepI n false w) noneI) x = false := by
      cases hc : (p1.foldl (stepI n false w) noneI) x with
      | false => rfl
      | true =>
        rcases foldl_stepI_of p1 _ _ hc with z | z
        · cases z
        · exact absurd z hx1
    have hmx : mexI n (p1.foldl (stepI n false w) noneI) ≤ x := by
      obtain ⟨k0, k1, k2, k3⟩ := mex_spec n (p1.foldl (stepI n false w) noneI)
      by_cases hc : mexI n (p1.foldl (stepI n false w) noneI) ≤ x
      · exact hc
      · have := k2 x hx.1 (by omega)
        rw [hS] at this
        cases this
    have hno : (passI n false w row noneI) y = false := by
      cases hc : (passI n false w row noneI) y with
      | false => rfl
      | true =>
        unfold passI at hc
        rw [e2, List.foldl_append, List.foldl_cons] at hc
        rcases foldl_stepI_of _ _ _ hc with z | z
        · have hst : ∀ S : Set', accI n false w S y ≠ true → stepI n false w S y = S := fun S hq => if_neg hq
          have hna : ¬ accI n false w (p1.foldl (stepI n false w) noneI) y = true := fun q => by
            have q := (acc_iff.mp q).1
            omega
          rw [hst _ hna] at z
          rcases foldl_stepI_of p1 _ _ z with z | z
          · cases z
          · exact absurd z hy1
        · exact absurd z hy2
    have hm : mexI n (passI n false w row noneI) < n := by
      obtain ⟨k0, k1, k2, k3⟩ := mex_spec n (passI n false w row noneI)
      by_cases hc : mexI n (passI n false w row noneI) < n
      · exact hc
      · have := k2 y hyn.1 (by omega)
        rw [hno] at this
        cases this
    have hz0 : mexI n noneI = 0 := mex_eq (by omega) (by omega) (fun y h0 h1 => by omega) (fun _ => rfl)
    have hg := pass_grows (nx := false) hw hr (S := noneI) (by rw [hz0]; omega)
    have hz := (mex_spec n noneI).1
    have en : n - 1 = (n - 2) + 1 := by omega
    rw [en] at h
    unfold cntI at h
    rw [if_pos hm] at h
    have := cnt_nonneg (n := n) (nx := false) (w := w) (row := row) (n - 2) (passI n false w row (passI n false w row noneI))
    omega
  · intro hl
    have h1 := once_of hw hr hl row [] noneI rfl (fun y => by simp [noneI])
    have hm : mexI n (passI n false w row noneI) = n := by
      obtain ⟨k0, k1, k2, k3⟩ := mex_spec n (passI n false w row noneI)
      by_cases hc : mexI n (passI n false w row noneI) < n
      · have := k3 hc
        have h2 := (h1 (mexI n (passI n false w row noneI))).mpr (hr.mem.mpr ⟨k0, hc⟩)
        unfold passI at this h2
        rw [h2] at this
        cases this
      · omega
    cases hk : n - 1 with
    | zero => rfl
    | succ k =>
      unfold cntI
      rw [if_neg (by rw [hm]; omega)]
      rfl
/-! next: one more time at each number whose next one stands ahead -/
/-- i + 1 stands ahead of i -/
def DropI (row : List Int) (i : Int) : Prop := Ahead row (i + 1) i
theorem ahead_total {row : List Int} {x y : Int} (hx : x ∈ row) (hy : y ∈ row) (hne : x ≠ y) : Ahead row x y ∨ Ahead row y x := by
  obtain ⟨p, s, rfl⟩ := List.append_of_mem hx
  rw [List.mem_append, List.mem_cons] at hy
  rcases hy with hy | hy | hy
  · exact .inr ⟨p, s, rfl, hy⟩
  · exact absurd hy.symm hne
  · obtain ⟨p2, s2, rfl⟩ := List.append_of_mem hy
    exact .inl ⟨p ++ x :: p2, s2, by simp, by simp⟩
theorem nodup_split {α : Type} {x : α} {p s p' s' : List α} (h : (p ++ x :: s).Nodup) (e : p ++ x :: s = p' ++ x :: s') : p = p' ∧ s = s' := by
  induction p generalizing p' with
  | nil =>
    cases p' with
    | nil => simp at e; exact ⟨rfl, e⟩
    | cons a p' =>
      simp at e
      obtain ⟨rfl, e⟩ := e
      simp at h
      exact absurd (by rw [e]; simp) h.1
  | cons a p ih =>
    cases p' with
    | nil =>
      simp at e
      obtain ⟨rfl, e⟩ := e
      simp at h
    | cons b p' =>
      simp at e
      obtain ⟨rfl, e⟩ := e
      rw [List.cons_append, List.nodup_cons] at h
      obtain ⟨h1, h2⟩ := ih h.2 e
      exact ⟨by rw [h1], h2⟩
theorem ahead_irrefl {row : List Int} {x y : Int} (h : row.Nodup) (h1 : Ahead row x y) (h2 : Ahead row y x) : False := by
  obtain ⟨p, s, rfl, hx⟩ := h1
  obtain ⟨p', s', e, hy⟩ := h2
  obtain ⟨a, b, rfl⟩ := List.append_of_mem hx
  have e' : (a ++ x :: (b ++ y :: s)) = p' ++ x :: s' := by rw [← e]; simp
  have h' : (a ++ x :: (b ++ y :: s)).Nodup := by simpa using h
  obtain ⟨rfl, _⟩ := nodup_split h' e'
  rw [List.nodup_append] at h'
  exact h'.2.2 y hy y (by simp) rfl
/-- what one pass reaches -/
def upTo (b : Int) : Set' := fun y => decide (y < b)
theorem mex_upTo {n : Nat} {b : Int} (h0 : 0 ≤ b) (h1 : b ≤ n) : mexI n (upTo b) = b := mex_eq h0 h1 (fun y _ h => decide_eq_true h) (fun _ => decide_eq_false (by omega))
theorem step_next {n : Nat} {w b x : Int} (hw : 1 ≤ w) (h0 : 0 ≤ b) (h1 : b ≤ n) (hx : 0 ≤ x) (hxn : x < n) : ∀ y, stepI n true w (upTo b) x y = upTo (if x = b then b + 1 else b) y := by
  intro y
  unfold stepI
  by_cases ha : accI n true w (upTo b) x = true
  · rw [if_pos ha]
    rw [acc_iff, mex_upTo h0 h1] at ha
    have := ha.2 rfl
    unfold upTo
    by_cases hb : x = b
    · subst hb
      rw [if_pos rfl, Bool.eq_iff_iff, Bool.or_eq_true, decide_eq_true_eq, decide_eq_true_eq, decide_eq_true_eq]
      omega
    · rw [if_neg hb, Bool.eq_iff_iff, Bool.or_eq_true, decide_eq_true_eq, decide_eq_true_eq]
      omega
  · rw [if_neg ha]
    rw [acc_iff, mex_upTo h0 h1] at ha
    by_cases hb : x = b
    · exfalso
      apply ha
      omega
    · rw [if_neg hb]
theorem pass_next {n : Nat} {w : Int} {row : List Int} (hw : 1 ≤ w) (hr : RowOk n row) {b : Int} (b0 : 0 ≤ b) : ∀ (suf pre : List Int) (c : Int), row = pre ++ suf → b ≤ c → c ≤ n → (∀ i, b ≤ i → i < c → i ∈ pre) → (∀ i, b ≤ i → i + 1 < c → Ahead row i (i + 1)) → (c ∈ pre → b < c ∧ Ahead row c (c - 1)) → (c = b → b ∉ pre) →
    ∃ d, b ≤ d ∧ d ≤ n ∧ suf.foldl (stepI n true w) (upTo c) = upTo d ∧ (∀ i, b ≤ i → i + 1 < d → Ahead row i (i + 1)) ∧ (d < n → b < d ∧ Ahead row d (d - 1))
  | [], pre, c, e, h1, h2, h3, h4, h5, h6 => by
    rw [List.append_nil] at e
    exact ⟨c, h1, h2, rfl, h4, fun h => h5 (by rw [← e]; exact hr.mem.mpr ⟨by omega, h⟩)⟩
  | x :: suf, pre, c, e, h1, h2, h3, h4, h5, h6 => by
    have hx : 0 ≤ x ∧ x < n := hr.mem.mp (by rw [e]; simp)
    have hnd := hr.nodup
    rw [e] at hnd
    have hxp : x ∉ pre := fun z => by
      rw [List.nodup_append] at hnd
      exact hnd.2.2 x z x (by simp) rfl
    rw [List.foldl_cons, show stepI n true w (upTo c) x = upTo (if x = c then c + 1 else c) from funext (step_next hw (by omega) h2 hx.1 hx.2)]
    have e' : row = (pre ++ [x]) ++ suf := by rw [e]; simp
    have hat : ∀ i, i ∈ pre → Ahead row i x := fun i hi => ⟨pre, suf, e, hi⟩
    by_cases hc : x = c
    · rw [if_pos hc]
      subst hc
      refine pass_next hw hr b0 suf (pre ++ [x]) (x + 1) e' (by omega) (by omega) (fun i i0 i1 => ?_) (fun i i0 i1 => ?_) (fun h => ?_) (fun h => by omega)
      · by_cases hi : i = x
        · subst hi; simp
        · have := h3 i i0 (by omega); simp [this]
      · by_cases hi : i + 1 = x
        · rw [hi]
          exact hat i (h3 i i0 (by omega))
        · exact h4 i i0 (by omega)
      · refine ⟨by omega, ?_⟩
        rw [show x + 1 - 1 = x by omega]
        rw [List.mem_append, List.mem_singleton] at h
        rcases h with h | h
        · exact hat _ h
        · omega
    · rw [if_neg hc]
      refine pass_next hw hr b0 suf (pre ++ [x]) c e' h1 h2 (fun i i0 i1 => by simp [h3 i i0 i1]) h4 (fun h => ?_) (fun h => ?_)
      · rw [List.mem_append, List.mem_singleton] at h
        rcases h with h | h
        · exact h5 h
        · exact absurd h.symm hc
      · rw [List.mem_append, List.mem_singleton, not_or]
        exact ⟨h6 h, fun z => hc (by rw [← z, h])⟩
theorem iota_add' (lo : Int) (a b : Nat) : iota lo (a + b) = iota lo a ++ iota (lo + a) b := by
  unfold iota
  rw [List.range_add, List.map_append, List.map_map]
  congr 1
  apply List.map_congr_left
  intro x _
  simp only [Function.comp]
  omega
open Classical in
noncomputable def drops (n : Nat) (row : List Int) (b : Int) : Nat := ((iota b (n - b).toNat).filter fun i : Int => decide (i + 1 < (n : Int) ∧ DropI row i)).length
open Classical in
theorem drops_step {n : Nat} {row : List Int} (hr : RowOk n row) {b d : Int} (b0 : 0 ≤ b) (h1 : b < d) (h2 : d ≤ n) (h3 : ∀ i, b ≤ i → i + 1 < d → Ahead row i (i + 1)) (h4 : d < n → Ahead row d (d - 1)) : drops n row b = drops n row d + if d < n then 1 else 0 := by
  have e : (n - b).toNat = (d - 1 - b).toNat + (1 + (n - d).toNat) := by omega
  unfold drops
  rw [e, iota_add', iota_add', List.filter_append, List.filter_append, List.length_append, List.length_append]
  have e1 : b + ((d - 1 - b).toNat : Int) = d - 1 := by omega
  have e2 : b + ((d - 1 - b).toNat : Int) + (1 : Nat) = d := by omega
  rw [e2, e1]
  have f1 : (iota b (d - 1 - b).toNat).filter (fun i : Int => decide (i + 1 < (n : Int) ∧ DropI row i)) = [] := by
    rw [List.filter_eq_nil_iff]
    intro i hi
    rw [mem_iota] at hi
    rw [decide_eq_true_eq]
    rintro ⟨_, hd⟩
    exact ahead_irrefl hr.nodup hd (h3 i (by omega) (by omega))
  rw [f1]
  have f2 : iota (d - 1) 1 = [d - 1] := by unfold iota; simp
  rw [f2]
  by_cases hd : d < n
  · rw [if_pos hd, List.filter_cons, if_pos (by rw [decide_eq_true_eq]; refine ⟨by omega, ?_⟩; unfold DropI; rw [show d - 1 + 1 = d by omega]; exact h4 hd)]
    simp
    omega
  · rw [if_neg hd, List.filter_cons, if_neg (by rw [decide_eq_true_eq]; omega)]
    simp
theorem cnt_next {n : Nat} {w : Int} {row : List Int} (hw : 1 ≤ w) (hr : RowOk n row) : ∀ (k : Nat) (b : Int), 0 ≤ b → b ≤ n → n - b ≤ k → cntI n true w row k (upTo b) = if b < n then 1 + (drops n row b : Int) else 0
  | 0, b, b0, b1, hk => by
    rw [if_neg (by omega)]; rfl
  | k + 1, b, b0, b1, hk => by
    unfold cntI
    rw [mex_upTo b0 b1]
    by_cases hb : b < n
    · rw [if_pos hb, if_pos hb]
      obtain ⟨d, d0, d1, e, h3, h4⟩ := pass_next hw hr b0 row [] b rfl (by omega) b1 (fun i h h' => by omega) (fun i h h' => by omega) (fun h => by cases h) (fun _ h => by cases h)
      have hd : b < d := by
        have hg := pass_grows (nx := true) hw hr (S := upTo b) (by rw [mex_upTo b0 b1]; exact hb)
        rw [mex_upTo b0 b1] at hg
        unfold passI at hg
        rw [e, mex_upTo (by omega) d1] at hg
        exact hg
      have e' : passI n true w row (upTo b) = upTo d := e
      rw [e', cnt_next hw hr k d (by omega) d1 (by omega), drops_step hr b0 hd d1 h3 (fun h => (h4 h).2)]
      by_cases hdn : d < n
      · rw [if_pos hdn, if_pos hdn]; omega
      · rw [if_neg hdn, if_neg hdn]
        have : drops n row d = 0 := by
          unfold drops
          rw [show (n - d).toNat = 0 by omega]
          rfl
        omega
    · rw [if_neg hb, if_neg hb]
open Classical in
theorem times_next {n : Nat} {w : Int} {row : List Int} (hw : 1 ≤ w) (hr : RowOk n row) (hn : 0 < n) : timesI n true w row = 1 + ((row.filter fun i : Int => decide (i + 1 < (n : Int) ∧ DropI row i)).length : Int) := by
  have e : noneI = upTo 0 ∨ True := .inr trivial
  have key : ∀ (k : Nat) (S T : Set'), (∀ y, 0 ≤ y → S y = T y) → cntI n true w row k S = cntI n true w row k T := by
    intro k S T h
    refine Int.le_antisymm (cnt_le (Int.le_refl _) (fun h => h) k ?_) (cnt_le (Int.le_refl _) (fun h => h) k ?_)
    · intro y y0 _ hy; rw [h y y0]; exact hy
    · intro y y0 _ hy; rw [← h y y0]; exact hy
  unfold timesI
  rw [key n noneI (upTo 0) (fun y y0 => (decide_eq_false (by omega)).symm), cnt_next hw hr n 0 (by omega) (by omega) (by omega), if_pos (by omega)]
  unfold drops
  rw [(hr.perm.filter _).length_eq]
  simp
end K54

set_option Elab.async false
set_option linter.all false
set_option maxRecDepth 100000
set_option maxHeartbeats 4000000
namespace K54
open PySem PySem.Spec PyProof.Rows L2 DL
local macro_rules | `(tactic| walk_at "evh") => `(tactic| simp (maxSteps := 3000000) (implicitDefEqProofs := false) (disch := first | assumption | decide | ((try simp only [List.length_cons, List.length_nil, List.length_append, List.length_map, iota_length, sizeLine_eq, RgOk]); omega)) only [*, ↓in_intsT, ↓in_intsL, ↓notIn_intsT, ↓notIn_intsL, ap_fTest, ap_fAnd, ap_fOr, ap_fNot, ap_fAndV, ap_fOrV, ap_fNotV, ap_fIf, ap_fChain, ap_fYes, ap_fNoPart, ap_fPart, ap_fSl, ap_fRev, ap_fRevM, ap_fListM, ap_fSortM, ap_fFld, ap_fTupRg1, ap_fTupRg2, ap_fLstRg1, ap_fLstRg2, ap_fIsi2, ap_fVarX, ap_fVarV, ap_fVarW, ap_fC, ap_fOV, ap_fOp, ap_fUn, ap_fCB, ap_fNil, ap_fCons, ap_fTup, ap_fLst, ap_fLstM, ap_fCall, ap_fCallN, ap_fMake, ap_fNext, ap_fBreak, ap_fCont, ap_fSeq, ap_fDrop, ap_fRet, ap_fRetO, ap_fRetVar, ap_fRetN, ap_fIfS, ap_fNever, ap_fAsg, ap_fAsgO, ap_fAug, ap_fMNil, ap_fMX, ap_fMO, ap_fPar, ap_fTupM, ap_fApp, ap_fPutK, ap_fPutL, ap_fGetK, ap_fInK, ap_fNotInK, ap_fLenK, ap_fListK, ap_fDicNew, ap_fDisp, ap_fIndex, ap_fgName, ap_fgNil, ap_fgCons, ap_fgTup, ap_fiAny, ap_fiEnum, ap_fiZip, ap_fFor, ap_fLcM, xv_mx1, xv_mx2, xv_mx3, xv_mx4, xv_mn1, xv_mn2, xv_mn3, xv_mn4, xv_ne_nil, xv_eq_nil, xv_forN, xv_forC, xv_forK1, xv_forK2, xv_forK3, xv_forK4, l_forK, xv_lcN, xv_lcC, xv_zip0, xv_zipC, enumD_0, enumD_1, enumD_2, enumD_3, enumD_4, enumD_5, ap_fiRng1, ap_fiRng2, xv_rng1, xv_rng2, lookL, lookK, fPairs, setManyF, wipeF, runF, runO, startF, toW, lk_0, st_0, lk_1, st_1, lk_2, st_2, lk_3, st_3, lk_4, st_4, lk_5, st_5, lk_6, st_6, lk_7, st_7, lk_8, st_8, lk_9, st_9, lk_10, st_10, lk_11, st_11, lk_12, st_12, lk_13, st_13, lk_14, st_14, lk_15, st_15, lk_16, st_16, lk_17, st_17, lk_18, st_18, lk_19, st_19, lk_20, st_20, lk_21, st_21, lk_22, st_22, lk_23, st_23, lk_24, st_24, lk_25, st_25, lk_26, st_26, lk_27, st_27, lk_28, st_28, lk_29, st_29, lk_30, st_30, lk_31, st_31, lk_32, st_32, lk_33, st_33, lk_34, st_34, lk_35, st_35, lk_36, st_36, lk_37, st_37, lk_38, st_38, lk_39, st_39, lk_40, st_40, isi_f_non_bool, isi_f_non_int, isi_f_non_str, isi_f_non_tuple, isi_f_non_list, isi_f_bl_bool, isi_f_bl_int, isi_f_bl_str, isi_f_bl_tuple, isi_f_bl_list, isi_f_int_bool, isi_f_int_int, isi_f_int_str, isi_f_int_tuple, isi_f_int_list, isi_f_str_bool, isi_f_str_int, isi_f_str_str, isi_f_str_tuple, isi_f_str_list, isi_f_tup_bool, isi_f_tup_int, isi_f_tup_str, isi_f_tup_tuple, isi_f_tup_list, isi_f_lst_bool, isi_f_lst_int, isi_f_lst_str, isi_f_lst_tuple, isi_f_lst_list, xv_add_int, xv_add_lst, xv_add_tup, xv_add_str, xv_sub, xv_mul_int, xv_mul_lst, xv_fdiv, xv_mod, xv_pow, xv_neg, xv_lt, xv_le, xv_gt, xv_ge, xv_iadd, xv_eq_int, xv_eq_bl, xv_eq_str, xv_eq_nn, xv_eq_2017, xv_eq_2084, xv_eq_2151, xv_eq_2218, xv_eq_2285, xv_eq_2351, xv_eq_2417, xv_eq_2488, xv_eq_2559, xv_eq_2629, xv_eq_tup, xv_ne_int, xv_ne_bl, xv_ne_str, xv_ne_nn, xv_ne_3273, xv_ne_3339, xv_ne_3405, xv_ne_3471, xv_ne_3537, xv_ne_3602, xv_ne_3667, xv_ne_3737, xv_ne_3807, xv_ne_3876, xv_ne_tup, xv_is_non, xv_not_non, xv_is_bl, xv_not_bl, xv_is_int, xv_not_int, xv_is_str, xv_not_str, xv_is_tup, xv_not_tup, xv_is_lst, xv_not_lst, xv_is_obj, xv_not_obj, xv_is_bb, xv_not_bb, xv_items_lst, xv_items_tup, xv_items_scr, xv_ix, xv_in_tupi, xv_notIn_tupi, xv_in_tups, xv_notIn_tups, xv_in_lsti, xv_notIn_lsti, xv_in_lsts, xv_notIn_lsts, xv_repT, xv_len_lst, xv_len_tup, xv_len_scr, xv_len_str, xv_abs, xv_max2, xv_max3, xv_maxA, xv_min2, xv_min3, xv_minA, xv_int_int, xv_int_bl, xv_sort, xv_sumL, xv_allL, xv_anyL, xv_tuple, xv_list, xv_sl_lst, xv_sl_scr, xv_sl_tup, xv_rev, xv_revM, xv_fld, xv_asB, xv_asI, xv_dKeyS, xv_dKeyI, xv_rdX, xv_rdV, xv_rdVw, xv_rdVo, xv_rdW, xv_rdWw, xv_asL, xv_retV, xv_retVl, xv_retVn, xv_retO, xv_rtv, xv_rto, xv_then_nx, xv_then_rt, xv_then_bk, xv_then_ct, xv_asInts, xv_asIntsF, xv_asInts0, xv_asIntsC, xv_asBls, xv_asBlsF, xv_asBls0, xv_asBlsC, xv_at0, xv_at1, xv_at2, xv_at3, xv_at4, xv_at5, xv_at6, xv_at7, xv_at8, xv_ge0, xv_ge1, xv_ge2, xv_ge3, xv_ge4, xv_ge5, xv_ge6, xv_ge7, xv_ge8, xv_ge9, xv_ge10, xv_ge11, xv_ge12, l_some, l_int, l_bl, l_str, l_tup, l_lst, l_rt, l_nx, l_v, l_cons, l_then, l_retV, l_and, l_or, l_ft, l_ftp, l_same, l_dand, l_dor, gOk_if, if_sz, if_szl, if_15, Option.bind_some, Option.bind_none, Option.map_some, Option.map_none, List.nil_append, List.cons_append, List.append_nil, List.length_cons, List.length_nil, List.map_cons, List.map_nil, List.replicate_zero, List.replicate_succ, decide_eq_true_eq, Bool.not_eq_true', decide_eq_false_iff_not, Bool.not_true, Bool.not_false, Bool.and_eq_true, Bool.or_eq_true, if_true, if_false, Bool.false_eq_true, Bool.and_true, Bool.true_and, Bool.or_false, Bool.false_or, Bool.or_true, Bool.true_or, Bool.and_false, Bool.false_and, decide_true, decide_false, Nat.reduceAdd, Nat.reduceSub, List.all_cons, List.all_nil, List.any_cons, List.any_nil, Int.lt_irrefl, Int.le_refl, Int.sub_zero, Int.add_zero, Int.zero_add, true_and, and_true, false_and, and_false, and_self, or_self, or_true, true_or, or_false, false_or, not_true_eq_false, not_false_eq_true, Bool.true_eq_false, reduceCtorEq, eq_self, id_eq, List.sum_cons, List.sum_nil, ite_true, ite_false, reduceIte])
local macro_rules | `(tactic| walk_at "ev") => `(tactic| simp (maxSteps := 3000000) (implicitDefEqProofs := false) (disch := first | assumption | decide | ((try simp only [List.length_cons, List.length_nil, List.length_append, List.length_map, iota_length, sizeLine_eq, RgOk]); omega)) only [↓in_intsT, ↓in_intsL, ↓notIn_intsT, ↓notIn_intsL, ap_fTest, ap_fAnd, ap_fOr, ap_fNot, ap_fAndV, ap_fOrV, ap_fNotV, ap_fIf, ap_fChain, ap_fYes, ap_fNoPart, ap_fPart, ap_fSl, ap_fRev, ap_fRevM, ap_fListM, ap_fSortM, ap_fFld, ap_fTupRg1, ap_fTupRg2, ap_fLstRg1, ap_fLstRg2, ap_fIsi2, ap_fVarX, ap_fVarV, ap_fVarW, ap_fC, ap_fOV, ap_fOp, ap_fUn, ap_fCB, ap_fNil, ap_fCons, ap_fTup, ap_fLst, ap_fLstM, ap_fCall, ap_fCallN, ap_fMake, ap_fNext, ap_fBreak, ap_fCont, ap_fSeq, ap_fDrop, ap_fRet, ap_fRetO, ap_fRetVar, ap_fRetN, ap_fIfS, ap_fNever, ap_fAsg, ap_fAsgO, ap_fAug, ap_fMNil, ap_fMX, ap_fMO, ap_fPar, ap_fTupM, ap_fApp, ap_fPutK, ap_fPutL, ap_fGetK, ap_fInK, ap_fNotInK, ap_fLenK, ap_fListK, ap_fDicNew, ap_fDisp, ap_fIndex, ap_fgName, ap_fgNil, ap_fgCons, ap_fgTup, ap_fiAny, ap_fiEnum, ap_fiZip, ap_fFor, ap_fLcM, xv_mx1, xv_mx2, xv_mx3, xv_mx4, xv_mn1, xv_mn2, xv_mn3, xv_mn4, xv_ne_nil, xv_eq_nil, xv_forN, xv_forC, xv_forK1, xv_forK2, xv_forK3, xv_forK4, l_forK, xv_lcN, xv_lcC, xv_zip0, xv_zipC, enumD_0, enumD_1, enumD_2, enumD_3, enumD_4, enumD_5, ap_fiRng1, ap_fiRng2, xv_rng1, xv_rng2, lookL, lookK, fPairs, setManyF, wipeF, runF, runO, startF, toW, lk_0, st_0, lk_1, st_1, lk_2, st_2, lk_3, st_3, lk_4, st_4, lk_5, st_5, lk_6, st_6, lk_7, st_7, lk_8, st_8, lk_9, st_9, lk_10, st_10, lk_11, st_11, lk_12, st_12, lk_13, st_13, lk_14, st_14, lk_15, st_15, lk_16, st_16, lk_17, st_17, lk_18, st_18, lk_19, st_19, lk_20, st_20, lk_21, st_21, lk_22, st_22, lk_23, st_23, lk_24, st_24, lk_25, st_25, lk_26, st_26, lk_27, st_27, lk_28, st_28, lk_29, st_29, lk_30, st_30, lk_31, st_31, lk_32, st_32, lk_33, st_33, lk_34, st_34, lk_35, st_35, lk_36, st_36, lk_37, st_37, lk_38, st_38, lk_39, st_39, lk_40, st_40, isi_f_non_bool, isi_f_non_int, isi_f_non_str, isi_f_non_tuple, isi_f_non_list, isi_f_bl_bool, isi_f_bl_int, isi_f_bl_str, isi_f_bl_tuple, isi_f_bl_list, isi_f_int_bool, isi_f_int_int, isi_f_int_str, isi_f_int_tuple, isi_f_int_list, isi_f_str_bool, isi_f_str_int, isi_f_str_str, isi_f_str_tuple, isi_f_str_list, isi_f_tup_bool, isi_f_tup_int, isi_f_tup_str, isi_f_tup_tuple, isi_f_tup_list, isi_f_lst_bool, isi_f_lst_int, isi_f_lst_str, isi_f_lst_tuple, isi_f_lst_list, xv_add_int, xv_add_lst, xv_add_tup, xv_add_str, xv_sub, xv_mul_int, xv_mul_lst, xv_fdiv, xv_mod, xv_pow, xv_neg, xv_lt, xv_le, xv_gt, xv_ge, xv_iadd, xv_eq_int, xv_eq_bl, xv_eq_str, xv_eq_nn, xv_eq_2017, xv_eq_2084, xv_eq_2151, xv_eq_2218, xv_eq_2285, xv_eq_2351, xv_eq_2417, xv_eq_2488, xv_eq_2559, xv_eq_2629, xv_eq_tup, xv_ne_int, xv_ne_bl, xv_ne_str, xv_ne_nn, xv_ne_3273, xv_ne_3339, xv_ne_3405, xv_ne_3471, xv_ne_3537, xv_ne_3602, xv_ne_3667, xv_ne_3737, xv_ne_3807, xv_ne_3876, xv_ne_tup, xv_is_non, xv_not_non, xv_is_bl, xv_not_bl, xv_is_int, xv_not_int, xv_is_str, xv_not_str, xv_is_tup, xv_not_tup, xv_is_lst, xv_not_lst, xv_is_obj, xv_not_obj, xv_is_bb, xv_not_bb, xv_items_lst, xv_items_tup, xv_items_scr, xv_ix, xv_in_tupi, xv_notIn_tupi, xv_in_tups, xv_notIn_tups, xv_in_lsti, xv_notIn_lsti, xv_in_lsts, xv_notIn_lsts, xv_repT, xv_len_lst, xv_len_tup, xv_len_scr, xv_len_str, xv_abs, xv_max2, xv_max3, xv_maxA, xv_min2, xv_min3, xv_minA, xv_int_int, xv_int_bl, xv_sort, xv_sumL, xv_allL, xv_anyL, xv_tuple, xv_list, xv_sl_lst, xv_sl_scr, xv_sl_tup, xv_rev, xv_revM, xv_fld, xv_asB, xv_asI, xv_dKeyS, xv_dKeyI, xv_rdX, xv_rdV, xv_rdVw, xv_rdVo, xv_rdW, xv_rdWw, xv_asL, xv_retV, xv_retVl, xv_retVn, xv_retO, xv_rtv, xv_rto, xv_then_nx, xv_then_rt, xv_then_bk, xv_then_ct, xv_asInts, xv_asIntsF, xv_asInts0, xv_asIntsC, xv_asBls, xv_asBlsF, xv_asBls0, xv_asBlsC, xv_at0, xv_at1, xv_at2, xv_at3, xv_at4, xv_at5, xv_at6, xv_at7, xv_at8, xv_ge0, xv_ge1, xv_ge2, xv_ge3, xv_ge4, xv_ge5, xv_ge6, xv_ge7, xv_ge8, xv_ge9, xv_ge10, xv_ge11, xv_ge12, l_some, l_int, l_bl, l_str, l_tup, l_lst, l_rt, l_nx, l_v, l_cons, l_then, l_retV, l_and, l_or, l_ft, l_ftp, l_same, l_dand, l_dor, gOk_if, if_sz, if_szl, if_15, Option.bind_some, Option.bind_none, Option.map_some, Option.map_none, List.nil_append, List.cons_append, List.append_nil, List.length_cons, List.length_nil, List.map_cons, List.map_nil, List.replicate_zero, List.replicate_succ, decide_eq_true_eq, Bool.not_eq_true', decide_eq_false_iff_not, Bool.not_true, Bool.not_false, Bool.and_eq_true, Bool.or_eq_true, if_true, if_false, Bool.false_eq_true, Bool.and_true, Bool.true_and, Bool.or_false, Bool.false_or, Bool.or_true, Bool.true_or, Bool.and_false, Bool.false_and, decide_true, decide_false, Nat.reduceAdd, Nat.reduceSub, List.all_cons, List.all_nil, List.any_cons, List.any_nil, Int.lt_irrefl, Int.le_refl, Int.sub_zero, Int.add_zero, Int.zero_add, true_and, and_true, false_and, and_false, and_self, or_self, or_true, true_or, or_false, false_or, not_true_eq_false, not_false_eq_true, Bool.true_eq_false, reduceCtorEq, eq_self, id_eq, List.sum_cons, List.sum_nil, ite_true, ite_false, reduceIte])
noncomputable section
def Ord (m : Str) : Prop := m = "any" ∨ m = "next" ∨ m = "wait"
def isAny (m : Str) : Bool := decide (m = "any")
def isNext (m : Str) : Bool := decide (m = "next")
def isWait (m : Str) : Bool := decide (m = "wait")
def stD (b : Int) (A : List Int) : D := .tup [.int b, .tup (A.map D.int)]
def word (m : Str) (w b : Int) (A : List Int) (x : Int) : Str :=
  if x < b ∨ (m = "any" ∧ x ∈ A) then "again" else if b + w ≤ x ∨ (m = "next" ∧ b < x) then "early" else if x = b ∨ m = "any" then "acts" else "held"
def F_outcome := runF N_outcome P_outcome f_outcome
theorem ev_outcome {m : Str} {w b : Int} {A : List Int} {x : Int} : F_outcome [.str m, .int w, stD b A, .int x] = some (.str (word m w b A x)) := by
  unfold F_outcome f_outcome stD word
  have e1 := @in_intsT A x
  by_cases h1 : x < b
  · walk_at "evh"
  by_cases h2 : m = "any"
  · by_cases h3 : x ∈ A
    · walk_at "evh"
    · by_cases h4 : b + w ≤ x
      · walk_at "evh"
      · by_cases h5 : m = "next" ∧ b < x
        · obtain ⟨h5, h6⟩ := h5
          rw [h2] at h5
          exact absurd h5 (by decide +kernel)
        · have h6 : ¬ (Str.ofString "any" = Str.ofString "next") := by decide +kernel
          subst h2
          by_cases h7 : x = b <;> walk_at "evh"
  · by_cases h4 : b + w ≤ x
    · walk_at "evh"
    · by_cases h5 : m = "next"
      · by_cases h6 : b < x
        · walk_at "evh"
        · have h7 : x = b := by omega
          walk_at "evh"
      · by_cases h7 : x = b <;> walk_at "evh"
/-! ### a state moved by a number -/
structure InvS (b : Int) (A : List Int) : Prop where
  b0 : 0 ≤ b
  b1 : b ≤ 100
  nd : A.Nodup
  bd : ∀ a ∈ A, b < a ∧ a < 100
theorem InvS.len {b : Int} {A : List Int} (h : InvS b A) : A.length ≤ 100 := by
  have := List.Nodup.length_le_of_subset h.nd (l₂ := iota 0 100) fun a ha => by
    have := h.bd a ha
    have := h.b0
    rw [mem_iota]; omega
  rwa [iota_length] at this
def Has (b : Int) (A : List Int) (y : Int) : Prop := y < b ∨ y ∈ A
def acc (m : Str) (w b x : Int) : Prop := x < b + w ∧ (m = "next" → x ≤ b)
theorem InvS.add {b : Int} {A : List Int} {x : Int} (h : InvS b A) (hx : b < x) (h1 : x < 100) (hn : x ∉ A) : InvS b (sortI (A ++ [x])) := by
  have hp := sortI_perm (A ++ [x])
  refine ⟨h.b0, h.b1, hp.nodup_iff.mpr ?_, fun a ha => ?_⟩
  · rw [List.nodup_append]
    refine ⟨h.nd, by simp, ?_⟩
    intro a ha c hc e
    rw [List.mem_singleton] at hc
    subst hc; subst e
    exact hn ha
  · rw [hp.mem_iff, List.mem_append, List.mem_singleton] at ha
    rcases ha with ha | rfl
    · exact h.bd a ha
    · exact ⟨hx, h1⟩
theorem has_add {b : Int} {A : List Int} {x y : Int} : Has b (sortI (A ++ [x])) y ↔ Has b A y ∨ y = x := by
  unfold Has
  rw [(sortI_perm (A ++ [x])).mem_iff, List.mem_append, List.mem_singleton]
  exact or_assoc.symm
def F_moved_by := runF N_moved_by P_moved_by (f_moved_by F_outcome)
theorem ne_an : ¬ (Str.ofString "any" = Str.ofString "next") := by decide +kernel
theorem ne_nw : ¬ (Str.ofString "next" = Str.ofString "any") := by decide +kernel
theorem ne_wa : ¬ (Str.ofString "wait" = Str.ofString "any") := by decide +kernel
theorem ne_wn : ¬ (Str.ofString "wait" = Str.ofString "next") := by decide +kernel
theorem wd1 : ¬ (Str.ofString "again" = Str.ofString "held") := by decide +kernel
theorem wd2 : ¬ (Str.ofString "again" = Str.ofString "acts") := by decide +kernel
theorem wd3 : ¬ (Str.ofString "early" = Str.ofString "held") := by decide +kernel
theorem wd4 : ¬ (Str.ofString "early" = Str.ofString "acts") := by decide +kernel
theorem wd5 : ¬ (Str.ofString "acts" = Str.ofString "held") := by decide +kernel
theorem wd6 : ¬ (Str.ofString "held" = Str.ofString "acts") := by decide +kernel
/-- what it gives: the state behind, and what acts -/
def Mvd (m : Str) (w b : Int) (A : List Int) (x : Int) (o : Option D) : Prop := ∃ b' A' R, o = some (.tup [stD b' A', R]) ∧ InvS b' A' ∧ ∀ y, Has b' A' y ↔ Has b A y ∨ (y = x ∧ acc m w b x)
theorem mv_same {m : Str} {w b : Int} {A : List Int} {x : Int} (I : InvS b A) (hw : word m w b A x = "again" ∨ word m w b A x = "early" ∨ (word m w b A x = "held" ∧ x ∈ A)) (h : acc m w b x → Has b A x) : Mvd m w b A x (F_moved_by [.str m, .int w, stD b A, .int x]) := by
  refine ⟨b, A, .tup [], ?_, I, fun y => ⟨.inl, fun q => ?_⟩⟩
  · have e1 := @ev_outcome m w b A x
    have h1 := wd1; have h2 := wd2; have h3 := wd3; have h4 := wd4
    unfold F_moved_by f_moved_by
    unfold stD at e1 ⊢
    have h5 := wd6
    rcases hw with hw | hw | ⟨hw, hA⟩ <;> rw [hw] at e1 <;> walk_at "evh"
  · rcases q with q | ⟨rfl, q⟩
    · exact q
    · exact h q
theorem mv_add {m : Str} {w b : Int} {A : List Int} {x : Int} (I : InvS b A) (hw : word m w b A x = "acts" ∨ word m w b A x = "held") (h : acc m w b x) (hb : b < x) (hx : x < 100) (hn : x ∉ A) : Mvd m w b A x (F_moved_by [.str m, .int w, stD b A, .int x]) := by
  refine ⟨b, sortI (A ++ [x]), ?_⟩
  have hl := I.len
  have e1 := @ev_outcome m w b A x
  have h5 := wd5; have h6 := wd6
  have e2 : A.map D.int ++ [D.int x] = (A ++ [x]).map D.int := by simp
  have e3 : (A.map D.int).length + 1 ≤ sizeLine := by rw [List.length_map, sizeLine_eq]; omega
  have fin : InvS b (sortI (A ++ [x])) ∧ ∀ y, Has b (sortI (A ++ [x])) y ↔ Has b A y ∨ (y = x ∧ acc m w b x) := ⟨I.add hb hx hn, fun y => by
    rw [has_add]
    exact ⟨fun q => q.imp id fun q => ⟨q, h⟩, fun q => q.imp id fun q => q.1⟩⟩
  rcases hw with hw | hw
  · refine ⟨.tup [.int x], ?_, fin⟩
    unfold F_moved_by f_moved_by
    unfold stD at e1 ⊢
    rw [hw] at e1
    walk_at "evh"
  · refine ⟨.tup [], ?_, fin⟩
    unfold F_moved_by f_moved_by
    unfold stD at e1 ⊢
    rw [hw] at e1
    walk_at "evh"
def Γm (m : Str) (w b : Int) (A : List Int) (x c : Int) (rn : List D) : FE := [some (.v (.str m)), some (.v (.int w)), some (.v (.tup [.int b, .tup (A.map D.int)])), some (.v (.int x)), some (.v (.str "acts")), some (.v (.int c)), some (.v (.tup (A.map D.int))), some (.o (.l rn)), none]
theorem mv_base {m : Str} {w b : Int} {A : List Int} (I : InvS b A) (h1 : b < 100) (hw : word m w b A b = "acts") (h : acc m w b b) : Mvd m w b A b (F_moved_by [.str m, .int w, stD b A, .int b]) := by
  have e1 := @ev_outcome m w b A b
  have h5 := wd5
  have hl := I.len
  obtain ⟨o, eo, c, rn, rfl, hc0, hc1, hcA, hcn, hrn⟩ := fWhile_dec (c := fTest (fOp fo_in (fVarV 5) (fVarV 6))) (b := fSeq (fIfS (fTest (fOp fo_eq (fVarV 0) (fC (.str "wait")))) (fApp 7 (fVarX 5)) fNext) (fAug 5 fo_iadd (fC (.int 1))))
    (fun k Γ => ∃ c rn, Γ = Γm m w b A b c rn ∧ b < c ∧ c ≤ 100 ∧ (k : Int) = 100 - c ∧ (∀ y, b < y → y < c → y ∈ A) ∧ (rn.length : Int) ≤ c) (fun o => ∃ c rn, o = .nx (Γm m w b A b c rn) ∧ b < c ∧ c ≤ 100 ∧ (∀ y, b < y → y < c → y ∈ A) ∧ c ∉ A ∧ (rn.length : Int) ≤ c)
    (m := (100 - (b + 1)).toNat) (Γ := Γm m w b A b (b + 1) [.int b]) ⟨_, _, rfl, by omega, by omega, by omega, fun y h1 h2 => by omega, by have := I.b0; simp; omega⟩ (by have := I.b0; omega) (by
    rintro k Γ ⟨c, rn, rfl, h0, h2, h3, h4, h6⟩
    refine ⟨decide (c ∈ A), ?_, ?_⟩
    · unfold Γm
      walk_at "ev"
    · by_cases hA : c ∈ A
      · rw [decide_eq_true hA, if_pos rfl]
        have hb := I.bd c hA
        have hz : rn.length < sizeLine := by rw [sizeLine_eq]; omega
        by_cases hm : m = "wait"
        · refine ⟨.nx (Γm m w b A b (c + 1) (rn ++ [.int c])), ?_, k - 1, by omega, _, _, rfl, by omega, by omega, by omega, fun y y0 y1 => ?_, by simp; omega⟩
          · unfold Γm
            walk_at "evh"
          · by_cases hy : y = c
            · rw [hy]; exact hA
            · exact h4 y y0 (by omega)
        · refine ⟨.nx (Γm m w b A b (c + 1) rn), ?_, k - 1, by omega, _, _, rfl, by omega, by omega, by omega, fun y y0 y1 => ?_, by omega⟩
          · unfold Γm
            walk_at "evh"
          · by_cases hy : y = c
            · rw [hy]; exact hA
            · exact h4 y y0 (by omega)
      · rw [decide_eq_false hA, if_neg Bool.false_ne_true]
        exact ⟨c, rn, rfl, h0, h2, h4, hA, h6⟩)
  refine ⟨c, A.filter fun a => decide (c < a), .tup rn, ?_, ⟨by have := I.b0; omega, hc1, I.nd.sublist List.filter_sublist, fun a ha => ?_⟩, fun y => ?_⟩
  · unfold F_moved_by f_moved_by
    unfold stD at e1 ⊢
    rw [hw] at e1
    unfold Γm at eo
    walk_at "evh"
    rw [fLc_eq A D.int (fun a => decide (c < a)) D.int]
    rotate_left
    · walk_at "ev"
    · rw [sizeLine_eq]; omega
    · intro a _
      exact ⟨_, rfl, by walk_at "ev", fun _ => by walk_at "ev"⟩
    walk_at "ev"
  · rw [List.mem_filter, decide_eq_true_eq] at ha
    exact ⟨ha.2, (I.bd a ha.1).2⟩
  · unfold Has
    rw [List.mem_filter, decide_eq_true_eq]
    constructor
    · rintro (hy | ⟨hy, _⟩)
      · by_cases h7 : y < b
        · exact .inl (.inl h7)
        · by_cases h8 : y = b
          · exact .inr ⟨h8, h⟩
          · exact .inl (.inr (hcA y (by omega) hy))
      · exact .inl (.inr hy)
    · rintro ((hy | hy) | ⟨rfl, _⟩)
      · exact .inl (by omega)
      · by_cases h7 : y < c
        · exact .inl h7
        · by_cases h8 : y = c
          · rw [h8] at hy; exact absurd hy hcn
          · exact .inr ⟨hy, by omega⟩
      · exact .inl hc0
theorem ev_moved_by {m : Str} {w b : Int} {A : List Int} {x : Int} (hm : Ord m) (hw : 1 ≤ w) (I : InvS b A) (x1 : x < 100) : Mvd m w b A x (F_moved_by [.str m, .int w, stD b A, .int x]) := by
  by_cases h1 : x < b
  · refine mv_same I (.inl ?_) fun _ => .inl h1
    unfold word; rw [if_pos (.inl h1)]
  by_cases hx : x = b
  · subst hx
    have hn : x ∉ A := fun z => by have := I.bd x z; omega
    refine mv_base I x1 ?_ ⟨by omega, fun _ => by omega⟩
    unfold word
    rw [if_neg (by rintro (z | ⟨_, z⟩); omega; exact hn z), if_neg (by rintro (z | ⟨_, z⟩) <;> omega), if_pos (.inl rfl)]
  by_cases h2 : b + w ≤ x
  · rcases Classical.em (m = "any" ∧ x ∈ A) with h3 | h3
    · refine mv_same I (.inl ?_) fun q => by unfold acc at q; omega
      unfold word; rw [if_pos (.inr h3)]
    · refine mv_same I (.inr (.inl ?_)) fun q => by unfold acc at q; omega
      unfold word; rw [if_neg (by rintro (z | z); exact h1 z; exact h3 z), if_pos (.inl h2)]
  by_cases h4 : x ∈ A
  · rcases hm with rfl | rfl | rfl
    · refine mv_same I (.inl ?_) fun _ => .inr h4
      unfold word; rw [if_pos (.inr ⟨rfl, h4⟩)]
    · refine mv_same I (.inr (.inl ?_)) fun _ => .inr h4
      unfold word; rw [if_neg (by rintro (z | ⟨z, _⟩); exact h1 z; exact ne_nw z), if_pos (.inr ⟨rfl, by omega⟩)]
    · refine mv_same I (.inr (.inr ⟨?_, h4⟩)) fun _ => .inr h4
      unfold word; rw [if_neg (by rintro (z | ⟨z, _⟩); exact h1 z; exact ne_wa z), if_neg (by rintro (z | ⟨z, _⟩); exact h2 z; exact ne_wn z), if_neg (by rintro (z | z); exact hx z; exact ne_wa z)]
  · rcases hm with rfl | rfl | rfl
    · refine mv_add I (.inl ?_) ⟨by omega, fun z => absurd z ne_an⟩ (by omega) x1 h4
      unfold word; rw [if_neg (by rintro (z | ⟨_, z⟩); exact h1 z; exact h4 z), if_neg (by rintro (z | ⟨z, _⟩); exact h2 z; exact ne_an z), if_pos (.inr rfl)]
    · refine mv_same I (.inr (.inl ?_)) fun q => by have := q.2 rfl; omega
      unfold word; rw [if_neg (by rintro (z | ⟨_, z⟩); exact h1 z; exact h4 z), if_pos (.inr ⟨rfl, by omega⟩)]
    · refine mv_add I (.inr ?_) ⟨by omega, fun z => absurd z ne_wn⟩ (by omega) x1 h4
      unfold word; rw [if_neg (by rintro (z | ⟨_, z⟩); exact h1 z; exact h4 z), if_neg (by rintro (z | ⟨z, _⟩); exact h2 z; exact ne_wn z), if_neg (by rintro (z | z); exact hx z; exact ne_wa z)]
/-! ### passes -/
structure RelS (n : Nat) (S : Set') (b : Int) (A : List Int) : Prop where
  inv : InvS b A
  mex : b = mexI n S
  has : ∀ y : Int, 0 ≤ y → y < n → (S y = true ↔ Has b A y)
  lt : ∀ y, Has b A y → y < n
theorem RelS.step {n : Nat} {S : Set'} {b b' : Int} {A A' : List Int} {m : Str} {w x : Int} (h : RelS n S b A) (hx0 : 0 ≤ x) (hx : x < n) (I : InvS b' A') (hh : ∀ y, Has b' A' y ↔ Has b A y ∨ (y = x ∧ acc m w b x)) : RelS n (stepI n (isNext m) w S x) b' A' := by
  have hacc : accI n (isNext m) w S x = true ↔ acc m w b x := by
    rw [acc_iff, ← h.mex]
    unfold acc isNext
    rw [decide_eq_true_eq]
  have hS : ∀ y : Int, 0 ≤ y → y < n → (stepI n (isNext m) w S x y = true ↔ Has b' A' y) := by
    intro y y0 y1
    rw [hh, ← h.has y y0 y1]
    unfold stepI
    by_cases ha : accI n (isNext m) w S x = true
    · rw [if_pos ha, Bool.or_eq_true, decide_eq_true_eq]
      have := hacc.mp ha
      exact ⟨fun q => q.imp id fun q => ⟨q, this⟩, fun q => q.imp id fun q => q.1⟩
    · rw [if_neg ha]
      have : ¬ acc m w b x := fun q => ha (hacc.mpr q)
      exact ⟨.inl, fun q => q.elim id fun q => absurd q.2 this⟩
  have hlt : ∀ y, Has b' A' y → y < n := fun y q => by
    rcases (hh y).mp q with q | ⟨rfl, _⟩
    · exact h.lt y q
    · exact hx
  have hbn : b' ≤ n := by
    have := hlt (b' - 1) (.inl (by omega))
    omega
  refine ⟨I, (mex_eq I.b0 hbn (fun y y0 y1 => (hS y y0 (by omega)).mpr (.inl y1)) fun hb => ?_).symm, hS, hlt⟩
  cases hc : stepI n (isNext m) w S x b' with
  | false => rfl
  | true =>
    rcases (hS b' I.b0 hb).mp hc with q | q
    · omega
    · have := I.bd b' q; omega
def F_passes := runF N_passes P_passes (f_passes F_moved_by)
theorem cnt_end {n : Nat} {nx : Bool} {w : Int} {row : List Int} {S : Set'} (h : ¬ mexI n S < n) : ∀ k, cntI n nx w row k S = 0
  | 0 => rfl
  | k + 1 => by unfold cntI; rw [if_neg h]
theorem ev_passes {n : Nat} {m : Str} {w : Int} {row : List Int} (hm : Ord m) (hw : 1 ≤ w) (hr : RowOk n row) (hn : n ≤ 30) : F_passes [.str m, .int w, .tup (row.map D.int)] = some (.int (timesI n (isNext m) w row)) := by
  unfold F_passes f_passes
  have hlen := hr.len
  walk_at "ev"
  obtain ⟨o, eo, b, A, o5, rfl⟩ := fWhile_dec (c := fTest (fOp fo_lt (fOp fo_ix (fVarV 3) (fC (.int 0))) (fCB fo_len (fCons (fVarV 2) fNil)))) (b := fSeq (fAug 4 fo_iadd (fC (.int 1)))
    (fFor (fiAny (fVarW 2)) (fgName 5)
    (fAsg (fOp fo_ix (fCall F_moved_by [] (fCons (fVarV 0) (fCons (fVarV 1) (fCons (fVarV 3) (fCons (fVarV 5) fNil))))) (fC (.int 0))) (fgName 3))))
    (fun k Γ => ∃ b A S j o5, Γ = [some (.v (.str m)), some (.v (.int w)), some (.v (.tup (row.map D.int))), some (.v (stD b A)), some (.v (.int j)), o5] ∧ RelS n S b A ∧ n - b ≤ k ∧ j + cntI n (isNext m) w row k S = timesI n (isNext m) w row)
    (fun o => ∃ b A o5, o = .nx [some (.v (.str m)), some (.v (.int w)), some (.v (.tup (row.map D.int))), some (.v (stD b A)), some (.v (.int (timesI n (isNext m) w row))), o5])
    (m := n) (Γ := [some (.v (.str m)), some (.v (.int w)), some (.v (.tup (row.map D.int))), some (.v (stD 0 [])), some (.v (.int 0)), none])
    ⟨0, [], noneI, 0, none, rfl, ⟨⟨by omega, by omega, by simp, by simp⟩, (mex_eq (by omega) (by omega) (fun y h0 h1 => by omega) (fun _ => rfl)).symm, fun y y0 _ => ⟨fun q => (by cases q), fun q => (by rcases q with q | q; omega; cases q)⟩, fun y q => (by rcases q with q | q; omega; cases q)⟩, by omega, by unfold timesI; omega⟩ (by omega) (by
    rintro k Γ ⟨b, A, S, j, o5, rfl, hS, hk, hj⟩
    refine ⟨decide (b < n), ?_, ?_⟩
    · unfold stD
      have : ((row.map D.int).length : Int) = n := by rw [List.length_map, hlen]
      walk_at "evh"
    · by_cases hb : b < n
      · rw [decide_eq_true hb, if_pos rfl]
        have key := forF_fold (g := fgName 5) (b := (fAsg (fOp fo_ix (fCall F_moved_by [] (fCons (fVarV 0) (fCons (fVarV 1) (fCons (fVarV 3) (fCons (fVarV 5) fNil))))) (fC (.int 0))) (fgName 3))) (enc := D.int)
          (fun S Γ => ∃ b A o5, Γ = [some (.v (.str m)), some (.v (.int w)), some (.v (.tup (row.map D.int))), some (.v (stD b A)), some (.v (.int (j + 1))), o5] ∧ RelS n S b A) (stepI n (isNext m) w) row S [some (.v (.str m)), some (.v (.int w)), some (.v (.tup (row.map D.int))), some (.v (stD b A)), some (.v (.int (j + 1))), o5] ⟨b, A, o5, rfl, hS⟩ (by
          rintro x hx S Γ ⟨b, A, o5, rfl, hS⟩
          have hx' := hr.mem.mp hx
          obtain ⟨b', A', R, e, I, hh⟩ := ev_moved_by hm hw hS.inv (x := x) (by omega)
          refine ⟨_, rfl, _, by walk_at "evh"; rfl, ?_⟩
          exact ⟨b', A', _, rfl, hS.step hx'.1 hx'.2 I hh⟩)
        obtain ⟨Γ', e, b', A', o5', rfl, hS'⟩ := key
        refine ⟨.nx [some (.v (.str m)), some (.v (.int w)), some (.v (.tup (row.map D.int))), some (.v (stD b' A')), some (.v (.int (j + 1))), o5'], by walk_at "evh", ?_⟩
        have hg := pass_grows (nx := isNext m) hw hr (S := S) (by rw [← hS.mex]; exact hb)
        have h2 : b' = mexI n (passI n (isNext m) w row S) := hS'.mex
        have h3 := hS.mex
        refine ⟨k - 1, by omega, b', A', _, j + 1, o5', rfl, hS', by omega, ?_⟩
        obtain ⟨k', rfl⟩ : ∃ k', k = k' + 1 := ⟨k - 1, by omega⟩
        unfold cntI at hj
        rw [if_pos (by omega)] at hj
        have : passI n (isNext m) w row S = row.foldl (stepI n (isNext m) w) S := rfl
        rw [this] at hj
        rw [Nat.add_sub_cancel]
        omega
      · rw [decide_eq_false hb, if_neg Bool.false_ne_true]
        rw [cnt_end (by rw [← hS.mex]; exact hb)] at hj
        exact ⟨b, A, o5, by rw [← hj]; simp⟩)
  unfold stD at eo
  rw [List.map_nil] at eo
  walk_at "evh"
end
end K54

set_option Elab.async false
set_option linter.all false
set_option maxRecDepth 100000
set_option maxHeartbeats 4000000
namespace K54
open PySem PySem.Spec PyProof.Rows L2 DL
local macro_rules | `(tactic| walk_at "evh") => `(tactic| simp (maxSteps := 3000000) (implicitDefEqProofs := false) (disch := first | assumption | decide | ((try simp only [List.length_cons, List.length_nil, List.length_append, List.length_map, iota_length, sizeLine_eq, RgOk]); omega)) only [*, ↓in_intsT, ↓in_intsL, ↓notIn_intsT, ↓notIn_intsL, ap_fTest, ap_fAnd, ap_fOr, ap_fNot, ap_fAndV, ap_fOrV, ap_fNotV, ap_fIf, ap_fChain, ap_fYes, ap_fNoPart, ap_fPart, ap_fSl, ap_fRev, ap_fRevM, ap_fListM, ap_fSortM, ap_fFld, ap_fTupRg1, ap_fTupRg2, ap_fLstRg1, ap_fLstRg2, ap_fIsi2, ap_fVarX, ap_fVarV, ap_fVarW, ap_fC, ap_fOV, ap_fOp, ap_fUn, ap_fCB, ap_fNil, ap_fCons, ap_fTup, ap_fLst, ap_fLstM, ap_fCall, ap_fCallN, ap_fMake, ap_fNext, ap_fBreak, ap_fCont, ap_fSeq, ap_fDrop, ap_fRet, ap_fRetO, ap_fRetVar, ap_fRetN, ap_fIfS, ap_fNever, ap_fAsg, ap_fAsgO, ap_fAug, ap_fMNil, ap_fMX, ap_fMO, ap_fPar, ap_fTupM, ap_fApp, ap_fPutK, ap_fPutL, ap_fGetK, ap_fInK, ap_fNotInK, ap_fLenK, ap_fListK, ap_fDicNew, ap_fDisp, ap_fIndex, ap_fgName, ap_fgNil, ap_fgCons, ap_fgTup, ap_fiAny, ap_fiEnum, ap_fiZip, ap_fFor, ap_fLcM, xv_mx1, xv_mx2, xv_mx3, xv_mx4, xv_mn1, xv_mn2, xv_mn3, xv_mn4, xv_ne_nil, xv_eq_nil, xv_forN, xv_forC, xv_forK1, xv_forK2, xv_forK3, xv_forK4, l_forK, xv_lcN, xv_lcC, xv_zip0, xv_zipC, enumD_0, enumD_1, enumD_2, enumD_3, enumD_4, enumD_5, ap_fiRng1, ap_fiRng2, xv_rng1, xv_rng2, lookL, lookK, fPairs, setManyF, wipeF, runF, runO, startF, toW, lk_0, st_0, lk_1, st_1, lk_2, st_2, lk_3, st_3, lk_4, st_4, lk_5, st_5, lk_6, st_6, lk_7, st_7, lk_8, st_8, lk_9, st_9, lk_10, st_10, lk_11, st_11, lk_12, st_12, lk_13, st_13, lk_14, st_14, lk_15, st_15, lk_16, st_16, lk_17, st_17, lk_18, st_18, lk_19, st_19, lk_20, st_20, lk_21, st_21, lk_22, st_22, lk_23, st_23, lk_24, st_24, lk_25, st_25, lk_26, st_26, lk_27, st_27, lk_28, st_28, lk_29, st_29, lk_30, st_30, lk_31, st_31, lk_32, st_32, lk_33, st_33, lk_34, st_34, lk_35, st_35, lk_36, st_36, lk_37, st_37, lk_38, st_38, lk_39, st_39, lk_40, st_40, isi_f_non_bool, isi_f_non_int, isi_f_non_str, isi_f_non_tuple, isi_f_non_list, isi_f_bl_bool, isi_f_bl_int, isi_f_bl_str, isi_f_bl_tuple, isi_f_bl_list, isi_f_int_bool, isi_f_int_int, isi_f_int_str, isi_f_int_tuple, isi_f_int_list, isi_f_str_bool, isi_f_str_int, isi_f_str_str, isi_f_str_tuple, isi_f_str_list, isi_f_tup_bool, isi_f_tup_int, isi_f_tup_str, isi_f_tup_tuple, isi_f_tup_list, isi_f_lst_bool, isi_f_lst_int, isi_f_lst_str, isi_f_lst_tuple, isi_f_lst_list, xv_add_int, xv_add_lst, xv_add_tup, xv_add_str, xv_sub, xv_mul_int, xv_mul_lst, xv_fdiv, xv_mod, xv_pow, xv_neg, xv_lt, xv_le, xv_gt, xv_ge, xv_iadd, xv_eq_int, xv_eq_bl, xv_eq_str, xv_eq_nn, xv_eq_2017, xv_eq_2084, xv_eq_2151, xv_eq_2218, xv_eq_2285, xv_eq_2351, xv_eq_2417, xv_eq_2488, xv_eq_2559, xv_eq_2629, xv_eq_tup, xv_ne_int, xv_ne_bl, xv_ne_str, xv_ne_nn, xv_ne_3273, xv_ne_3339, xv_ne_3405, xv_ne_3471, xv_ne_3537, xv_ne_3602, xv_ne_3667, xv_ne_3737, xv_ne_3807, xv_ne_3876, xv_ne_tup, xv_is_non, xv_not_non, xv_is_bl, xv_not_bl, xv_is_int, xv_not_int, xv_is_str, xv_not_str, xv_is_tup, xv_not_tup, xv_is_lst, xv_not_lst, xv_is_obj, xv_not_obj, xv_is_bb, xv_not_bb, xv_items_lst, xv_items_tup, xv_items_scr, xv_ix, xv_in_tupi, xv_notIn_tupi, xv_in_tups, xv_notIn_tups, xv_in_lsti, xv_notIn_lsti, xv_in_lsts, xv_notIn_lsts, xv_repT, xv_len_lst, xv_len_tup, xv_len_scr, xv_len_str, xv_abs, xv_max2, xv_max3, xv_maxA, xv_min2, xv_min3, xv_minA, xv_int_int, xv_int_bl, xv_sort, xv_sumL, xv_allL, xv_anyL, xv_tuple, xv_list, xv_sl_lst, xv_sl_scr, xv_sl_tup, xv_rev, xv_revM, xv_fld, xv_asB, xv_asI, xv_dKeyS, xv_dKeyI, xv_rdX, xv_rdV, xv_rdVw, xv_rdVo, xv_rdW, xv_rdWw, xv_asL, xv_retV, xv_retVl, xv_retVn, xv_retO, xv_rtv, xv_rto, xv_then_nx, xv_then_rt, xv_then_bk, xv_then_ct, xv_asInts, xv_asIntsF, xv_asInts0, xv_asIntsC, xv_asBls, xv_asBlsF, xv_asBls0, xv_asBlsC, xv_at0, xv_at1, xv_at2, xv_at3, xv_at4, xv_at5, xv_at6, xv_at7, xv_at8, xv_ge0, xv_ge1, xv_ge2, xv_ge3, xv_ge4, xv_ge5, xv_ge6, xv_ge7, xv_ge8, xv_ge9, xv_ge10, xv_ge11, xv_ge12, l_some, l_int, l_bl, l_str, l_tup, l_lst, l_rt, l_nx, l_v, l_cons, l_then, l_retV, l_and, l_or, l_ft, l_ftp, l_same, l_dand, l_dor, gOk_if, if_sz, if_szl, if_15, Option.bind_some, Option.bind_none, Option.map_some, Option.map_none, List.nil_append, List.cons_append, List.append_nil, List.length_cons, List.length_nil, List.map_cons, List.map_nil, List.replicate_zero, List.replicate_succ, decide_eq_true_eq, Bool.not_eq_true', decide_eq_false_iff_not, Bool.not_true, Bool.not_false, Bool.and_eq_true, Bool.or_eq_true, if_true, if_false, Bool.false_eq_true, Bool.and_true, Bool.true_and, Bool.or_false, Bool.false_or, Bool.or_true, Bool.true_or, Bool.and_false, Bool.false_and, decide_true, decide_false, Nat.reduceAdd, Nat.reduceSub, List.all_cons, List.all_nil, List.any_cons, List.any_nil, Int.lt_irrefl, Int.le_refl, Int.sub_zero, Int.add_zero, Int.zero_add, true_and, and_true, false_and, and_false, and_self, or_self, or_true, true_or, or_false, false_or, not_true_eq_false, not_false_eq_true, Bool.true_eq_false, reduceCtorEq, eq_self, id_eq, List.sum_cons, List.sum_nil, ite_true, ite_false, reduceIte])
local macro_rules | `(tactic| walk_at "ev") => `(tactic| simp (maxSteps := 3000000) (implicitDefEqProofs := false) (disch := first | assumption | decide | ((try simp only [List.length_cons, List.length_nil, List.length_append, List.length_map, iota_length, sizeLine_eq, RgOk]); omega)) only [↓in_intsT, ↓in_intsL, ↓notIn_intsT, ↓notIn_intsL, ap_fTest, ap_fAnd, ap_fOr, ap_fNot, ap_fAndV, ap_fOrV, ap_fNotV, ap_fIf, ap_fChain, ap_fYes, ap_fNoPart, ap_fPart, ap_fSl, ap_fRev, ap_fRevM, ap_fListM, ap_fSortM, ap_fFld, ap_fTupRg1, ap_fTupRg2, ap_fLstRg1, ap_fLstRg2, ap_fIsi2, ap_fVarX, ap_fVarV, ap_fVarW, ap_fC, ap_fOV, ap_fOp, ap_fUn, ap_fCB, ap_fNil, ap_fCons, ap_fTup, ap_fLst, ap_fLstM, ap_fCall, ap_fCallN, ap_fMake, ap_fNext, ap_fBreak, ap_fCont, ap_fSeq, ap_fDrop, ap_fRet, ap_fRetO, ap_fRetVar, ap_fRetN, ap_fIfS, ap_fNever, ap_fAsg, ap_fAsgO, ap_fAug, ap_fMNil, ap_fMX, ap_fMO, ap_fPar, ap_fTupM, ap_fApp, ap_fPutK, ap_fPutL, ap_fGetK, ap_fInK, ap_fNotInK, ap_fLenK, ap_fListK, ap_fDicNew, ap_fDisp, ap_fIndex, ap_fgName, ap_fgNil, ap_fgCons, ap_fgTup, ap_fiAny, ap_fiEnum, ap_fiZip, ap_fFor, ap_fLcM, xv_mx1, xv_mx2, xv_mx3, xv_mx4, xv_mn1, xv_mn2, xv_mn3, xv_mn4, xv_ne_nil, xv_eq_nil, xv_forN, xv_forC, xv_forK1, xv_forK2, xv_forK3, xv_forK4, l_forK, xv_lcN, xv_lcC, xv_zip0, xv_zipC, enumD_0, enumD_1, enumD_2, enumD_3, enumD_4, enumD_5, ap_fiRng1, ap_fiRng2, xv_rng1, xv_rng2, lookL, lookK, fPairs, setManyF, wipeF, runF, runO, startF, toW, lk_0, st_0, lk_1, st_1, lk_2, st_2, lk_3, st_3, lk_4, st_4, lk_5, st_5, lk_6, st_6, lk_7, st_7, lk_8, st_8, lk_9, st_9, lk_10, st_10, lk_11, st_11, lk_12, st_12, lk_13, st_13, lk_14, st_14, lk_15, st_15, lk_16, st_16, lk_17, st_17, lk_18, st_18, lk_19, st_19, lk_20, st_20, lk_21, st_21, lk_22, st_22, lk_23, st_23, lk_24, st_24, lk_25, st_25, lk_26, st_26, lk_27, st_27, lk_28, st_28, lk_29, st_29, lk_30, st_30, lk_31, st_31, lk_32, st_32, lk_33, st_33, lk_34, st_34, lk_35, st_35, lk_36, st_36, lk_37, st_37, lk_38, st_38, lk_39, st_39, lk_40, st_40, isi_f_non_bool, isi_f_non_int, isi_f_non_str, isi_f_non_tuple, isi_f_non_list, isi_f_bl_bool, isi_f_bl_int, isi_f_bl_str, isi_f_bl_tuple, isi_f_bl_list, isi_f_int_bool, isi_f_int_int, isi_f_int_str, isi_f_int_tuple, isi_f_int_list, isi_f_str_bool, isi_f_str_int, isi_f_str_str, isi_f_str_tuple, isi_f_str_list, isi_f_tup_bool, isi_f_tup_int, isi_f_tup_str, isi_f_tup_tuple, isi_f_tup_list, isi_f_lst_bool, isi_f_lst_int, isi_f_lst_str, isi_f_lst_tuple, isi_f_lst_list, xv_add_int, xv_add_lst, xv_add_tup, xv_add_str, xv_sub, xv_mul_int, xv_mul_lst, xv_fdiv, xv_mod, xv_pow, xv_neg, xv_lt, xv_le, xv_gt, xv_ge, xv_iadd, xv_eq_int, xv_eq_bl, xv_eq_str, xv_eq_nn, xv_eq_2017, xv_eq_2084, xv_eq_2151, xv_eq_2218, xv_eq_2285, xv_eq_2351, xv_eq_2417, xv_eq_2488, xv_eq_2559, xv_eq_2629, xv_eq_tup, xv_ne_int, xv_ne_bl, xv_ne_str, xv_ne_nn, xv_ne_3273, xv_ne_3339, xv_ne_3405, xv_ne_3471, xv_ne_3537, xv_ne_3602, xv_ne_3667, xv_ne_3737, xv_ne_3807, xv_ne_3876, xv_ne_tup, xv_is_non, xv_not_non, xv_is_bl, xv_not_bl, xv_is_int, xv_not_int, xv_is_str, xv_not_str, xv_is_tup, xv_not_tup, xv_is_lst, xv_not_lst, xv_is_obj, xv_not_obj, xv_is_bb, xv_not_bb, xv_items_lst, xv_items_tup, xv_items_scr, xv_ix, xv_in_tupi, xv_notIn_tupi, xv_in_tups, xv_notIn_tups, xv_in_lsti, xv_notIn_lsti, xv_in_lsts, xv_notIn_lsts, xv_repT, xv_len_lst, xv_len_tup, xv_len_scr, xv_len_str, xv_abs, xv_max2, xv_max3, xv_maxA, xv_min2, xv_min3, xv_minA, xv_int_int, xv_int_bl, xv_sort, xv_sumL, xv_allL, xv_anyL, xv_tuple, xv_list, xv_sl_lst, xv_sl_scr, xv_sl_tup, xv_rev, xv_revM, xv_fld, xv_asB, xv_asI, xv_dKeyS, xv_dKeyI, xv_rdX, xv_rdV, xv_rdVw, xv_rdVo, xv_rdW, xv_rdWw, xv_asL, xv_retV, xv_retVl, xv_retVn, xv_retO, xv_rtv, xv_rto, xv_then_nx, xv_then_rt, xv_then_bk, xv_then_ct, xv_asInts, xv_asIntsF, xv_asInts0, xv_asIntsC, xv_asBls, xv_asBlsF, xv_asBls0, xv_asBlsC, xv_at0, xv_at1, xv_at2, xv_at3, xv_at4, xv_at5, xv_at6, xv_at7, xv_at8, xv_ge0, xv_ge1, xv_ge2, xv_ge3, xv_ge4, xv_ge5, xv_ge6, xv_ge7, xv_ge8, xv_ge9, xv_ge10, xv_ge11, xv_ge12, l_some, l_int, l_bl, l_str, l_tup, l_lst, l_rt, l_nx, l_v, l_cons, l_then, l_retV, l_and, l_or, l_ft, l_ftp, l_same, l_dand, l_dor, gOk_if, if_sz, if_szl, if_15, Option.bind_some, Option.bind_none, Option.map_some, Option.map_none, List.nil_append, List.cons_append, List.append_nil, List.length_cons, List.length_nil, List.map_cons, List.map_nil, List.replicate_zero, List.replicate_succ, decide_eq_true_eq, Bool.not_eq_true', decide_eq_false_iff_not, Bool.not_true, Bool.not_false, Bool.and_eq_true, Bool.or_eq_true, if_true, if_false, Bool.false_eq_true, Bool.and_true, Bool.true_and, Bool.or_false, Bool.false_or, Bool.or_true, Bool.true_or, Bool.and_false, Bool.false_and, decide_true, decide_false, Nat.reduceAdd, Nat.reduceSub, List.all_cons, List.all_nil, List.any_cons, List.any_nil, Int.lt_irrefl, Int.le_refl, Int.sub_zero, Int.add_zero, Int.zero_add, true_and, and_true, false_and, and_false, and_self, or_self, or_true, true_or, or_false, false_or, not_true_eq_false, not_false_eq_true, Bool.true_eq_false, reduceCtorEq, eq_self, id_eq, List.sum_cons, List.sum_nil, ite_true, ite_false, reduceIte])
noncomputable section
/-! ### dicts by their keys -/
abbrev Kvs := List (Key × D)
def hasK (kvs : Kvs) (y : Int) : Bool := (valD kvs (.inl y)).isSome
theorem valD_put {kvs : Kvs} {k j : Key} {d : D} : valD (putD kvs k d) j = if j = k then some d else valD kvs j := by
  unfold putD valD
  by_cases h : (kvs.any fun kv => decide (kv.1 = k)) = true
  · rw [if_pos h]
    rw [List.any_eq_true] at h
    obtain ⟨⟨k1, d1⟩, hm, hk⟩ := h
    rw [decide_eq_true_eq] at hk
    have hk : k1 = k := hk
    subst hk
    induction kvs with
    | nil => cases hm
    | cons a kvs ih =>
      rw [List.map_cons, List.find?_cons, List.find?_cons]
      by_cases ha : a.1 = k1
      · rw [if_pos ha]
        by_cases hj : j = k1
        · subst hj
          simp [ha]
        · have e1 : (decide (a.1 = j)) = false := by rw [ha]; simp; exact fun z => hj z.symm
          rw [if_neg hj]
          simp only [e1]
          -- what stands behind
          clear ih hm
          induction kvs with
          | nil => rfl
          | cons c kvs ih2 =>
            rw [List.map_cons, List.find?_cons, List.find?_cons]
            by_cases hc : c.1 = k1
            · have e2 : (decide (c.1 = j)) = false := by rw [hc]; simp; exact fun z => hj z.symm
              rw [if_pos hc]
              simp only [e2]
              exact ih2
            · rw [if_neg hc]
              by_cases hcj : c.1 = j
              · simp [hcj]
              · simp only [decide_eq_false hcj]
                exact ih2
      · rw [if_neg ha]
        rcases List.mem_cons.mp hm with rfl | hm
        · exact absurd rfl ha
        · have ih := ih hm
          by_cases haj : a.1 = j
          · have : ¬ j = k1 := fun z => ha (haj.trans z)
            rw [if_neg this]
            simp [haj]
          · simp only [decide_eq_false haj]
            exact ih
  · rw [if_neg h, List.find?_append]
    rw [Bool.not_eq_true, List.any_eq_false] at h
    by_cases hj : j = k
    · subst hj
      rw [if_pos rfl]
      have : kvs.find? (fun kv => decide (kv.1 = j)) = none := by
        rw [List.find?_eq_none]
        intro x hx
        exact h x hx
      rw [this]
      simp
    · rw [if_neg hj]
      have : ¬ k = j := fun z => hj z.symm
      simp [this]
theorem hasK_put {kvs : Kvs} {x y : Int} {d : D} : hasK (putD kvs (.inl x) d) y = true ↔ hasK kvs y = true ∨ y = x := by
  unfold hasK
  rw [valD_put]
  by_cases h : y = x
  · subst h
    simp
  · have : ¬ ((.inl y : Key) = .inl x) := fun z => h (by cases z; rfl)
    rw [if_neg this]
    simp [h]
theorem hasK_nil {y : Int} : hasK [] y = false := rfl
structure KOk (kvs : Kvs) : Prop where
  nd : (kvs.map (·.1)).Nodup
  bd : ∀ k ∈ kvs.map (·.1), k ∈ (iota 0 100).map (Sum.inl : Int → Key)
theorem KOk.len {kvs : Kvs} (h : KOk kvs) : kvs.length ≤ 100 := by
  have := List.Nodup.length_le_of_subset h.nd (l₂ := (iota 0 100).map (Sum.inl : Int → Key)) fun k hk => h.bd k hk
  rwa [List.length_map, List.length_map, iota_length] at this
theorem KOk.nil : KOk [] := ⟨by simp, by simp⟩
theorem KOk.put {kvs : Kvs} {x : Int} {d : D} (h : KOk kvs) (x0 : 0 ≤ x) (x1 : x < 100) : KOk (putD kvs (.inl x) d) := by
  unfold putD
  split
  · have e : (kvs.map fun kv => if kv.1 = (.inl x : Key) then (kv.1, d) else kv).map (·.1) = kvs.map (·.1) := by
      rw [List.map_map]
      apply List.map_congr_left
      intro kv _
      simp only [Function.comp]
      split <;> rfl
    exact ⟨by rw [e]; exact h.nd, by rw [e]; exact h.bd⟩
  · rename_i hn
    rw [Bool.not_eq_true, List.any_eq_false] at hn
    refine ⟨?_, fun k hk => ?_⟩
    · rw [List.map_append, List.nodup_append]
      refine ⟨h.nd, by simp, ?_⟩
      intro a ha b hb e
      simp only [List.map_cons, List.map_nil, List.mem_singleton] at hb
      subst hb; subst e
      obtain ⟨kv, hkv, e⟩ := List.mem_map.mp ha
      have := hn kv hkv
      rw [decide_eq_true_eq] at this
      exact this e
    · rw [List.map_append, List.mem_append] at hk
      rcases hk with hk | hk
      · exact h.bd k hk
      · simp only [List.map_cons, List.map_nil, List.mem_singleton] at hk
        subst hk
        exact List.mem_map.mpr ⟨x, by rw [mem_iota]; omega, rfl⟩
end
end K54

set_option Elab.async false
set_option linter.all false
set_option maxRecDepth 100000
set_option maxHeartbeats 4000000
namespace K54
open PySem PySem.Spec PyProof.Rows L2 DL
local macro_rules | `(tactic| walk_at "evh") => `(tactic| simp (maxSteps := 3000000) (implicitDefEqProofs := false) (disch := first | assumption | decide | ((try simp only [List.length_cons, List.length_nil, List.length_append, List.length_map, iota_length, sizeLine_eq, RgOk]); omega)) only [*, ↓in_intsT, ↓in_intsL, ↓notIn_intsT, ↓notIn_intsL, ap_fTest, ap_fAnd, ap_fOr, ap_fNot, ap_fAndV, ap_fOrV, ap_fNotV, ap_fIf, ap_fChain, ap_fYes, ap_fNoPart, ap_fPart, ap_fSl, ap_fRev, ap_fRevM, ap_fListM, ap_fSortM, ap_fFld, ap_fTupRg1, ap_fTupRg2, ap_fLstRg1, ap_fLstRg2, ap_fIsi2, ap_fVarX, ap_fVarV, ap_fVarW, ap_fC, ap_fOV, ap_fOp, ap_fUn, ap_fCB, ap_fNil, ap_fCons, ap_fTup, ap_fLst, ap_fLstM, ap_fCall, ap_fCallN, ap_fMake, ap_fNext, ap_fBreak, ap_fCont, ap_fSeq, ap_fDrop, ap_fRet, ap_fRetO, ap_fRetVar, ap_fRetN, ap_fIfS, ap_fNever, ap_fAsg, ap_fAsgO, ap_fAug, ap_fMNil, ap_fMX, ap_fMO, ap_fPar, ap_fTupM, ap_fApp, ap_fPutK, ap_fPutL, ap_fGetK, ap_fInK, ap_fNotInK, ap_fLenK, ap_fListK, ap_fDicNew, ap_fDisp, ap_fIndex, ap_fgName, ap_fgNil, ap_fgCons, ap_fgTup, ap_fiAny, ap_fiEnum, ap_fiZip, ap_fFor, ap_fLcM, xv_mx1, xv_mx2, xv_mx3, xv_mx4, xv_mn1, xv_mn2, xv_mn3, xv_mn4, xv_ne_nil, xv_eq_nil, xv_forN, xv_forC, xv_forK1, xv_forK2, xv_forK3, xv_forK4, l_forK, xv_lcN, xv_lcC, xv_zip0, xv_zipC, enumD_0, enumD_1, enumD_2, enumD_3, enumD_4, enumD_5, ap_fiRng1, ap_fiRng2, xv_rng1, xv_rng2, lookL, lookK, fPairs, setManyF, wipeF, runF, runO, startF, toW, lk_0, st_0, lk_1, st_1, lk_2, st_2, lk_3, st_3, lk_4, st_4, lk_5, st_5, lk_6, st_6, lk_7, st_7, lk_8, st_8, lk_9, st_9, lk_10, st_10, lk_11, st_11, lk_12, st_12, lk_13, st_13, lk_14, st_14, lk_15, st_15, lk_16, st_16, lk_17, st_17, lk_18, st_18, lk_19, st_19, lk_20, st_20, lk_21, st_21, lk_22, st_22, lk_23, st_23, lk_24, st_24, lk_25, st_25, lk_26, st_26, lk_27, st_27, lk_28, st_28, lk_29, st_29, lk_30, st_30, lk_31, st_31, lk_32, st_32, lk_33, st_33, lk_34, st_34, lk_35, st_35, lk_36, st_36, lk_37, st_37, lk_38, st_38, lk_39, st_39, lk_40, st_40, isi_f_non_bool, isi_f_non_int, isi_f_non_str, isi_f_non_tuple, isi_f_non_list, isi_f_bl_bool, isi_f_bl_int, isi_f_bl_str, isi_f_bl_tuple, isi_f_bl_list, isi_f_int_bool, isi_f_int_int, isi_f_int_str, isi_f_int_tuple, isi_f_int_list, isi_f_str_bool, isi_f_str_int, isi_f_str_str, isi_f_str_tuple, isi_f_str_list, isi_f_tup_bool, isi_f_tup_int, isi_f_tup_str, isi_f_tup_tuple, isi_f_tup_list, isi_f_lst_bool, isi_f_lst_int, isi_f_lst_str, isi_f_lst_tuple, isi_f_lst_list, xv_add_int, xv_add_lst, xv_add_tup, xv_add_str, xv_sub, xv_mul_int, xv_mul_lst, xv_fdiv, xv_mod, xv_pow, xv_neg, xv_lt, xv_le, xv_gt, xv_ge, xv_iadd, xv_eq_int, xv_eq_bl, xv_eq_str, xv_eq_nn, xv_eq_2017, xv_eq_2084, xv_eq_2151, xv_eq_2218, xv_eq_2285, xv_eq_2351, xv_eq_2417, xv_eq_2488, xv_eq_2559, xv_eq_2629, xv_eq_tup, xv_ne_int, xv_ne_bl, xv_ne_str, xv_ne_nn, xv_ne_3273, xv_ne_3339, xv_ne_3405, xv_ne_3471, xv_ne_3537, xv_ne_3602, xv_ne_3667, xv_ne_3737, xv_ne_3807, xv_ne_3876, xv_ne_tup, xv_is_non, xv_not_non, xv_is_bl, xv_not_bl, xv_is_int, xv_not_int, xv_is_str, xv_not_str, xv_is_tup, xv_not_tup, xv_is_lst, xv_not_lst, xv_is_obj, xv_not_obj, xv_is_bb, xv_not_bb, xv_items_lst, xv_items_tup, xv_items_scr, xv_ix, xv_in_tupi, xv_notIn_tupi, xv_in_tups, xv_notIn_tups, xv_in_lsti, xv_notIn_lsti, xv_in_lsts, xv_notIn_lsts, xv_repT, xv_len_lst, xv_len_tup, xv_len_scr, xv_len_str, xv_abs, xv_max2, xv_max3, xv_maxA, xv_min2, xv_min3, xv_minA, xv_int_int, xv_int_bl, xv_sort, xv_sumL, xv_allL, xv_anyL, xv_tuple, xv_list, xv_sl_lst, xv_sl_scr, xv_sl_tup, xv_rev, xv_revM, xv_fld, xv_asB, xv_asI, xv_dKeyS, xv_dKeyI, xv_rdX, xv_rdV, xv_rdVw, xv_rdVo, xv_rdW, xv_rdWw, xv_asL, xv_retV, xv_retVl, xv_retVn, xv_retO, xv_rtv, xv_rto, xv_then_nx, xv_then_rt, xv_then_bk, xv_then_ct, xv_asInts, xv_asIntsF, xv_asInts0, xv_asIntsC, xv_asBls, xv_asBlsF, xv_asBls0, xv_asBlsC, xv_at0, xv_at1, xv_at2, xv_at3, xv_at4, xv_at5, xv_at6, xv_at7, xv_at8, xv_ge0, xv_ge1, xv_ge2, xv_ge3, xv_ge4, xv_ge5, xv_ge6, xv_ge7, xv_ge8, xv_ge9, xv_ge10, xv_ge11, xv_ge12, l_some, l_int, l_bl, l_str, l_tup, l_lst, l_rt, l_nx, l_v, l_cons, l_then, l_retV, l_and, l_or, l_ft, l_ftp, l_same, l_dand, l_dor, gOk_if, if_sz, if_szl, if_15, Option.bind_some, Option.bind_none, Option.map_some, Option.map_none, List.nil_append, List.cons_append, List.append_nil, List.length_cons, List.length_nil, List.map_cons, List.map_nil, List.replicate_zero, List.replicate_succ, decide_eq_true_eq, Bool.not_eq_true', decide_eq_false_iff_not, Bool.not_true, Bool.not_false, Bool.and_eq_true, Bool.or_eq_true, if_true, if_false, Bool.false_eq_true, Bool.and_true, Bool.true_and, Bool.or_false, Bool.false_or, Bool.or_true, Bool.true_or, Bool.and_false, Bool.false_and, decide_true, decide_false, Nat.reduceAdd, Nat.reduceSub, List.all_cons, List.all_nil, List.any_cons, List.any_nil, Int.lt_irrefl, Int.le_refl, Int.sub_zero, Int.add_zero, Int.zero_add, true_and, and_true, false_and, and_false, and_self, or_self, or_true, true_or, or_false, false_or, not_true_eq_false, not_false_eq_true, Bool.true_eq_false, reduceCtorEq, eq_self, id_eq, List.sum_cons, List.sum_nil, ite_true, ite_false, reduceIte])
local macro_rules | `(tactic| walk_at "ev") => `(tactic| simp (maxSteps := 3000000) (implicitDefEqProofs := false) (disch := first | assumption | decide | ((try simp only [List.length_cons, List.length_nil, List.length_append, List.length_map, iota_length, sizeLine_eq, RgOk]); omega)) only [↓in_intsT, ↓in_intsL, ↓notIn_intsT, ↓notIn_intsL, ap_fTest, ap_fAnd, ap_fOr, ap_fNot, ap_fAndV, ap_fOrV, ap_fNotV, ap_fIf, ap_fChain, ap_fYes, ap_fNoPart, ap_fPart, ap_fSl, ap_fRev, ap_fRevM, ap_fListM, ap_fSortM, ap_fFld, ap_fTupRg1, ap_fTupRg2, ap_fLstRg1, ap_fLstRg2, ap_fIsi2, ap_fVarX, ap_fVarV, ap_fVarW, ap_fC, ap_fOV, ap_fOp, ap_fUn, ap_fCB, ap_fNil, ap_fCons, ap_fTup, ap_fLst, ap_fLstM, ap_fCall, ap_fCallN, ap_fMake, ap_fNext, ap_fBreak, ap_fCont, ap_fSeq, ap_fDrop, ap_fRet, ap_fRetO, ap_fRetVar, ap_fRetN, ap_fIfS, ap_fNever, ap_fAsg, ap_fAsgO, ap_fAug, ap_fMNil, ap_fMX, ap_fMO, ap_fPar, ap_fTupM, ap_fApp, ap_fPutK, ap_fPutL, ap_fGetK, ap_fInK, ap_fNotInK, ap_fLenK, ap_fListK, ap_fDicNew, ap_fDisp, ap_fIndex, ap_fgName, ap_fgNil, ap_fgCons, ap_fgTup, ap_fiAny, ap_fiEnum, ap_fiZip, ap_fFor, ap_fLcM, xv_mx1, xv_mx2, xv_mx3, xv_mx4, xv_mn1, xv_mn2, xv_mn3, xv_mn4, xv_ne_nil, xv_eq_nil, xv_forN, xv_forC, xv_forK1, xv_forK2, xv_forK3, xv_forK4, l_forK, xv_lcN, xv_lcC, xv_zip0, xv_zipC, enumD_0, enumD_1, enumD_2, enumD_3, enumD_4, enumD_5, ap_fiRng1, ap_fiRng2, xv_rng1, xv_rng2, lookL, lookK, fPairs, setManyF, wipeF, runF, runO, startF, toW, lk_0, st_0, lk_1, st_1, lk_2, st_2, lk_3, st_3, lk_4, st_4, lk_5, st_5, lk_6, st_6, lk_7, st_7, lk_8, st_8, lk_9, st_9, lk_10, st_10, lk_11, st_11, lk_12, st_12, lk_13, st_13, lk_14, st_14, lk_15, st_15, lk_16, st_16, lk_17, st_17, lk_18, st_18, lk_19, st_19, lk_20, st_20, lk_21, st_21, lk_22, st_22, lk_23, st_23, lk_24, st_24, lk_25, st_25, lk_26, st_26, lk_27, st_27, lk_28, st_28, lk_29, st_29, lk_30, st_30, lk_31, st_31, lk_32, st_32, lk_33, st_33, lk_34, st_34, lk_35, st_35, lk_36, st_36, lk_37, st_37, lk_38, st_38, lk_39, st_39, lk_40, st_40, isi_f_non_bool, isi_f_non_int, isi_f_non_str, isi_f_non_tuple, isi_f_non_list, isi_f_bl_bool, isi_f_bl_int, isi_f_bl_str, isi_f_bl_tuple, isi_f_bl_list, isi_f_int_bool, isi_f_int_int, isi_f_int_str, isi_f_int_tuple, isi_f_int_list, isi_f_str_bool, isi_f_str_int, isi_f_str_str, isi_f_str_tuple, isi_f_str_list, isi_f_tup_bool, isi_f_tup_int, isi_f_tup_str, isi_f_tup_tuple, isi_f_tup_list, isi_f_lst_bool, isi_f_lst_int, isi_f_lst_str, isi_f_lst_tuple, isi_f_lst_list, xv_add_int, xv_add_lst, xv_add_tup, xv_add_str, xv_sub, xv_mul_int, xv_mul_lst, xv_fdiv, xv_mod, xv_pow, xv_neg, xv_lt, xv_le, xv_gt, xv_ge, xv_iadd, xv_eq_int, xv_eq_bl, xv_eq_str, xv_eq_nn, xv_eq_2017, xv_eq_2084, xv_eq_2151, xv_eq_2218, xv_eq_2285, xv_eq_2351, xv_eq_2417, xv_eq_2488, xv_eq_2559, xv_eq_2629, xv_eq_tup, xv_ne_int, xv_ne_bl, xv_ne_str, xv_ne_nn, xv_ne_3273, xv_ne_3339, xv_ne_3405, xv_ne_3471, xv_ne_3537, xv_ne_3602, xv_ne_3667, xv_ne_3737, xv_ne_3807, xv_ne_3876, xv_ne_tup, xv_is_non, xv_not_non, xv_is_bl, xv_not_bl, xv_is_int, xv_not_int, xv_is_str, xv_not_str, xv_is_tup, xv_not_tup, xv_is_lst, xv_not_lst, xv_is_obj, xv_not_obj, xv_is_bb, xv_not_bb, xv_items_lst, xv_items_tup, xv_items_scr, xv_ix, xv_in_tupi, xv_notIn_tupi, xv_in_tups, xv_notIn_tups, xv_in_lsti, xv_notIn_lsti, xv_in_lsts, xv_notIn_lsts, xv_repT, xv_len_lst, xv_len_tup, xv_len_scr, xv_len_str, xv_abs, xv_max2, xv_max3, xv_maxA, xv_min2, xv_min3, xv_minA, xv_int_int, xv_int_bl, xv_sort, xv_sumL, xv_allL, xv_anyL, xv_tuple, xv_list, xv_sl_lst, xv_sl_scr, xv_sl_tup, xv_rev, xv_revM, xv_fld, xv_asB, xv_asI, xv_dKeyS, xv_dKeyI, xv_rdX, xv_rdV, xv_rdVw, xv_rdVo, xv_rdW, xv_rdWw, xv_asL, xv_retV, xv_retVl, xv_retVn, xv_retO, xv_rtv, xv_rto, xv_then_nx, xv_then_rt, xv_then_bk, xv_then_ct, xv_asInts, xv_asIntsF, xv_asInts0, xv_asIntsC, xv_asBls, xv_asBlsF, xv_asBls0, xv_asBlsC, xv_at0, xv_at1, xv_at2, xv_at3, xv_at4, xv_at5, xv_at6, xv_at7, xv_at8, xv_ge0, xv_ge1, xv_ge2, xv_ge3, xv_ge4, xv_ge5, xv_ge6, xv_ge7, xv_ge8, xv_ge9, xv_ge10, xv_ge11, xv_ge12, l_some, l_int, l_bl, l_str, l_tup, l_lst, l_rt, l_nx, l_v, l_cons, l_then, l_retV, l_and, l_or, l_ft, l_ftp, l_same, l_dand, l_dor, gOk_if, if_sz, if_szl, if_15, Option.bind_some, Option.bind_none, Option.map_some, Option.map_none, List.nil_append, List.cons_append, List.append_nil, List.length_cons, List.length_nil, List.map_cons, List.map_nil, List.replicate_zero, List.replicate_succ, decide_eq_true_eq, Bool.not_eq_true', decide_eq_false_iff_not, Bool.not_true, Bool.not_false, Bool.and_eq_true, Bool.or_eq_true, if_true, if_false, Bool.false_eq_true, Bool.and_true, Bool.true_and, Bool.or_false, Bool.false_or, Bool.or_true, Bool.true_or, Bool.and_false, Bool.false_and, decide_true, decide_false, Nat.reduceAdd, Nat.reduceSub, List.all_cons, List.all_nil, List.any_cons, List.any_nil, Int.lt_irrefl, Int.le_refl, Int.sub_zero, Int.add_zero, Int.zero_add, true_and, and_true, false_and, and_false, and_self, or_self, or_true, true_or, or_false, false_or, not_true_eq_false, not_false_eq_true, Bool.true_eq_false, reduceCtorEq, eq_self, id_eq, List.sum_cons, List.sum_nil, ite_true, ite_false, reduceIte])
noncomputable section
/-! ### the law's own walk -/
structure RelL (n : Nat) (S : Set') (base : Int) (dn hl : Kvs) : Prop where
  mex : base = mexI n S
  has : ∀ y : Int, 0 ≤ y → y < n → (S y = true ↔ hasK dn y = true ∨ hasK hl y = true)
  low : ∀ y : Int, 0 ≤ y → y < base → hasK dn y = true
  lt : ∀ y : Int, hasK dn y = true ∨ hasK hl y = true → 0 ≤ y ∧ y < n
  kd : KOk dn
  kh : KOk hl
def Γl (m : Str) (w : Int) (row : List Int) (dn hl : Kvs) (base often : Int) (o7 : Option FV) : FE := [some (.v (.str m)), some (.v (.int w)), some (.w (.lst (row.map D.int))), some (.o (.k dn)), some (.o (.k hl)), some (.v (.int base)), some (.v (.int often)), o7]
theorem KOk.lt {kvs : Kvs} (h : KOk kvs) : kvs.length < sizeLine := by
  have := h.len; rw [sizeLine_eq]; omega
theorem step_not {n : Nat} {nx : Bool} {w : Int} {S : Set'} {x : Int} (h : ¬ (x < mexI n S + w ∧ (nx = true → x ≤ mexI n S))) : stepI n nx w S x = S := by
  unfold stepI
  rw [if_neg (fun z => h (acc_iff.mp z))]
theorem step_in {n : Nat} {nx : Bool} {w : Int} {S : Set'} {x y : Int} (h : S x = true) : stepI n nx w S x y = S y := by
  unfold stepI
  split
  · by_cases hy : y = x
    · rw [hy]; simp [h]
    · simp [hy]
  · rfl
theorem step_yes {n : Nat} {nx : Bool} {w : Int} {S : Set'} {x y : Int} (h : x < mexI n S + w ∧ (nx = true → x ≤ mexI n S)) : stepI n nx w S x y = true ↔ S y = true ∨ y = x := by
  unfold stepI
  rw [if_pos (acc_iff.mpr h), Bool.or_eq_true, decide_eq_true_eq]
theorem RelL.same {n : Nat} {S : Set'} {base : Int} {dn hl : Kvs} {nx : Bool} {w x : Int} (h : RelL n S base dn hl) (hs : ∀ y, stepI n nx w S x y = S y) : RelL n (stepI n nx w S x) base dn hl := by
  have : stepI n nx w S x = S := funext hs
  rw [this]
  exact h
/-- one number -/
theorem said_step {n : Nat} (hn : n ≤ 30) {m : Str} {w : Int} {row : List Int} (hm : Ord m) (hw : 1 ≤ w) {S : Set'} {base j : Int} {dn hl : Kvs} (R : RelL n S base dn hl) {x : Int} (x0 : 0 ≤ x) (x1 : x < n) :
    ∃ o, (fSeq (fIfS (fOr (fTest (fInK (fVarV 7) 3)) (fOr (fTest (fOp fo_ge (fVarV 7) (fOp fo_add (fVarV 5) (fVarV 1)))) (fAnd (fTest (fOp fo_eq (fVarV 0) (fC (.str "next")))) (fTest (fOp fo_ne (fVarV 7) (fVarV 5))))))
    fCont
    fNext)
    (fSeq (fIfS (fAnd (fTest (fOp fo_eq (fVarV 0) (fC (.str "wait")))) (fTest (fOp fo_ne (fVarV 7) (fVarV 5))))
    (fSeq (fPutK 4 (fVarV 7) (fC (.bl true)))
    fCont)
    fNext)
    (fSeq (fPutK 3 (fVarV 7) (fC (.bl true)))
    (fWhile (fOr (fTest (fInK (fVarV 5) 3)) (fTest (fInK (fVarV 5) 4)))
    (fSeq (fPutK 3 (fVarV 5) (fC (.bl true)))
    (fAsg (fOp fo_add (fVarV 5) (fC (.int 1))) (fgName 5))))))) (Γl m w row dn hl base j (some (.v (.int x)))) = some o ∧ OutR (fun Γ => ∃ dn' hl' base' o7, Γ = Γl m w row dn' hl' base' j o7 ∧ RelL n (stepI n (isNext m) w S x) base' dn' hl') o := by
  have hb0 : 0 ≤ base := by have := (mex_spec n S).1; have := R.mex; omega
  have hbn : base ≤ n := by have := (mex_spec n S).2.1; have := R.mex; omega
  have hld := R.kd.lt
  have hlh := R.kh.lt
  have c1 := ne_an; have c2 := ne_nw; have c3 := ne_wa; have c4 := ne_wn
  have c5 : ¬ (Str.ofString "any" = Str.ofString "wait") := by decide +kernel
  have c6 : ¬ (Str.ofString "next" = Str.ofString "wait") := by decide +kernel
  by_cases hd : hasK dn x = true
  · have hS : S x = true := (R.has x x0 x1).mpr (.inl hd)
    have hd' : (valD dn (.inl x)).isSome = true := hd
    refine ⟨.ct (Γl m w row dn hl base j (some (.v (.int x)))), ?_, dn, hl, base, _, rfl, R.same fun y => step_in hS⟩
    unfold Γl
    walk_at "evh"
  have hxb : base ≤ x := by
    by_cases h : base ≤ x
    · exact h
    · exact absurd (R.low x x0 (by omega)) hd
  have hd0 : (valD dn (.inl x)).isSome = false := by
    unfold hasK at hd
    exact Bool.eq_false_iff.mpr hd
  by_cases hf : base + w ≤ x
  · refine ⟨.ct (Γl m w row dn hl base j (some (.v (.int x)))), ?_, dn, hl, base, _, rfl, R.same fun y => by rw [step_not (by have := R.mex; omega)]⟩
    unfold Γl
    walk_at "evh"
  by_cases hnx : m = "next" ∧ x ≠ base
  · obtain ⟨rfl, hxne⟩ := hnx
    refine ⟨.ct (Γl "next" w row dn hl base j (some (.v (.int x)))), ?_, dn, hl, base, _, rfl, R.same fun y => by rw [step_not (fun z => by have h1 := R.mex; have h2 := z.2 (by decide +kernel); omega)]⟩
    unfold Γl
    walk_at "evh"
  have hacc : x < mexI n S + w ∧ (isNext m = true → x ≤ mexI n S) := by
    have := R.mex
    refine ⟨by omega, fun h => ?_⟩
    unfold isNext at h
    rw [decide_eq_true_eq] at h
    by_cases hx : x = base
    · omega
    · exact absurd ⟨h, hx⟩ hnx
  by_cases hwt : m = "wait" ∧ x ≠ base
  · obtain ⟨rfl, hxne⟩ := hwt
    refine ⟨.ct (Γl "wait" w row dn (putD hl (.inl x) (.bl true)) base j (some (.v (.int x)))), ?_, dn, _, base, _, rfl, ?_⟩
    · unfold Γl
      walk_at "evh"
    · have hh : ∀ y : Int, 0 ≤ y → y < n → (stepI n (isNext "wait") w S x y = true ↔ hasK dn y = true ∨ hasK (putD hl (.inl x) (.bl true)) y = true) := fun y y0 y1 => by
        rw [step_yes hacc, R.has y y0 y1, hasK_put, or_assoc]
      refine ⟨(mex_eq hb0 hbn (fun y y0 y1 => (hh y y0 (by omega)).mpr (.inl (R.low y y0 y1))) fun hb => ?_).symm, hh, R.low, fun y hy => ?_, R.kd, R.kh.put x0 (by omega)⟩
      · cases hc : stepI n (isNext "wait") w S x base with
        | false => rfl
        | true =>
          rw [step_yes hacc] at hc
          rcases hc with hc | hc
          · have := (mex_spec n S).2.2.2
            rw [← R.mex] at this
            rw [this hb] at hc
            cases hc
          · omega
      · rw [hasK_put] at hy
        rcases hy with hy | hy | rfl
        · exact R.lt y (.inl hy)
        · exact R.lt y (.inr hy)
        · exact ⟨x0, x1⟩
  · -- it acts
    have kd1 := R.kd.put (d := .bl true) x0 (x := x) (by omega)
    obtain ⟨o, eo, dn', base', rfl, hb1, hb2, h3, h4, h5, h6⟩ := fWhile_dec (c := fOr (fTest (fInK (fVarV 5) 3)) (fTest (fInK (fVarV 5) 4))) (b := fSeq (fPutK 3 (fVarV 5) (fC (.bl true)))
        (fAsg (fOp fo_add (fVarV 5) (fC (.int 1))) (fgName 5)))
      (fun k Γ => ∃ d c, Γ = Γl m w row d hl c j (some (.v (.int x))) ∧ base ≤ c ∧ c ≤ n ∧ (k : Int) = n - c ∧ (∀ y : Int, (hasK d y = true ∨ hasK hl y = true) ↔ (hasK dn y = true ∨ y = x ∨ hasK hl y = true)) ∧ (∀ y : Int, 0 ≤ y → y < c → hasK d y = true) ∧ KOk d)
      (fun o => ∃ d c, o = .nx (Γl m w row d hl c j (some (.v (.int x)))) ∧ base ≤ c ∧ c ≤ n ∧ (∀ y : Int, (hasK d y = true ∨ hasK hl y = true) ↔ (hasK dn y = true ∨ y = x ∨ hasK hl y = true)) ∧ (∀ y : Int, 0 ≤ y → y < c → hasK d y = true) ∧ KOk d ∧ ¬ (hasK d c = true ∨ hasK hl c = true))
      (m := (n - base).toNat) (Γ := Γl m w row (putD dn (.inl x) (.bl true)) hl base j (some (.v (.int x))))
      ⟨_, _, rfl, by omega, by omega, by omega, fun y => by rw [hasK_put, or_assoc], fun y y0 y1 => hasK_put.mpr (.inl (R.low y y0 y1)), kd1⟩ (by omega) (by
      rintro k Γ ⟨d, c, rfl, q1, q2, q3, q4, q5, q6⟩
      have ld := q6.lt
      by_cases hc : hasK d c = true ∨ hasK hl c = true
      · have hcn : c < n := by
          rcases (q4 c).mp hc with z | z | z
          · exact (R.lt c (.inl z)).2
          · omega
          · exact (R.lt c (.inr z)).2
        refine ⟨true, ?_, ?_⟩
        · unfold Γl
          by_cases h : hasK d c = true
          · have h' : (valD d (.inl c)).isSome = true := h
            walk_at "evh"
          · have h0 : (valD d (.inl c)).isSome = false := by
              unfold hasK at h
              exact Bool.eq_false_iff.mpr h
            have h' : (valD hl (.inl c)).isSome = true := hc.resolve_left h
            walk_at "evh"
        · rw [if_pos rfl]
          refine ⟨.nx (Γl m w row (putD d (.inl c) (.bl true)) hl (c + 1) j (some (.v (.int x)))), ?_, k - 1, by omega, _, _, rfl, by omega, by omega, by omega, fun y => ?_, fun y y0 y1 => ?_, q6.put (by omega) (by omega)⟩
          · unfold Γl
            walk_at "evh"
          · rw [hasK_put, ← q4 y]
            constructor
            · rintro ((z | rfl) | z)
              · exact .inl z
              · exact hc
              · exact .inr z
            · rintro (z | z)
              · exact .inl (.inl z)
              · exact .inr z
          · rw [hasK_put]
            by_cases hy : y = c
            · exact .inr hy
            · exact .inl (q5 y y0 (by omega))
      · refine ⟨false, ?_, ?_⟩
        · have h0 : (valD d (.inl c)).isSome = false := Bool.eq_false_iff.mpr fun z => hc (.inl z)
          have h1 : (valD hl (.inl c)).isSome = false := Bool.eq_false_iff.mpr fun z => hc (.inr z)
          unfold Γl
          walk_at "evh"
        · rw [if_neg Bool.false_ne_true]
          exact ⟨d, c, rfl, q1, q2, q4, q5, q6, hc⟩)
    refine ⟨.nx (Γl m w row dn' hl base' j (some (.v (.int x)))), ?_, dn', hl, base', _, rfl, ?_⟩
    · unfold Γl at eo ⊢
      by_cases hx : x = base
      · subst hx
        rcases hm with rfl | rfl | rfl <;> walk_at "evh"
      · have z1 : m ≠ "next" := fun z => hnx ⟨z, hx⟩
        have z2 : m ≠ "wait" := fun z => hwt ⟨z, hx⟩
        rcases hm with rfl | rfl | rfl
        · walk_at "evh"
        · exact absurd rfl z1
        · exact absurd rfl z2
    · have hh : ∀ y : Int, 0 ≤ y → y < n → (stepI n (isNext m) w S x y = true ↔ hasK dn' y = true ∨ hasK hl y = true) := fun y y0 y1 => by
        rw [step_yes hacc, R.has y y0 y1, h3 y]
        constructor
        · rintro ((z | z) | z)
          · exact .inl z
          · exact .inr (.inr z)
          · exact .inr (.inl z)
        · rintro (z | z | z)
          · exact .inl (.inl z)
          · exact .inr z
          · exact .inl (.inr z)
      refine ⟨(mex_eq (by omega) hb2 (fun y y0 y1 => (hh y y0 (by omega)).mpr (.inl (h4 y y0 y1))) fun hb => ?_).symm, hh, h4, fun y hy => ?_, h5, R.kh⟩
      · cases hc : stepI n (isNext m) w S x base' with
        | false => rfl
        | true => exact absurd ((hh base' (by omega) hb).mp hc) h6
      · rcases (h3 y).mp hy with z | rfl | z
        · exact R.lt y (.inl z)
        · exact ⟨x0, x1⟩
        · exact R.lt y (.inr z)
def F_law_said := runF N_law_said P_law_said f_law_said
theorem ev_law_said {n : Nat} {m : Str} {w : Int} {row : List Int} (hm : Ord m) (hw : 1 ≤ w) (hr : RowOk n row) (hn : n ≤ 30) : F_law_said [.str m, .int w, .lst (row.map D.int)] = some (.int (timesI n (isNext m) w row)) := by
  unfold F_law_said f_law_said
  have hlen : ((row.map D.int).length : Int) = n := by rw [List.length_map, hr.len]
  walk_at "ev"
  obtain ⟨o, eo, dn, hl, base, o7, rfl⟩ := fWhile_dec (c := fTest (fOp fo_lt (fVarV 5) (fCB fo_len (fCons (fVarV 2) fNil)))) (b := (fSeq (fAsg (fOp fo_add (fVarV 6) (fC (.int 1))) (fgName 6))
    (fFor (fiAny (fVarW 2)) (fgName 7)
    (fSeq (fIfS (fOr (fTest (fInK (fVarV 7) 3)) (fOr (fTest (fOp fo_ge (fVarV 7) (fOp fo_add (fVarV 5) (fVarV 1)))) (fAnd (fTest (fOp fo_eq (fVarV 0) (fC (.str "next")))) (fTest (fOp fo_ne (fVarV 7) (fVarV 5))))))
    fCont
    fNext)
    (fSeq (fIfS (fAnd (fTest (fOp fo_eq (fVarV 0) (fC (.str "wait")))) (fTest (fOp fo_ne (fVarV 7) (fVarV 5))))
    (fSeq (fPutK 4 (fVarV 7) (fC (.bl true)))
    fCont)
    fNext)
    (fSeq (fPutK 3 (fVarV 7) (fC (.bl true)))
    (fWhile (fOr (fTest (fInK (fVarV 5) 3)) (fTest (fInK (fVarV 5) 4)))
    (fSeq (fPutK 3 (fVarV 5) (fC (.bl true)))
    (fAsg (fOp fo_add (fVarV 5) (fC (.int 1))) (fgName 5))))))))))
    (fun k Γ => ∃ b A H S j o7, Γ = Γl m w row A H b j o7 ∧ RelL n S b A H ∧ n - b ≤ k ∧ j + cntI n (isNext m) w row k S = timesI n (isNext m) w row)
    (fun o => ∃ A H b o7, o = .nx (Γl m w row A H b (timesI n (isNext m) w row) o7))
    (m := n) (Γ := Γl m w row [] [] 0 0 none)
    ⟨0, [], [], noneI, 0, none, rfl, ⟨(mex_eq (by omega) (by omega) (fun y h0 h1 => by omega) (fun _ => rfl)).symm, fun y y0 _ => ⟨fun q => (by cases q), fun q => (by rcases q with q | q <;> cases q)⟩, fun y y0 y1 => by omega, fun y q => (by rcases q with q | q <;> cases q), KOk.nil, KOk.nil⟩, by omega, by unfold timesI; omega⟩ (by omega) (by
    rintro k Γ ⟨b, A, H, S, j, o7, rfl, hS, hk, hj⟩
    refine ⟨decide (b < n), ?_, ?_⟩
    · unfold Γl
      walk_at "evh"
    · by_cases hb : b < n
      · rw [decide_eq_true hb, if_pos rfl]
        have key := forF_fold (g := fgName 7) (enc := D.int)
          (fun S Γ => ∃ A H b o7, Γ = Γl m w row A H b (j + 1) o7 ∧ RelL n S b A H) (stepI n (isNext m) w) row S (Γl m w row A H b (j + 1) o7) ⟨A, H, b, o7, rfl, hS⟩ (by
          rintro x hx S Γ ⟨A, H, b, o7, rfl, hS⟩
          have hx' := hr.mem.mp hx
          obtain ⟨o, e, h⟩ := said_step hn (row := row) (j := j + 1) hm hw hS hx'.1 hx'.2
          exact ⟨_, rfl, o, e, h⟩)
        obtain ⟨Γ', e, A', H', b', o7', rfl, hS'⟩ := key
        refine ⟨.nx (Γl m w row A' H' b' (j + 1) o7'), by unfold Γl at e ⊢; walk_at "evh", ?_⟩
        have hg := pass_grows (nx := isNext m) hw hr (S := S) (by rw [← hS.mex]; exact hb)
        have h2 : b' = mexI n (passI n (isNext m) w row S) := hS'.mex
        have h3 := hS.mex
        refine ⟨k - 1, by omega, b', A', H', _, j + 1, o7', rfl, hS', by omega, ?_⟩
        obtain ⟨k', rfl⟩ : ∃ k', k = k' + 1 := ⟨k - 1, by omega⟩
        unfold cntI at hj
        rw [if_pos (by omega)] at hj
        have : passI n (isNext m) w row S = row.foldl (stepI n (isNext m) w) S := rfl
        rw [this] at hj
        rw [Nat.add_sub_cancel]
        omega
      · rw [decide_eq_false hb, if_neg Bool.false_ne_true]
        rw [cnt_end (by rw [← hS.mex]; exact hb)] at hj
        exact ⟨A, H, b, o7, by rw [← hj]; simp⟩)
  unfold Γl at eo
  walk_at "evh"
/-! ### two numbers are the same -/
def F_law_same : Nat → List D → Option D
  | 0 => fun _ => none
  | k + 1 => runF N_law_same P_law_same (f_law_same (F_law_same k))
theorem ev_law_same {k : Nat} {a : Int} : F_law_same (k + 1) [.int a, .int a] = some (.bl true) := by
  show runF N_law_same P_law_same (f_law_same (F_law_same k)) [.int a, .int a] = some (.bl true)
  unfold f_law_same
  walk_at "ev"
end
end K54

set_option Elab.async false
set_option linter.all false
set_option maxRecDepth 100000
set_option maxHeartbeats 4000000
namespace K54
open PySem PySem.Spec PyProof.Rows L2 DL
local macro_rules | `(tactic| walk_at "evh") => `(tactic| simp (maxSteps := 3000000) (implicitDefEqProofs := false) (disch := first | assumption | decide | ((try simp only [List.length_cons, List.length_nil, List.length_append, List.length_map, iota_length, sizeLine_eq, RgOk]); omega)) only [*, ↓in_intsT, ↓in_intsL, ↓notIn_intsT, ↓notIn_intsL, ap_fTest, ap_fAnd, ap_fOr, ap_fNot, ap_fAndV, ap_fOrV, ap_fNotV, ap_fIf, ap_fChain, ap_fYes, ap_fNoPart, ap_fPart, ap_fSl, ap_fRev, ap_fRevM, ap_fListM, ap_fSortM, ap_fFld, ap_fTupRg1, ap_fTupRg2, ap_fLstRg1, ap_fLstRg2, ap_fIsi2, ap_fVarX, ap_fVarV, ap_fVarW, ap_fC, ap_fOV, ap_fOp, ap_fUn, ap_fCB, ap_fNil, ap_fCons, ap_fTup, ap_fLst, ap_fLstM, ap_fCall, ap_fCallN, ap_fMake, ap_fNext, ap_fBreak, ap_fCont, ap_fSeq, ap_fDrop, ap_fRet, ap_fRetO, ap_fRetVar, ap_fRetN, ap_fIfS, ap_fNever, ap_fAsg, ap_fAsgO, ap_fAug, ap_fMNil, ap_fMX, ap_fMO, ap_fPar, ap_fTupM, ap_fApp, ap_fPutK, ap_fPutL, ap_fGetK, ap_fInK, ap_fNotInK, ap_fLenK, ap_fListK, ap_fDicNew, ap_fDisp, ap_fIndex, ap_fgName, ap_fgNil, ap_fgCons, ap_fgTup, ap_fiAny, ap_fiEnum, ap_fiZip, ap_fFor, ap_fLcM, xv_mx1, xv_mx2, xv_mx3, xv_mx4, xv_mn1, xv_mn2, xv_mn3, xv_mn4, xv_ne_nil, xv_eq_nil, xv_forN, xv_forC, xv_forK1, xv_forK2, xv_forK3, xv_forK4, l_forK, xv_lcN, xv_lcC, xv_zip0, xv_zipC, enumD_0, enumD_1, enumD_2, enumD_3, enumD_4, enumD_5, ap_fiRng1, ap_fiRng2, xv_rng1, xv_rng2, lookL, lookK, fPairs, setManyF, wipeF, runF, runO, startF, toW, lk_0, st_0, lk_1, st_1, lk_2, st_2, lk_3, st_3, lk_4, st_4, lk_5, st_5, lk_6, st_6, lk_7, st_7, lk_8, st_8, lk_9, st_9, lk_10, st_10, lk_11, st_11, lk_12, st_12, lk_13, st_13, lk_14, st_14, lk_15, st_15, lk_16, st_16, lk_17, st_17, lk_18, st_18, lk_19, st_19, lk_20, st_20, lk_21, st_21, lk_22, st_22, lk_23, st_23, lk_24, st_24, lk_25, st_25, lk_26, st_26, lk_27, st_27, lk_28, st_28, lk_29, st_29, lk_30, st_30, lk_31, st_31, lk_32, st_32, lk_33, st_33, lk_34, st_34, lk_35, st_35, lk_36, st_36, lk_37, st_37, lk_38, st_38, lk_39, st_39, lk_40, st_40, isi_f_non_bool, isi_f_non_int, isi_f_non_str, isi_f_non_tuple, isi_f_non_list, isi_f_bl_bool, isi_f_bl_int, isi_f_bl_str, isi_f_bl_tuple, isi_f_bl_list, isi_f_int_bool, isi_f_int_int, isi_f_int_str, isi_f_int_tuple, isi_f_int_list, isi_f_str_bool, isi_f_str_int, isi_f_str_str, isi_f_str_tuple, isi_f_str_list, isi_f_tup_bool, isi_f_tup_int, isi_f_tup_str, isi_f_tup_tuple, isi_f_tup_list, isi_f_lst_bool, isi_f_lst_int, isi_f_lst_str, isi_f_lst_tuple, isi_f_lst_list, xv_add_int, xv_add_lst, xv_add_tup, xv_add_str, xv_sub, xv_mul_int, xv_mul_lst, xv_fdiv, xv_mod, xv_pow, xv_neg, xv_lt, xv_le, xv_gt, xv_ge, xv_iadd, xv_eq_int, xv_eq_bl, xv_eq_str, xv_eq_nn, xv_eq_2017, xv_eq_2084, xv_eq_2151, xv_eq_2218, xv_eq_2285, xv_eq_2351, xv_eq_2417, xv_eq_2488, xv_eq_2559, xv_eq_2629, xv_eq_tup, xv_ne_int, xv_ne_bl, xv_ne_str, xv_ne_nn, xv_ne_3273, xv_ne_3339, xv_ne_3405, xv_ne_3471, xv_ne_3537, xv_ne_3602, xv_ne_3667, xv_ne_3737, xv_ne_3807, xv_ne_3876, xv_ne_tup, xv_is_non, xv_not_non, xv_is_bl, xv_not_bl, xv_is_int, xv_not_int, xv_is_str, xv_not_str, xv_is_tup, xv_not_tup, xv_is_lst, xv_not_lst, xv_is_obj, xv_not_obj, xv_is_bb, xv_not_bb, xv_items_lst, xv_items_tup, xv_items_scr, xv_ix, xv_in_tupi, xv_notIn_tupi, xv_in_tups, xv_notIn_tups, xv_in_lsti, xv_notIn_lsti, xv_in_lsts, xv_notIn_lsts, xv_repT, xv_len_lst, xv_len_tup, xv_len_scr, xv_len_str, xv_abs, xv_max2, xv_max3, xv_maxA, xv_min2, xv_min3, xv_minA, xv_int_int, xv_int_bl, xv_sort, xv_sumL, xv_allL, xv_anyL, xv_tuple, xv_list, xv_sl_lst, xv_sl_scr, xv_sl_tup, xv_rev, xv_revM, xv_fld, xv_asB, xv_asI, xv_dKeyS, xv_dKeyI, xv_rdX, xv_rdV, xv_rdVw, xv_rdVo, xv_rdW, xv_rdWw, xv_asL, xv_retV, xv_retVl, xv_retVn, xv_retO, xv_rtv, xv_rto, xv_then_nx, xv_then_rt, xv_then_bk, xv_then_ct, xv_asInts, xv_asIntsF, xv_asInts0, xv_asIntsC, xv_asBls, xv_asBlsF, xv_asBls0, xv_asBlsC, xv_at0, xv_at1, xv_at2, xv_at3, xv_at4, xv_at5, xv_at6, xv_at7, xv_at8, xv_ge0, xv_ge1, xv_ge2, xv_ge3, xv_ge4, xv_ge5, xv_ge6, xv_ge7, xv_ge8, xv_ge9, xv_ge10, xv_ge11, xv_ge12, l_some, l_int, l_bl, l_str, l_tup, l_lst, l_rt, l_nx, l_v, l_cons, l_then, l_retV, l_and, l_or, l_ft, l_ftp, l_same, l_dand, l_dor, gOk_if, if_sz, if_szl, if_15, Option.bind_some, Option.bind_none, Option.map_some, Option.map_none, List.nil_append, List.cons_append, List.append_nil, List.length_cons, List.length_nil, List.map_cons, List.map_nil, List.replicate_zero, List.replicate_succ, decide_eq_true_eq, Bool.not_eq_true', decide_eq_false_iff_not, Bool.not_true, Bool.not_false, Bool.and_eq_true, Bool.or_eq_true, if_true, if_false, Bool.false_eq_true, Bool.and_true, Bool.true_and, Bool.or_false, Bool.false_or, Bool.or_true, Bool.true_or, Bool.and_false, Bool.false_and, decide_true, decide_false, Nat.reduceAdd, Nat.reduceSub, List.all_cons, List.all_nil, List.any_cons, List.any_nil, Int.lt_irrefl, Int.le_refl, Int.sub_zero, Int.add_zero, Int.zero_add, true_and, and_true, false_and, and_false, and_self, or_self, or_true, true_or, or_false, false_or, not_true_eq_false, not_false_eq_true, Bool.true_eq_false, reduceCtorEq, eq_self, id_eq, List.sum_cons, List.sum_nil, ite_true, ite_false, reduceIte])
local macro_rules | `(tactic| walk_at "ev") => `(tactic| simp (maxSteps := 3000000) (implicitDefEqProofs := false) (disch := first | assumption | decide | ((try simp only [List.length_cons, List.length_nil, List.length_append, List.length_map, iota_length, sizeLine_eq, RgOk]); omega)) only [↓in_intsT, ↓in_intsL, ↓notIn_intsT, ↓notIn_intsL, ap_fTest, ap_fAnd, ap_fOr, ap_fNot, ap_fAndV, ap_fOrV, ap_fNotV, ap_fIf, ap_fChain, ap_fYes, ap_fNoPart, ap_fPart, ap_fSl, ap_fRev, ap_fRevM, ap_fListM, ap_fSortM, ap_fFld, ap_fTupRg1, ap_fTupRg2, ap_fLstRg1, ap_fLstRg2, ap_fIsi2, ap_fVarX, ap_fVarV, ap_fVarW, ap_fC, ap_fOV, ap_fOp, ap_fUn, ap_fCB, ap_fNil, ap_fCons, ap_fTup, ap_fLst, ap_fLstM, ap_fCall, ap_fCallN, ap_fMake, ap_fNext, ap_fBreak, ap_fCont, ap_fSeq, ap_fDrop, ap_fRet, ap_fRetO, ap_fRetVar, ap_fRetN, ap_fIfS, ap_fNever, ap_fAsg, ap_fAsgO, ap_fAug, ap_fMNil, ap_fMX, ap_fMO, ap_fPar, ap_fTupM, ap_fApp, ap_fPutK, ap_fPutL, ap_fGetK, ap_fInK, ap_fNotInK, ap_fLenK, ap_fListK, ap_fDicNew, ap_fDisp, ap_fIndex, ap_fgName, ap_fgNil, ap_fgCons, ap_fgTup, ap_fiAny, ap_fiEnum, ap_fiZip, ap_fFor, ap_fLcM, xv_mx1, xv_mx2, xv_mx3, xv_mx4, xv_mn1, xv_mn2, xv_mn3, xv_mn4, xv_ne_nil, xv_eq_nil, xv_forN, xv_forC, xv_forK1, xv_forK2, xv_forK3, xv_forK4, l_forK, xv_lcN, xv_lcC, xv_zip0, xv_zipC, enumD_0, enumD_1, enumD_2, enumD_3, enumD_4, enumD_5, ap_fiRng1, ap_fiRng2, xv_rng1, xv_rng2, lookL, lookK, fPairs, setManyF, wipeF, runF, runO, startF, toW, lk_0, st_0, lk_1, st_1, lk_2, st_2, lk_3, st_3, lk_4, st_4, lk_5, st_5, lk_6, st_6, lk_7, st_7, lk_8, st_8, lk_9, st_9, lk_10, st_10, lk_11, st_11, lk_12, st_12, lk_13, st_13, lk_14, st_14, lk_15, st_15, lk_16, st_16, lk_17, st_17, lk_18, st_18, lk_19, st_19, lk_20, st_20, lk_21, st_21, lk_22, st_22, lk_23, st_23, lk_24, st_24, lk_25, st_25, lk_26, st_26, lk_27, st_27, lk_28, st_28, lk_29, st_29, lk_30, st_30, lk_31, st_31, lk_32, st_32, lk_33, st_33, lk_34, st_34, lk_35, st_35, lk_36, st_36, lk_37, st_37, lk_38, st_38, lk_39, st_39, lk_40, st_40, isi_f_non_bool, isi_f_non_int, isi_f_non_str, isi_f_non_tuple, isi_f_non_list, isi_f_bl_bool, isi_f_bl_int, isi_f_bl_str, isi_f_bl_tuple, isi_f_bl_list, isi_f_int_bool, isi_f_int_int, isi_f_int_str, isi_f_int_tuple, isi_f_int_list, isi_f_str_bool, isi_f_str_int, isi_f_str_str, isi_f_str_tuple, isi_f_str_list, isi_f_tup_bool, isi_f_tup_int, isi_f_tup_str, isi_f_tup_tuple, isi_f_tup_list, isi_f_lst_bool, isi_f_lst_int, isi_f_lst_str, isi_f_lst_tuple, isi_f_lst_list, xv_add_int, xv_add_lst, xv_add_tup, xv_add_str, xv_sub, xv_mul_int, xv_mul_lst, xv_fdiv, xv_mod, xv_pow, xv_neg, xv_lt, xv_le, xv_gt, xv_ge, xv_iadd, xv_eq_int, xv_eq_bl, xv_eq_str, xv_eq_nn, xv_eq_2017, xv_eq_2084, xv_eq_2151, xv_eq_2218, xv_eq_2285, xv_eq_2351, xv_eq_2417, xv_eq_2488, xv_eq_2559, xv_eq_2629, xv_eq_tup, xv_ne_int, xv_ne_bl, xv_ne_str, xv_ne_nn, xv_ne_3273, xv_ne_3339, xv_ne_3405, xv_ne_3471, xv_ne_3537, xv_ne_3602, xv_ne_3667, xv_ne_3737, xv_ne_3807, xv_ne_3876, xv_ne_tup, xv_is_non, xv_not_non, xv_is_bl, xv_not_bl, xv_is_int, xv_not_int, xv_is_str, xv_not_str, xv_is_tup, xv_not_tup, xv_is_lst, xv_not_lst, xv_is_obj, xv_not_obj, xv_is_bb, xv_not_bb, xv_items_lst, xv_items_tup, xv_items_scr, xv_ix, xv_in_tupi, xv_notIn_tupi, xv_in_tups, xv_notIn_tups, xv_in_lsti, xv_notIn_lsti, xv_in_lsts, xv_notIn_lsts, xv_repT, xv_len_lst, xv_len_tup, xv_len_scr, xv_len_str, xv_abs, xv_max2, xv_max3, xv_maxA, xv_min2, xv_min3, xv_minA, xv_int_int, xv_int_bl, xv_sort, xv_sumL, xv_allL, xv_anyL, xv_tuple, xv_list, xv_sl_lst, xv_sl_scr, xv_sl_tup, xv_rev, xv_revM, xv_fld, xv_asB, xv_asI, xv_dKeyS, xv_dKeyI, xv_rdX, xv_rdV, xv_rdVw, xv_rdVo, xv_rdW, xv_rdWw, xv_asL, xv_retV, xv_retVl, xv_retVn, xv_retO, xv_rtv, xv_rto, xv_then_nx, xv_then_rt, xv_then_bk, xv_then_ct, xv_asInts, xv_asIntsF, xv_asInts0, xv_asIntsC, xv_asBls, xv_asBlsF, xv_asBls0, xv_asBlsC, xv_at0, xv_at1, xv_at2, xv_at3, xv_at4, xv_at5, xv_at6, xv_at7, xv_at8, xv_ge0, xv_ge1, xv_ge2, xv_ge3, xv_ge4, xv_ge5, xv_ge6, xv_ge7, xv_ge8, xv_ge9, xv_ge10, xv_ge11, xv_ge12, l_some, l_int, l_bl, l_str, l_tup, l_lst, l_rt, l_nx, l_v, l_cons, l_then, l_retV, l_and, l_or, l_ft, l_ftp, l_same, l_dand, l_dor, gOk_if, if_sz, if_szl, if_15, Option.bind_some, Option.bind_none, Option.map_some, Option.map_none, List.nil_append, List.cons_append, List.append_nil, List.length_cons, List.length_nil, List.map_cons, List.map_nil, List.replicate_zero, List.replicate_succ, decide_eq_true_eq, Bool.not_eq_true', decide_eq_false_iff_not, Bool.not_true, Bool.not_false, Bool.and_eq_true, Bool.or_eq_true, if_true, if_false, Bool.false_eq_true, Bool.and_true, Bool.true_and, Bool.or_false, Bool.false_or, Bool.or_true, Bool.true_or, Bool.and_false, Bool.false_and, decide_true, decide_false, Nat.reduceAdd, Nat.reduceSub, List.all_cons, List.all_nil, List.any_cons, List.any_nil, Int.lt_irrefl, Int.le_refl, Int.sub_zero, Int.add_zero, Int.zero_add, true_and, and_true, false_and, and_false, and_self, or_self, or_true, true_or, or_false, false_or, not_true_eq_false, not_false_eq_true, Bool.true_eq_false, reduceCtorEq, eq_self, id_eq, List.sum_cons, List.sum_nil, ite_true, ite_false, reduceIte])
noncomputable section
/-! ### where each number stands -/
abbrev eA (p : Int × Nat) : D := .tup [.int (p.2 : Nat), .int p.1]
theorem enum_ints {row : List Int} : enumD (row.map D.int) = row.zipIdx.map eA := by
  apply List.ext_getElem
  · simp [enumD]
  · intro i h1 h2
    simp [enumD] at h1 ⊢
    rw [List.getElem?_eq_getElem h1]
    rfl
def PlaceOk (row : List Int) (kvs : Kvs) : Prop := KOk kvs ∧ (∀ y : Int, valD kvs (.inl y) = if y ∈ row then some (.int (row.idxOf y : Nat)) else none)
theorem PlaceOk.add {pre : List Int} {kvs : Kvs} {x : Int} (h : PlaceOk pre kvs) (hx : x ∉ pre) (x0 : 0 ≤ x) (x1 : x < 100) : PlaceOk (pre ++ [x]) (putD kvs (.inl x) (.int (pre.length : Nat))) := by
  refine ⟨h.1.put x0 x1, fun y => ?_⟩
  rw [valD_put]
  by_cases hy : y = x
  · subst hy
    rw [if_pos rfl, if_pos (by simp), List.idxOf_append, if_neg hx]
    simp
  · have : ¬ ((.inl y : Key) = .inl x) := fun z => hy (by cases z; rfl)
    rw [if_neg this, h.2 y]
    by_cases hp : y ∈ pre
    · rw [if_pos hp, if_pos (by simp [hp]), List.idxOf_append, if_pos hp]
    · rw [if_neg hp, if_neg (by simp [hp, hy])]
theorem ahead_iff {row : List Int} (hnd : row.Nodup) {x y : Int} (hx : x ∈ row) : Ahead row y x ↔ y ∈ row ∧ row.idxOf y < row.idxOf x := by
  have key : ∀ pre suf, row = pre ++ x :: suf → (y ∈ pre ↔ y ∈ row ∧ row.idxOf y < row.idxOf x) := by
    rintro pre suf rfl
    have hxp : x ∉ pre := fun z => by
      rw [List.nodup_append] at hnd
      exact hnd.2.2 x z x (by simp) rfl
    have e1 : (pre ++ x :: suf).idxOf x = pre.length := by rw [List.idxOf_append, if_neg hxp]; simp
    rw [e1, List.idxOf_append]
    by_cases hy : y ∈ pre
    · rw [if_pos hy]
      exact ⟨fun _ => ⟨by simp [hy], List.idxOf_lt_length_of_mem hy⟩, fun _ => hy⟩
    · rw [if_neg hy]
      exact ⟨fun z => absurd z hy, fun z => by omega⟩
  constructor
  · rintro ⟨pre, suf, e, hy⟩
    exact (key pre suf e).mp hy
  · intro h
    obtain ⟨pre, suf, e⟩ := List.append_of_mem hx
    exact ⟨pre, suf, e, (key pre suf e).mpr h⟩
def F_law_passes_right := runF N_law_passes_right P_law_passes_right (f_law_passes_right F_passes (F_law_same 6) F_law_said)
/-- who stands ahead of it, far above -/
def farI (row : List Int) (w x : Int) : List Int := row.filter fun y => decide (x + w ≤ y) && decide (row.idxOf y < row.idxOf x)
def lateI (row : List Int) (w : Int) : List Int := row.filter fun x => !(farI row w x).isEmpty
def dropI (row : List Int) : List Int := row.filter fun x => decide (x + 1 ∈ row) && decide (row.idxOf (x + 1) < row.idxOf x)
theorem late_iff {n : Nat} {w : Int} {row : List Int} (hr : RowOk n row) : lateI row w = [] ↔ ¬ LateI row w := by
  unfold lateI
  rw [List.filter_eq_nil_iff]
  constructor
  · rintro h ⟨x, y, ha, hxy⟩
    have hx : x ∈ row := by obtain ⟨p, s, e, _⟩ := ha; rw [e]; simp
    have h1 := (ahead_iff hr.nodup hx).mp ha
    have := h x hx
    rw [Bool.not_eq_true, Bool.not_eq_false', List.isEmpty_iff] at this
    unfold farI at this
    rw [List.filter_eq_nil_iff] at this
    apply this y h1.1
    rw [Bool.and_eq_true, decide_eq_true_eq, decide_eq_true_eq]
    exact ⟨hxy, h1.2⟩
  · intro h x hx
    rw [Bool.not_eq_true, Bool.not_eq_false', List.isEmpty_iff]
    unfold farI
    rw [List.filter_eq_nil_iff]
    intro y hy hh
    rw [Bool.and_eq_true, decide_eq_true_eq, decide_eq_true_eq] at hh
    exact h ⟨x, y, (ahead_iff hr.nodup hx).mpr ⟨hy, hh.2⟩, hh.1⟩
theorem drop_eq {n : Nat} {w : Int} {row : List Int} (hw : 1 ≤ w) (hr : RowOk n row) (hn : 0 < n) : timesI n true w row = 1 + ((dropI row).length : Int) := by
  classical
  rw [times_next hw hr hn]
  unfold dropI
  congr 3
  apply List.filter_congr
  intro i hi
  have hi' := hr.mem.mp hi
  unfold DropI
  rw [Bool.eq_iff_iff, Bool.and_eq_true, decide_eq_true_eq, decide_eq_true_eq, decide_eq_true_eq, ahead_iff hr.nodup hi, hr.mem]
  constructor
  · rintro ⟨h1, h2⟩
    exact ⟨h2.1, h2.2⟩
  · rintro ⟨h1, h2⟩
    exact ⟨by omega, h1, h2⟩
theorem ev_passes_right {n : Nat} {m : Str} {w : Int} {row : List Int} (hm : Ord m) (hw : 1 ≤ w) (hr : RowOk n row) (hn : n ≤ 30) : F_law_passes_right [.str m, .int w, .lst (row.map D.int)] = some (.bl true) := by
  have e1 := ev_passes hm hw hr hn
  have e2 := ev_law_said hm hw hr hn
  have e3 : F_law_same 6 [.int (timesI n (isNext m) w row), .int (timesI n (isNext m) w row)] = some (.bl true) := ev_law_same
  generalize hT : timesI n (isNext m) w row = T at *
  have hlen := hr.len
  have hsz : (row.map D.int).length ≤ sizeLine := by rw [List.length_map, sizeLine_eq]; omega
  have pk : ∀ a b c : D, pick [0, 1, 2] [a, b, c] = [a, b, c] := fun _ _ _ => rfl
  by_cases h0 : n = 0
  · subst h0
    obtain rfl := List.length_eq_zero_iff.mp hlen
    have et : T = 0 := by rw [← hT]; rfl
    subst et
    rw [List.map_nil] at e1 e2
    have n1 := ne_an; have n4 := ne_wn
    have nn : fo_ne (.lst []) (.lst []) = some (.bl false) := ne_nilL (n := 1) (xs := []) (by simp) (by decide)
    have nq : fo_eq (.lst []) (.lst []) = some (.bl true) := eq_nilL (n := 1) (xs := []) (by simp) (by decide)
    unfold F_law_passes_right f_law_passes_right
    rcases hm with rfl | rfl | rfl
    · walk_at "evh"
      unfold fLc fLc0
      walk_at "evh"
    · walk_at "evh"
      unfold fLc fLc0
      walk_at "evh"
    · walk_at "evh"
      unfold fLc fLc0
      walk_at "evh"
  have hne : row ≠ [] := fun z => by rw [z] at hlen; exact h0 hlen.symm
  have en : fo_ne (.lst (row.map D.int)) (.lst []) = some (.bl true) := by
    rw [ne_nilL (n := 1) (fun x hx => by obtain ⟨i, _, rfl⟩ := List.mem_map.mp hx; exact okD_int) (by decide)]
    cases row with
    | nil => exact absurd rfl hne
    | cons a row => rfl
  have en' : fo_eq (.lst (row.map D.int)) (.lst []) = some (.bl false) := by
    rw [eq_nilL (n := 1) (fun x hx => by obtain ⟨i, _, rfl⟩ := List.mem_map.mp hx; exact okD_int) (by decide)]
    cases row with
    | nil => exact absurd rfl hne
    | cons a row => rfl
  obtain ⟨Γ', eo, kvs, o5, o6, pre, suf, rfl, er, es, hk⟩ := forF_inv (enc := eA) (g := fgTup 2 (fgCons (fgName 5) (fgCons (fgName 6) fgNil))) (b := fPutK 4 (fVarV 6) (fVarX 5))
    (fun l Γ => ∃ kvs o5 o6 pre suf, Γ = [some (.v (.str m)), some (.v (.int w)), some (.w (.lst (row.map D.int))), some (.v (.int (T))), some (.o (.k kvs)), o5, o6, none, none, none] ∧ pre ++ suf = row ∧ l = suf.zipIdx pre.length ∧ PlaceOk pre kvs)
    row.zipIdx [some (.v (.str m)), some (.v (.int w)), some (.w (.lst (row.map D.int))), some (.v (.int (T))), some (.o (.k [])), none, none, none, none, none]
    ⟨[], none, none, [], row, rfl, rfl, rfl, KOk.nil, fun y => rfl⟩ (by
    rintro ⟨x, i⟩ l Γ ⟨kvs, o5, o6, pre, suf, rfl, er, el, hk⟩
    cases suf with
    | nil => cases el
    | cons a suf =>
      rw [List.zipIdx_cons] at el
      cases el
      have hx : 0 ≤ x ∧ x < n := hr.mem.mp (by rw [← er]; simp)
      have hnd := hr.nodup
      rw [← er] at hnd
      have hxp : x ∉ pre := fun z => by
        rw [List.nodup_append] at hnd
        exact hnd.2.2 x z x (by simp) rfl
      have hkl := hk.1.lt
      refine ⟨_, rfl, _, by walk_at "evh"; rfl, ?_⟩
      exact ⟨_, _, _, pre ++ [x], suf, rfl, by rw [← er]; simp, by simp, hk.add hxp hx.1 (by omega)⟩)
  have hk : PlaceOk row kvs := by
    cases suf with
    | nil => rw [← er, List.append_nil]; exact hk
    | cons a suf => rw [List.zipIdx_cons] at es; cases es
  clear er es
  have hin : ∀ y ∈ row, valD kvs (.inl y) = some (.int (row.idxOf y : Nat)) := fun y hy => by rw [hk.2 y, if_pos hy]
  rw [← enum_ints] at eo
  unfold F_law_passes_right f_law_passes_right
  have late : ∀ Γ : FE, fLc (fiAny (fVarV 2)) (fgName 8) (fTest (fOp fo_ne (fLc (fiAny (fVarV 2)) (fgName 9) (fAnd (fTest (fOp fo_ge (fVarV 9) (fOp fo_add (fVarV 8) (fVarV 1)))) (fTest (fOp fo_lt (fGetK 4 (fVarV 9)) (fGetK 4 (fVarV 8))))) (fVarX 9) [9]) (fLst fNil))) (fVarX 8) [8] [some (.v (.str m)), some (.v (.int w)), some (.w (.lst (row.map D.int))), some (.v (.int (T))), some (.o (.k kvs)), o5, o6, none, none, none] = some (.lst ((lateI row w).map D.int)) := by
    intro _
    rw [fLc_eq row D.int (fun x => !(farI row w x).isEmpty) D.int]
    rotate_left
    · walk_at "ev"
    · rw [sizeLine_eq]; omega
    · intro x hx
      refine ⟨_, rfl, ?_, fun _ => by walk_at "ev"⟩
      have inner : fLc (fiAny (fVarV 2)) (fgName 9) (fAnd (fTest (fOp fo_ge (fVarV 9) (fOp fo_add (fVarV 8) (fVarV 1)))) (fTest (fOp fo_lt (fGetK 4 (fVarV 9)) (fGetK 4 (fVarV 8))))) (fVarX 9) [9] [some (.v (.str m)), some (.v (.int w)), some (.w (.lst (row.map D.int))), some (.v (.int (T))), some (.o (.k kvs)), o5, o6, none, some (.v (.int x)), none] = some (.lst ((farI row w x).map D.int)) := by
        rw [fLc_eq row D.int (fun y => decide (x + w ≤ y) && decide (row.idxOf y < row.idxOf x)) D.int]
        rotate_left
        · walk_at "ev"
        · rw [sizeLine_eq]; omega
        · intro y hy
          refine ⟨_, rfl, ?_, fun _ => by walk_at "ev"⟩
          have q1 := hin x hx
          have q2 := hin y hy
          by_cases h1 : x + w ≤ y
          · by_cases h2 : row.idxOf y < row.idxOf x
            · have h3 : ((row.idxOf y : Nat) : Int) < (row.idxOf x : Nat) := by omega
              walk_at "evh"
            · have h3 : ¬ ((row.idxOf y : Nat) : Int) < (row.idxOf x : Nat) := by omega
              walk_at "evh"
          · walk_at "evh"
        rfl
      have e4 : fo_ne (.lst ((farI row w x).map D.int)) (.lst []) = some (.bl (!(farI row w x).isEmpty)) := by
        rw [ne_nilL (n := 1) (fun x hx => by obtain ⟨i, _, rfl⟩ := List.mem_map.mp hx; exact okD_int) (by decide)]
        simp
      walk_at "evh"
    rfl
  have e5 : fo_eq (.lst ((lateI row w).map D.int)) (.lst []) = some (.bl ((lateI row w).isEmpty)) := by
    rw [eq_nilL (n := 1) (fun x hx => by obtain ⟨i, _, rfl⟩ := List.mem_map.mp hx; exact okD_int) (by decide)]
    simp
  replace late := late []
  rcases Classical.em (m = "next") with rfl | hmn
  · have isn : isNext "next" = true := by decide +kernel
    have hdr := drop_eq hw hr (by omega)
    have drp : fLc (fiAny (fVarV 2)) (fgName 8) (fAnd (fTest (fInK (fOp fo_add (fVarV 8) (fC (.int 1))) 4)) (fTest (fOp fo_lt (fGetK 4 (fOp fo_add (fVarV 8) (fC (.int 1)))) (fGetK 4 (fVarV 8))))) (fVarX 8) [8] [some (.v (.str "next")), some (.v (.int w)), some (.w (.lst (row.map D.int))), some (.v (.int (T))), some (.o (.k kvs)), o5, o6, none, none, none] = some (.lst ((dropI row).map D.int)) := by
      rw [fLc_eq row D.int (fun x => decide (x + 1 ∈ row) && decide (row.idxOf (x + 1) < row.idxOf x)) D.int]
      rotate_left
      · walk_at "ev"
      · rw [sizeLine_eq]; omega
      · intro x hx
        refine ⟨_, rfl, ?_, fun _ => by walk_at "ev"⟩
        have q1 := hin x hx
        by_cases h1 : x + 1 ∈ row
        · have q2 := hin _ h1
          have q3 : ∀ d : D, (some d).isSome = true := fun _ => rfl
          by_cases h2 : row.idxOf (x + 1) < row.idxOf x
          · have h3 : ((row.idxOf (x + 1) : Nat) : Int) < (row.idxOf x : Nat) := by omega
            walk_at "evh"
          · have h3 : ¬ ((row.idxOf (x + 1) : Nat) : Int) < (row.idxOf x : Nat) := by omega
            walk_at "evh"
        · have q3 : (valD kvs (.inl (x + 1))).isSome = false := by rw [hk.2, if_neg h1]; rfl
          walk_at "evh"
      rfl
    rw [isn] at hT
    rw [hT] at hdr
    clear hT
    replace hdr := hdr.symm
    have hl : (((dropI row).map D.int).length : Int) = (dropI row).length := by rw [List.length_map]
    walk_at "evh"
  · have isn : isNext m = false := decide_eq_false hmn
    have ho := once_iff hw hr (by omega)
    rw [isn] at hT
    rw [hT] at ho
    clear hT
    have hfin : ∀ (a b : Bool), a = b → fo_eq (.bl a) (.bl b) = some (.bl true) := by
      rintro a _ rfl
      cases a <;> walk_at "ev"
    have hfin2 : fo_eq (.bl (decide (T = 1))) (.bl ((lateI row w).isEmpty)) = some (.bl true) := hfin _ _ (by
      rw [Bool.eq_iff_iff, decide_eq_true_eq, List.isEmpty_iff, ho, late_iff hr])
    walk_at "evh"
end
end K54

set_option Elab.async false
set_option linter.all false
set_option maxRecDepth 100000
set_option maxHeartbeats 4000000
namespace K54
open PySem PySem.Spec PyProof.Rows L2 DL
local macro_rules | `(tactic| walk_at "evh") => `(tactic| simp (maxSteps := 3000000) (implicitDefEqProofs := false) (disch := first | assumption | decide | ((try simp only [List.length_cons, List.length_nil, List.length_append, List.length_map, iota_length, sizeLine_eq, RgOk]); omega)) only [*, ↓in_intsT, ↓in_intsL, ↓notIn_intsT, ↓notIn_intsL, ap_fTest, ap_fAnd, ap_fOr, ap_fNot, ap_fAndV, ap_fOrV, ap_fNotV, ap_fIf, ap_fChain, ap_fYes, ap_fNoPart, ap_fPart, ap_fSl, ap_fRev, ap_fRevM, ap_fListM, ap_fSortM, ap_fFld, ap_fTupRg1, ap_fTupRg2, ap_fLstRg1, ap_fLstRg2, ap_fIsi2, ap_fVarX, ap_fVarV, ap_fVarW, ap_fC, ap_fOV, ap_fOp, ap_fUn, ap_fCB, ap_fNil, ap_fCons, ap_fTup, ap_fLst, ap_fLstM, ap_fCall, ap_fCallN, ap_fMake, ap_fNext, ap_fBreak, ap_fCont, ap_fSeq, ap_fDrop, ap_fRet, ap_fRetO, ap_fRetVar, ap_fRetN, ap_fIfS, ap_fNever, ap_fAsg, ap_fAsgO, ap_fAug, ap_fMNil, ap_fMX, ap_fMO, ap_fPar, ap_fTupM, ap_fApp, ap_fPutK, ap_fPutL, ap_fGetK, ap_fInK, ap_fNotInK, ap_fLenK, ap_fListK, ap_fDicNew, ap_fDisp, ap_fIndex, ap_fgName, ap_fgNil, ap_fgCons, ap_fgTup, ap_fiAny, ap_fiEnum, ap_fiZip, ap_fFor, ap_fLcM, xv_mx1, xv_mx2, xv_mx3, xv_mx4, xv_mn1, xv_mn2, xv_mn3, xv_mn4, xv_ne_nil, xv_eq_nil, xv_forN, xv_forC, xv_forK1, xv_forK2, xv_forK3, xv_forK4, l_forK, xv_lcN, xv_lcC, xv_zip0, xv_zipC, enumD_0, enumD_1, enumD_2, enumD_3, enumD_4, enumD_5, ap_fiRng1, ap_fiRng2, xv_rng1, xv_rng2, lookL, lookK, fPairs, setManyF, wipeF, runF, runO, startF, toW, lk_0, st_0, lk_1, st_1, lk_2, st_2, lk_3, st_3, lk_4, st_4, lk_5, st_5, lk_6, st_6, lk_7, st_7, lk_8, st_8, lk_9, st_9, lk_10, st_10, lk_11, st_11, lk_12, st_12, lk_13, st_13, lk_14, st_14, lk_15, st_15, lk_16, st_16, lk_17, st_17, lk_18, st_18, lk_19, st_19, lk_20, st_20, lk_21, st_21, lk_22, st_22, lk_23, st_23, lk_24, st_24, lk_25, st_25, lk_26, st_26, lk_27, st_27, lk_28, st_28, lk_29, st_29, lk_30, st_30, lk_31, st_31, lk_32, st_32, lk_33, st_33, lk_34, st_34, lk_35, st_35, lk_36, st_36, lk_37, st_37, lk_38, st_38, lk_39, st_39, lk_40, st_40, isi_f_non_bool, isi_f_non_int, isi_f_non_str, isi_f_non_tuple, isi_f_non_list, isi_f_bl_bool, isi_f_bl_int, isi_f_bl_str, isi_f_bl_tuple, isi_f_bl_list, isi_f_int_bool, isi_f_int_int, isi_f_int_str, isi_f_int_tuple, isi_f_int_list, isi_f_str_bool, isi_f_str_int, isi_f_str_str, isi_f_str_tuple, isi_f_str_list, isi_f_tup_bool, isi_f_tup_int, isi_f_tup_str, isi_f_tup_tuple, isi_f_tup_list, isi_f_lst_bool, isi_f_lst_int, isi_f_lst_str, isi_f_lst_tuple, isi_f_lst_list, xv_add_int, xv_add_lst, xv_add_tup, xv_add_str, xv_sub, xv_mul_int, xv_mul_lst, xv_fdiv, xv_mod, xv_pow, xv_neg, xv_lt, xv_le, xv_gt, xv_ge, xv_iadd, xv_eq_int, xv_eq_bl, xv_eq_str, xv_eq_nn, xv_eq_2017, xv_eq_2084, xv_eq_2151, xv_eq_2218, xv_eq_2285, xv_eq_2351, xv_eq_2417, xv_eq_2488, xv_eq_2559, xv_eq_2629, xv_eq_tup, xv_ne_int, xv_ne_bl, xv_ne_str, xv_ne_nn, xv_ne_3273, xv_ne_3339, xv_ne_3405, xv_ne_3471, xv_ne_3537, xv_ne_3602, xv_ne_3667, xv_ne_3737, xv_ne_3807, xv_ne_3876, xv_ne_tup, xv_is_non, xv_not_non, xv_is_bl, xv_not_bl, xv_is_int, xv_not_int, xv_is_str, xv_not_str, xv_is_tup, xv_not_tup, xv_is_lst, xv_not_lst, xv_is_obj, xv_not_obj, xv_is_bb, xv_not_bb, xv_items_lst, xv_items_tup, xv_items_scr, xv_ix, xv_in_tupi, xv_notIn_tupi, xv_in_tups, xv_notIn_tups, xv_in_lsti, xv_notIn_lsti, xv_in_lsts, xv_notIn_lsts, xv_repT, xv_len_lst, xv_len_tup, xv_len_scr, xv_len_str, xv_abs, xv_max2, xv_max3, xv_maxA, xv_min2, xv_min3, xv_minA, xv_int_int, xv_int_bl, xv_sort, xv_sumL, xv_allL, xv_anyL, xv_tuple, xv_list, xv_sl_lst, xv_sl_scr, xv_sl_tup, xv_rev, xv_revM, xv_fld, xv_asB, xv_asI, xv_dKeyS, xv_dKeyI, xv_rdX, xv_rdV, xv_rdVw, xv_rdVo, xv_rdW, xv_rdWw, xv_asL, xv_retV, xv_retVl, xv_retVn, xv_retO, xv_rtv, xv_rto, xv_then_nx, xv_then_rt, xv_then_bk, xv_then_ct, xv_asInts, xv_asIntsF, xv_asInts0, xv_asIntsC, xv_asBls, xv_asBlsF, xv_asBls0, xv_asBlsC, xv_at0, xv_at1, xv_at2, xv_at3, xv_at4, xv_at5, xv_at6, xv_at7, xv_at8, xv_ge0, xv_ge1, xv_ge2, xv_ge3, xv_ge4, xv_ge5, xv_ge6, xv_ge7, xv_ge8, xv_ge9, xv_ge10, xv_ge11, xv_ge12, l_some, l_int, l_bl, l_str, l_tup, l_lst, l_rt, l_nx, l_v, l_cons, l_then, l_retV, l_and, l_or, l_ft, l_ftp, l_same, l_dand, l_dor, gOk_if, if_sz, if_szl, if_15, Option.bind_some, Option.bind_none, Option.map_some, Option.map_none, List.nil_append, List.cons_append, List.append_nil, List.length_cons, List.length_nil, List.map_cons, List.map_nil, List.replicate_zero, List.replicate_succ, decide_eq_true_eq, Bool.not_eq_true', decide_eq_false_iff_not, Bool.not_true, Bool.not_false, Bool.and_eq_true, Bool.or_eq_true, if_true, if_false, Bool.false_eq_true, Bool.and_true, Bool.true_and, Bool.or_false, Bool.false_or, Bool.or_true, Bool.true_or, Bool.and_false, Bool.false_and, decide_true, decide_false, Nat.reduceAdd, Nat.reduceSub, List.all_cons, List.all_nil, List.any_cons, List.any_nil, Int.lt_irrefl, Int.le_refl, Int.sub_zero, Int.add_zero, Int.zero_add, true_and, and_true, false_and, and_false, and_self, or_self, or_true, true_or, or_false, false_or, not_true_eq_false, not_false_eq_true, Bool.true_eq_false, reduceCtorEq, eq_self, id_eq, List.sum_cons, List.sum_nil, ite_true, ite_false, reduceIte])
local macro_rules | `(tactic| walk_at "ev") => `(tactic| simp (maxSteps := 3000000) (implicitDefEqProofs := false) (disch := first | assumption | decide | ((try simp only [List.length_cons, List.length_nil, List.length_append, List.length_map, iota_length, sizeLine_eq, RgOk]); omega)) only [↓in_intsT, ↓in_intsL, ↓notIn_intsT, ↓notIn_intsL, ap_fTest, ap_fAnd, ap_fOr, ap_fNot, ap_fAndV, ap_fOrV, ap_fNotV, ap_fIf, ap_fChain, ap_fYes, ap_fNoPart, ap_fPart, ap_fSl, ap_fRev, ap_fRevM, ap_fListM, ap_fSortM, ap_fFld, ap_fTupRg1, ap_fTupRg2, ap_fLstRg1, ap_fLstRg2, ap_fIsi2, ap_fVarX, ap_fVarV, ap_fVarW, ap_fC, ap_fOV, ap_fOp, ap_fUn, ap_fCB, ap_fNil, ap_fCons, ap_fTup, ap_fLst, ap_fLstM, ap_fCall, ap_fCallN, ap_fMake, ap_fNext, ap_fBreak, ap_fCont, ap_fSeq, ap_fDrop, ap_fRet, ap_fRetO, ap_fRetVar, ap_fRetN, ap_fIfS, ap_fNever, ap_fAsg, ap_fAsgO, ap_fAug, ap_fMNil, ap_fMX, ap_fMO, ap_fPar, ap_fTupM, ap_fApp, ap_fPutK, ap_fPutL, ap_fGetK, ap_fInK, ap_fNotInK, ap_fLenK, ap_fListK, ap_fDicNew, ap_fDisp, ap_fIndex, ap_fgName, ap_fgNil, ap_fgCons, ap_fgTup, ap_fiAny, ap_fiEnum, ap_fiZip, ap_fFor, ap_fLcM, xv_mx1, xv_mx2, xv_mx3, xv_mx4, xv_mn1, xv_mn2, xv_mn3, xv_mn4, xv_ne_nil, xv_eq_nil, xv_forN, xv_forC, xv_forK1, xv_forK2, xv_forK3, xv_forK4, l_forK, xv_lcN, xv_lcC, xv_zip0, xv_zipC, enumD_0, enumD_1, enumD_2, enumD_3, enumD_4, enumD_5, ap_fiRng1, ap_fiRng2, xv_rng1, xv_rng2, lookL, lookK, fPairs, setManyF, wipeF, runF, runO, startF, toW, lk_0, st_0, lk_1, st_1, lk_2, st_2, lk_3, st_3, lk_4, st_4, lk_5, st_5, lk_6, st_6, lk_7, st_7, lk_8, st_8, lk_9, st_9, lk_10, st_10, lk_11, st_11, lk_12, st_12, lk_13, st_13, lk_14, st_14, lk_15, st_15, lk_16, st_16, lk_17, st_17, lk_18, st_18, lk_19, st_19, lk_20, st_20, lk_21, st_21, lk_22, st_22, lk_23, st_23, lk_24, st_24, lk_25, st_25, lk_26, st_26, lk_27, st_27, lk_28, st_28, lk_29, st_29, lk_30, st_30, lk_31, st_31, lk_32, st_32, lk_33, st_33, lk_34, st_34, lk_35, st_35, lk_36, st_36, lk_37, st_37, lk_38, st_38, lk_39, st_39, lk_40, st_40, isi_f_non_bool, isi_f_non_int, isi_f_non_str, isi_f_non_tuple, isi_f_non_list, isi_f_bl_bool, isi_f_bl_int, isi_f_bl_str, isi_f_bl_tuple, isi_f_bl_list, isi_f_int_bool, isi_f_int_int, isi_f_int_str, isi_f_int_tuple, isi_f_int_list, isi_f_str_bool, isi_f_str_int, isi_f_str_str, isi_f_str_tuple, isi_f_str_list, isi_f_tup_bool, isi_f_tup_int, isi_f_tup_str, isi_f_tup_tuple, isi_f_tup_list, isi_f_lst_bool, isi_f_lst_int, isi_f_lst_str, isi_f_lst_tuple, isi_f_lst_list, xv_add_int, xv_add_lst, xv_add_tup, xv_add_str, xv_sub, xv_mul_int, xv_mul_lst, xv_fdiv, xv_mod, xv_pow, xv_neg, xv_lt, xv_le, xv_gt, xv_ge, xv_iadd, xv_eq_int, xv_eq_bl, xv_eq_str, xv_eq_nn, xv_eq_2017, xv_eq_2084, xv_eq_2151, xv_eq_2218, xv_eq_2285, xv_eq_2351, xv_eq_2417, xv_eq_2488, xv_eq_2559, xv_eq_2629, xv_eq_tup, xv_ne_int, xv_ne_bl, xv_ne_str, xv_ne_nn, xv_ne_3273, xv_ne_3339, xv_ne_3405, xv_ne_3471, xv_ne_3537, xv_ne_3602, xv_ne_3667, xv_ne_3737, xv_ne_3807, xv_ne_3876, xv_ne_tup, xv_is_non, xv_not_non, xv_is_bl, xv_not_bl, xv_is_int, xv_not_int, xv_is_str, xv_not_str, xv_is_tup, xv_not_tup, xv_is_lst, xv_not_lst, xv_is_obj, xv_not_obj, xv_is_bb, xv_not_bb, xv_items_lst, xv_items_tup, xv_items_scr, xv_ix, xv_in_tupi, xv_notIn_tupi, xv_in_tups, xv_notIn_tups, xv_in_lsti, xv_notIn_lsti, xv_in_lsts, xv_notIn_lsts, xv_repT, xv_len_lst, xv_len_tup, xv_len_scr, xv_len_str, xv_abs, xv_max2, xv_max3, xv_maxA, xv_min2, xv_min3, xv_minA, xv_int_int, xv_int_bl, xv_sort, xv_sumL, xv_allL, xv_anyL, xv_tuple, xv_list, xv_sl_lst, xv_sl_scr, xv_sl_tup, xv_rev, xv_revM, xv_fld, xv_asB, xv_asI, xv_dKeyS, xv_dKeyI, xv_rdX, xv_rdV, xv_rdVw, xv_rdVo, xv_rdW, xv_rdWw, xv_asL, xv_retV, xv_retVl, xv_retVn, xv_retO, xv_rtv, xv_rto, xv_then_nx, xv_then_rt, xv_then_bk, xv_then_ct, xv_asInts, xv_asIntsF, xv_asInts0, xv_asIntsC, xv_asBls, xv_asBlsF, xv_asBls0, xv_asBlsC, xv_at0, xv_at1, xv_at2, xv_at3, xv_at4, xv_at5, xv_at6, xv_at7, xv_at8, xv_ge0, xv_ge1, xv_ge2, xv_ge3, xv_ge4, xv_ge5, xv_ge6, xv_ge7, xv_ge8, xv_ge9, xv_ge10, xv_ge11, xv_ge12, l_some, l_int, l_bl, l_str, l_tup, l_lst, l_rt, l_nx, l_v, l_cons, l_then, l_retV, l_and, l_or, l_ft, l_ftp, l_same, l_dand, l_dor, gOk_if, if_sz, if_szl, if_15, Option.bind_some, Option.bind_none, Option.map_some, Option.map_none, List.nil_append, List.cons_append, List.append_nil, List.length_cons, List.length_nil, List.map_cons, List.map_nil, List.replicate_zero, List.replicate_succ, decide_eq_true_eq, Bool.not_eq_true', decide_eq_false_iff_not, Bool.not_true, Bool.not_false, Bool.and_eq_true, Bool.or_eq_true, if_true, if_false, Bool.false_eq_true, Bool.and_true, Bool.true_and, Bool.or_false, Bool.false_or, Bool.or_true, Bool.true_or, Bool.and_false, Bool.false_and, decide_true, decide_false, Nat.reduceAdd, Nat.reduceSub, List.all_cons, List.all_nil, List.any_cons, List.any_nil, Int.lt_irrefl, Int.le_refl, Int.sub_zero, Int.add_zero, Int.zero_add, true_and, and_true, false_and, and_false, and_self, or_self, or_true, true_or, or_false, false_or, not_true_eq_false, not_false_eq_true, Bool.true_eq_false, reduceCtorEq, eq_self, id_eq, List.sum_cons, List.sum_nil, ite_true, ite_false, reduceIte])
local macro_rules | `(tactic| walk_at "go") => `(tactic| simp only [↓e_dTest, ↓e_dOp, ↓e_dUn, ↓e_dVar, ↓e_dC, ↓e_dAnd, ↓e_dOr, ↓e_dNot, ↓e_dAndV, ↓e_dOrV, ↓e_dNotV, ↓e_dIf, ↓e_dNil, ↓e_dCons, ↓e_dTup, ↓e_dLst, ↓e_dLstM, ↓e_dCB, ↓e_dNext, ↓e_dBreak, ↓e_dCont, ↓e_dDrop, ↓e_dRet, ↓e_dRetN, ↓e_dAsg, ↓e_dgName, ↓e_dgTup, ↓e_dgCons, ↓e_dgNil, ↓e_dgSub, ↓e_dPar, ↓e_dAug, ↓e_dBM, ↓e_dBM0, ↓e_dFld, ↓e_dCall, ↓e_dCallN, ↓e_dSl, ↓e_dRev, ↓e_dRevM, ↓e_dPart, ↓e_dNoPart, ↓e_diAny, ↓e_diRng1, ↓e_diRng2, ↓e_diEnum, ↓e_diZip, ↓e_dLc, ↓e_dLcM, ↓e_dYes, ↓e_dFor, ↓e_dIfS, ↓e_dMeth, ↓e_dTupRg1, ↓e_dTupRg2, ↓e_dLstRg1, ↓e_dLstRg2, ↓e_dIsi2, ↓e_dNever, ↓look_0, ↓look_1, ↓look_2, ↓look_3, ↓look_4, ↓look_5, ↓look_6, ↓look_7, ↓look_8, ↓look_9, ↓look_10, ↓look_11, ↓look_12, ↓look_13, ↓look_14, ↓look_15, ↓look_16, ↓look_17, ↓look_18, ↓look_19, ↓look_20, ↓look_21, ↓look_22, ↓look_23, ↓look_24, ↓look_25, ↓q_addD_int, ↓q_addD_lst, ↓q_addD_tup, ↓q_addD_str, ↓q_iaddD_int, ↓q_subD_int, ↓q_mulD_int, ↓q_mulD_lst, ↓q_fdivD_int, ↓q_modD_int, ↓q_powD_int, ↓q_negD_int, ↓q_ltD_int, ↓q_leD_int, ↓q_gtD_int, ↓q_geD_int, ↓q_eqD_int, ↓q_eqD_bl, ↓q_eqD_str, ↓q_eqD_tup, ↓q_eqD_lst, ↓q_neD_int, ↓q_neD_bl, ↓q_neD_str, ↓q_neD_tup, ↓q_neD_lst, ↓q_isD_non, ↓q_isD_bl, ↓q_notD_non, ↓q_notD_bl, ↓isNon_non, ↓isNon_int, ↓isNon_bl, ↓isNon_str, ↓isNon_tup, ↓isNon_lst, ↓q_intD_int, ↓q_intD_bl, ↓q_absD_int, ↓q_lenD_lst, ↓q_lenD_tup, ↓q_lenD_scr, ↓q_tupleD_lst, ↓q_tupleD_tup, ↓q_listD_lst, ↓q_listD_tup, ↓q_listMD_lst, ↓q_listMD_tup, ↓q_ixD_tup, ↓q_ixD_lst, ↓q_ixD_scr, ↓q_inD_lst, ↓q_inD_tup, ↓q_notInD_lst, ↓q_notInD_tup, ↓q_slD_lst, ↓q_slD_scr, ↓q_slD_tup, ↓q_revD_lst, ↓q_revMD_lst, ↓q_nthN_0, ↓q_nthN_1, ↓q_nthN_2, ↓q_nthN_3, ↓q_nthN_4, ↓q_nthN_5, ↓q_nthN_6, ↓q_srcD_lst, ↓q_srcD_scr, ↓q_srcD_tup, ↓fldsD_obj, ↓max2D_int, ↓min2D_int, ↓nth_0, ↓nth_1, ↓nth_2, ↓nth_3, ↓nth_4, ↓nth_5, ↓nth_6, ↓nth_7, ↓isi_non_bool, ↓isi_non_int, ↓isi_non_str, ↓isi_non_tuple, ↓isi_non_list, ↓isi_bl_bool, ↓isi_bl_int, ↓isi_bl_str, ↓isi_bl_tuple, ↓isi_bl_list, ↓isi_int_bool, ↓isi_int_int, ↓isi_int_str, ↓isi_int_tuple, ↓isi_int_list, ↓isi_str_bool, ↓isi_str_int, ↓isi_str_str, ↓isi_str_tuple, ↓isi_str_list, ↓isi_tup_bool, ↓isi_tup_int, ↓isi_tup_str, ↓isi_tup_tuple, ↓isi_tup_list, ↓isi_lst_bool, ↓isi_lst_int, ↓isi_lst_str, ↓isi_lst_tuple, ↓isi_lst_list, ↓ite_t_, ↓ite_f_, ↓ite_nt_, ↓ite_nf_, setMany, List.set, List.nil_append, List.cons_append, List.append_nil, List.length_cons, List.length_nil, true_and, Bool.not_true, Bool.not_false, List.isEmpty_nil, wipeD])
noncomputable section
/-! ### slices -/
theorem cut_to {xs : List D} {i : Int} (h : 0 ≤ i) : DL.cutD xs none (some i) = xs.take i.toNat := by
  unfold DL.cutD HT.sIx
  simp only [List.drop_zero, Nat.sub_zero]
  rw [if_neg (by omega)]
  by_cases h1 : i.toNat ≤ xs.length
  · rw [Nat.min_eq_left h1]
  · rw [Nat.min_eq_right (by omega), List.take_of_length_le (by omega), List.take_of_length_le (by omega)]
theorem cut_from {xs : List D} {i : Int} (h : 0 ≤ i) : DL.cutD xs (some i) none = xs.drop i.toNat := by
  unfold DL.cutD HT.sIx
  dsimp only
  rw [if_neg (by omega)]
  by_cases h1 : i.toNat ≤ xs.length
  · rw [Nat.min_eq_left h1, List.take_of_length_le (by simp)]
  · rw [Nat.min_eq_right (by omega), List.drop_eq_nil_of_le (Nat.le_refl _), List.drop_eq_nil_of_le (by omega)]
    simp
/-! ### all rows -/
def putAt (row : List Int) (k i : Int) : List Int := row.take i.toNat ++ [k] ++ row.drop i.toNat
def insI (row : List Int) (k : Int) : List (List Int) := (iota 0 (row.length + 1)).map (putAt row k)
def rowsI : Nat → List (List Int)
  | 0 => [[]]
  | k + 1 => (rowsI k).flatMap fun row => insI row (k : Int)
theorem iota_snoc (n : Nat) : iota 0 (n + 1) = iota 0 n ++ [(n : Int)] := by
  unfold iota
  rw [List.range_succ, List.map_append]
  simp
theorem rowsI_ok : ∀ (k : Nat) (r : List Int), r ∈ rowsI k → RowOk k r
  | 0, r, h => by
    have : r = [] := by simpa [rowsI] using h
    subst this
    exact ⟨List.Perm.refl _⟩
  | k + 1, r, h => by
    rw [rowsI, List.mem_flatMap] at h
    obtain ⟨row, h1, h2⟩ := h
    have ih := (rowsI_ok k row h1).perm
    unfold insI at h2
    obtain ⟨i, _, rfl⟩ := List.mem_map.mp h2
    refine ⟨?_⟩
    rw [iota_snoc]
    unfold putAt
    have e : (row.take i.toNat ++ [(k : Int)] ++ row.drop i.toNat).Perm ([(k : Int)] ++ row) := by
      have : ([(k : Int)] ++ row).Perm ([(k : Int)] ++ (row.take i.toNat ++ row.drop i.toNat)) := by rw [List.take_append_drop]
      refine List.Perm.trans ?_ this.symm
      rw [← List.append_assoc]
      exact (List.perm_append_comm).append_right _
    exact e.trans ((List.perm_append_comm).trans (ih.append_right _))
def F_law_all_rows := runF N_law_all_rows P_law_all_rows f_law_all_rows
abbrev encR (r : List Int) : D := .lst (r.map D.int)
theorem ev_put {row : List Int} {k x : Int} {a0 a1 a3 : Option FV} (hx : 0 ≤ x) (hr : row.length ≤ 30) : (fOp fo_add (fOp fo_add (fSl (fVarV 4) fNoPart (fPart (fVarV 5))) (fLst (fCons (fVarX 2) fNil))) (fSl (fVarV 4) (fPart (fVarV 5)) fNoPart)) [a0, a1, some (.v (.int k)), a3, some (.v (.lst (row.map D.int))), some (.v (.int x))] = some (.lst ((row.take x.toNat).map D.int ++ [D.int k] ++ (row.drop x.toNat).map D.int)) := by
    have c1 : DL.cutD (row.map D.int) none (some x) = (row.take x.toNat).map D.int := by rw [cut_to hx, List.map_take]
    have c2 : DL.cutD (row.map D.int) (some x) none = (row.drop x.toNat).map D.int := by rw [cut_from hx, List.map_drop]
    have l1 : ((row.take x.toNat).map D.int).length ≤ 30 := by rw [List.length_map, List.length_take]; omega
    have l2 : ((row.drop x.toNat).map D.int).length ≤ 30 := by rw [List.length_map, List.length_drop]; omega
    clear hr hx
    generalize (row.take x.toNat).map D.int = A at *
    generalize (row.drop x.toNat).map D.int = B at *
    walk_at "evh"
theorem ev_ins {row : List Int} {k : Int} {a0 a1 a3 a5 : Option FV} (hr : row.length ≤ 30) :
    fLc (fiRng1 (fCons (fOp fo_add (fCB fo_len (fCons (fVarV 4) fNil)) (fC (.int 1))) fNil)) (fgName 5) fYes (fOp fo_add (fOp fo_add (fSl (fVarV 4) fNoPart (fPart (fVarV 5))) (fLst (fCons (fVarX 2) fNil))) (fSl (fVarV 4) (fPart (fVarV 5)) fNoPart)) [5] [a0, a1, some (.v (.int k)), a3, some (.v (encR row)), a5] = some (.lst ((insI row k).map encR)) := by
  rw [fLc_all (iota 0 (row.length + 1)) D.int (fun i => encR (putAt row k i))]
  rotate_left
  · have hl : ((row.map D.int).length : Int) = row.length := by rw [List.length_map]
    have ho : (((row.length : Int) + 1).toNat) = row.length + 1 := by omega
    have rg : -(2 ^ 62) ≤ ((row.length : Int) + 1) ∧ ((row.length : Int) + 1) < 2 ^ 62 := by omega
    have e1 : (fCons (fOp fo_add (fCB fo_len (fCons (fVarV 4) fNil)) (fC (.int 1))) fNil) [a0, a1, some (.v (.int k)), a3, some (.v (encR row)), a5] = some [.int ((row.length : Int) + 1)] := by
      clear ho rg
      unfold encR
      walk_at "evh"
    rw [ap_fiRng1, e1, Option.bind_some, xv_rng1 rg, ho]
  · rw [iota_length, sizeLine_eq]; omega
  · intro x hx
    rw [mem_iota] at hx
    refine ⟨_, rfl, rfl, ?_⟩
    have := ev_put (k := k) (a0 := a0) (a1 := a1) (a3 := a3) hx.1 hr
    unfold putAt encR
    rw [List.map_append, List.map_append]
    exact this
  unfold insI
  rw [List.map_map, Function.comp_def]
theorem rows_len : ∀ k, k < 4 → (rowsI (k + 1)).length ≤ 24
  | 0, _ => by decide
  | 1, _ => by decide
  | 2, _ => by decide
  | 3, _ => by decide
  | k + 4, h => by omega
theorem ev_rows {n : Nat} (hn : n ≤ 4) : F_law_all_rows [.int n] = some (.lst ((rowsI n).map encR)) := by
  unfold F_law_all_rows f_law_all_rows
  have rg : -(2 ^ 62) ≤ (n : Int) ∧ (n : Int) < 2 ^ 62 := by omega
  have ho : ((n : Int)).toNat = n := by omega
  obtain ⟨Γ', e0, eo⟩ := forF_inv (enc := D.int) (g := fgName 2) (b := fSeq (fAsg (fLst fNil) (fgName 3))
    (fSeq (fFor (fiAny (fVarW 1)) (fgName 4)
    (fAsg (fOp fo_add (fVarV 3) (fLc (fiRng1 (fCons (fOp fo_add (fCB fo_len (fCons (fVarV 4) fNil)) (fC (.int 1))) fNil)) (fgName 5) fYes (fOp fo_add (fOp fo_add (fSl (fVarV 4) fNoPart (fPart (fVarV 5))) (fLst (fCons (fVarX 2) fNil))) (fSl (fVarV 4) (fPart (fVarV 5)) fNoPart)) [5])) (fgName 3)))
    (fAsg (fVarX 3) (fgName 1))))
    (fun l Γ => ∃ k o2 o3 o4 o5, l = (List.range' k (n - k)).map Int.ofNat ∧ k ≤ n ∧ Γ = [some (.v (.int n)), some (.v (.lst ((rowsI k).map encR))), o2, o3, o4, o5]) (iota 0 n) [some (.v (.int n)), some (.v (.lst ((rowsI 0).map encR))), none, none, none, none]
    ⟨0, none, none, none, none, by unfold iota; rw [List.range_eq_range']; simp, by omega, rfl⟩ (by
    rintro x l Γ ⟨k, o2, o3, o4, o5, el, hk, rfl⟩
    have hkn : k < n := by
      by_cases h : k < n
      · exact h
      · rw [show n - k = 0 by omega] at el; cases el
    rw [show n - k = (n - k - 1) + 1 by omega, List.range'_succ, List.map_cons] at el
    cases el
    have hl4 := rows_len k (by omega)
    have hrow : ∀ r ∈ rowsI k, r.length ≤ 30 := fun r hr => by rw [(rowsI_ok k r hr).len]; omega
    -- the rows of one number more
    have key := forF_inv (enc := encR) (g := fgName 4) (b := fAsg (fOp fo_add (fVarV 3) (fLc (fiRng1 (fCons (fOp fo_add (fCB fo_len (fCons (fVarV 4) fNil)) (fC (.int 1))) fNil)) (fgName 5) fYes (fOp fo_add (fOp fo_add (fSl (fVarV 4) fNoPart (fPart (fVarV 5))) (fLst (fCons (fVarX 2) fNil))) (fSl (fVarV 4) (fPart (fVarV 5)) fNoPart)) [5])) (fgName 3))
      (fun l Γ => ∃ pre o4 o5, rowsI k = pre ++ l ∧ Γ = [some (.v (.int n)), some (.v (.lst ((rowsI k).map encR))), some (.v (.int (Int.ofNat k))), some (.v (.lst ((pre.flatMap fun row => insI row (k : Int)).map encR))), o4, o5]) (rowsI k)
      [some (.v (.int n)), some (.v (.lst ((rowsI k).map encR))), some (.v (.int (Int.ofNat k))), some (.v (.lst [])), o4, o5] ⟨[], o4, o5, rfl, rfl⟩ (by
      rintro row l Γ ⟨pre, o4, o5, er, rfl⟩
      have hin : row ∈ rowsI k := by rw [er]; simp
      have e := @ev_ins row (Int.ofNat k) (some (.v (.int n))) (some (.v (.lst ((rowsI k).map encR)))) (some (.v (.lst ((pre.flatMap fun row => insI row (k : Int)).map encR)))) o5 (hrow row hin)
      have hz : ((pre.flatMap fun row => insI row (k : Int)).map encR).length + ((insI row (Int.ofNat k)).map encR).length ≤ sizeLine := by
        have : (rowsI (k + 1)).length = ((pre.flatMap fun row => insI row (k : Int)).length + (insI row (k : Int)).length) + (l.flatMap fun row => insI row (k : Int)).length := by
          rw [rowsI, er, List.flatMap_append, List.flatMap_cons, List.length_append, List.length_append, Nat.add_assoc]
        rw [List.length_map, List.length_map, sizeLine_eq]
        have h2 : (insI row (Int.ofNat k)).length = (insI row (k : Int)).length := rfl
        omega
      generalize hA : ((pre.flatMap fun row => insI row (k : Int)).map encR) = A at *
      generalize hB : (insI row (Int.ofNat k)).map encR = B at *
      have ef : [some (FV.v (D.int n)), some (.v (.lst ((rowsI k).map encR))), some (.v (.int (Int.ofNat k))), some (.v (.lst (A ++ B))), some (.v (encR row)), o5] = [some (FV.v (D.int n)), some (.v (.lst ((rowsI k).map encR))), some (.v (.int (Int.ofNat k))), some (.v (.lst (((pre ++ [row]).flatMap fun row => insI row (k : Int)).map encR))), some (.v (encR row)), o5] := by
        rw [List.flatMap_append, List.map_append, hA, ← hB]
        simp
      clear hA hB
      generalize rowsI k = R at *
      refine ⟨_, rfl, .nx [some (FV.v (D.int n)), some (.v (.lst (R.map encR))), some (.v (.int (Int.ofNat k))), some (.v (.lst (A ++ B))), some (.v (encR row)), o5], ?_, pre ++ [row], _, _, by rw [er]; simp, ef⟩
      clear ef er
      walk_at "evh")
    obtain ⟨Γ', e, pre, o4', o5', er, rfl⟩ := key
    rw [List.append_nil] at er
    subst er
    have es : rowsI (k + 1) = (rowsI k).flatMap fun row => insI row (k : Int) := rfl
    rw [← es] at e
    refine ⟨_, rfl, .nx [some (FV.v (D.int n)), some (.v (.lst ((rowsI (k + 1)).map encR))), some (.v (.int (Int.ofNat k))), some (.v (.lst ((rowsI (k + 1)).map encR))), o4', o5'], ?_, k + 1, some (.v (.int (Int.ofNat k))), some (.v (.lst ((rowsI (k + 1)).map encR))), o4', o5', by rw [show n - (k + 1) = n - k - 1 by omega], by omega, rfl⟩
    clear es
    walk_at "evh")
  obtain ⟨k, o2, o3, o4, o5, el, hk, rfl⟩ := eo
  obtain rfl : k = n := by
    by_cases h : k < n
    · rw [show n - k = (n - k - 1) + 1 by omega, List.range'_succ, List.map_cons] at el
      cases el
    · omega
  clear el
  have e00 : (rowsI 0).map encR = [.lst []] := rfl
  rw [e00] at e0
  have hr1 : rng1F [.int (k : Int)] = some ((iota 0 k).map D.int) := by rw [xv_rng1 rg, ho]
  clear ho
  generalize rowsI k = R at *
  generalize hit : (iota 0 k).map D.int = it at *
  clear hit hk hn
  generalize (k : Int) = z at *
  walk_at "evh"
/-! ### a row in another sequence -/
def S_shuf : DSp := fun ds M Q => ∃ x ns, ds = [x, .lst ((ns : List Int).map D.int)] ∧ IsSrc M x ∧ ns.length < 1000000 ∧ ∀ ms : List Int, ms.Perm ns → Q (.lst (ms.map D.int)) M
theorem erase_map : ∀ (ns : List Int) (i : Nat), (ns.eraseIdx i).map D.int = (ns.map D.int).eraseIdx i
  | [], _ => rfl
  | _ :: _, 0 => rfl
  | n :: ns, i + 1 => by simp only [List.eraseIdx_cons_succ, List.map_cons, erase_map ns i]
theorem popAt_r {M : Mem} {a : Addr} {ns : List Int} {i : Int} {Q : QD} (e : M a = some (.lst (ns.map D.int))) (h0 : 0 ≤ i) (h1 : i < ns.length) (hl : ns.length < 1000000) (q : ∀ x, ns[i.toNat]? = some x → Q (.int x) (mput M a (.lst ((ns.eraseIdx i.toNat).map D.int)))) : popAtD (.ref a) [.int i] M Q := by
  unfold popAtD
  simp only [e]
  have es : seqIndex? i (ns.map D.int).length = some i.toNat := by
    have hn : ¬ i < 0 := by omega
    simp [seqIndex?, hn, h0, h1]
  refine ⟨by omega, by omega, ?_⟩
  simp only [es]
  have hg : ns[i.toNat]? = some (ns[i.toNat]'(by omega)) := List.getElem?_eq_getElem (by omega)
  unfold nthN
  have hg2 : (ns.map D.int)[i.toNat]? = some (.int (ns[i.toNat]'(by omega))) := by rw [List.getElem?_map, hg]; rfl
  simp only [hg2]
  have := q _ hg
  rwa [erase_map] at this
theorem perm_erase {ns : List Int} {i : Nat} {x : Int} (h : ns[i]? = some x) : (x :: ns.eraseIdx i).Perm ns := by
  induction ns generalizing i with
  | nil => cases h
  | cons n ns ih =>
    cases i with
    | zero => cases h; exact List.Perm.refl _
    | succ i =>
      rw [List.eraseIdx_cons_succ]
      exact (List.Perm.swap n x _).trans ((ih h).cons n)
theorem mem_ref {M : Mem} {a : Addr} {ds : List D} : mput M a (.lst ds) a = some (.lst ds) := mput_same
theorem sem_shuf : ∀ ds M Q, S_shuf ds M Q → b_law_shuffled S_draw { nx := fun _ M => gcQ Q .non M, rt := gcQ Q } (startD N_law_shuffled ds) M := by
  rintro ds M Q ⟨x, ns, rfl, hs, hl, q⟩
  unfold b_law_shuffled
  show dSeq _ _ _ [some x, some (.lst (ns.map D.int)), none, none] M
  refine sq_ fun nx go => ?_
  try walk_at "go"
  intro p hp
  refine ⟨by decide, fun p2 hp2 => ?_⟩
  have hne : p2 ≠ p := fun z => by rw [z, mput_same] at hp2; cases hp2
  have hne' : p ≠ p2 := fun z => hne z.symm
  have hp2' : M p2 = none := by rwa [mput_ne hne] at hp2
  try walk_at "go"
  refine go _ _ (sq_ fun nx go => ?_)

  show dWhile _ _ _ [some x, some (.lst (ns.map D.int)), some (.ref p), some (.ref p2)] _
  refine ⟨fun m Γ M' => Γ = [some x, some (.lst (ns.map D.int)), some (.ref p), some (.ref p2)] ∧ ∃ rest made : List Int, m = rest.length ∧ M' = mput (mput M p (.lst (rest.map D.int))) p2 (.lst (made.map D.int)) ∧ (made ++ rest).Perm ns, ⟨_, rfl, ns, [], rfl, rfl, List.Perm.refl _⟩, ?_⟩
  rintro m Γ M' ⟨rfl, rest, made, rfl, rfl, hperm⟩
  have er : mput (mput M p (.lst (rest.map D.int))) p2 (.lst (made.map D.int)) p = some (.lst (rest.map D.int)) := by rw [mput_ne hne', mput_same]
  have hrl : rest.length ≤ ns.length := by have := hperm.length_eq; rw [List.length_append] at this; omega
  have hml : made.length + rest.length = ns.length := by have := hperm.length_eq; rwa [List.length_append] at this
  try walk_at "go"
  refine ⟨Nat.zero_le _, ne_nil er ?_⟩
  by_cases hempty : rest = []
  · subst hempty
    try walk_at "go"
    rw [List.append_nil] at hperm
    refine go _ _ ?_
    try walk_at "go"
    refine .inr ⟨p2, made.map D.int, M, rfl, mput_same, ?_, q made hperm⟩
    intro a m ha
    have h1 : a ≠ p2 := fun z => by rw [z, hp2'] at ha; cases ha
    have h2 : a ≠ p := fun z => by rw [z, hp] at ha; cases ha
    rw [mdel_ne h1, mput_ne h1, mput_ne h2]
    exact ha
  · have e0 : (!rest.isEmpty) = true := by cases rest with | nil => exact absurd rfl hempty | cons a r => rfl
    rw [e0]
    try walk_at "go"
    refine ⟨fun Γ' M' => ∃ m', m' < rest.length ∧ Γ' = [some x, some (.lst (ns.map D.int)), some (.ref p), some (.ref p2)] ∧ ∃ rest made : List Int, m' = rest.length ∧ M' = mput (mput M p (.lst (rest.map D.int))) p2 (.lst (made.map D.int)) ∧ (made ++ rest).Perm ns, fun _ _ h => h, isLst_ref mput_same, isLst_ref er, ?_⟩
    unfold lenD
    simp only [view_of er]
    have hs' : IsSrc (mput (mput M p (.lst (rest.map D.int))) p2 (.lst (made.map D.int))) x := by
      refine Kp.src (fun a m ha => ?_) hs
      have h1 : a ≠ p2 := fun z => by rw [z, hp2'] at ha; cases ha
      have h2 : a ≠ p := fun z => by rw [z, hp] at ha; cases ha
      rw [mput_ne h1, mput_ne h2]
      exact ha
    have h0 : 0 < rest.length := by cases rest with | nil => exact absurd rfl hempty | cons a r => simp
    rw [List.length_map]
    refine draw_ hs' (by omega) (by omega) fun r r0 r1 => popAt_r er r0 r1 (by omega) fun y hy => ?_
    have e2 : mput (mput (mput M p (.lst (rest.map D.int))) p2 (.lst (made.map D.int))) p (.lst ((rest.eraseIdx r.toNat).map D.int)) = mput (mput M p (.lst ((rest.eraseIdx r.toNat).map D.int))) p2 (.lst (made.map D.int)) := by
      funext b
      by_cases b1 : b = p
      · subst b1; rw [mput_same, mput_ne hne', mput_same]
      · rw [mput_ne b1]
        by_cases b2 : b = p2
        · subst b2; rw [mput_same, mput_same]
        · rw [mput_ne b2, mput_ne b2, mput_ne b1, mput_ne b1]
    rw [e2]
    refine app_r mput_same (by rw [List.length_map, sizeLine_eq]; omega) ?_
    rw [mput_mput]
    have hp3 := perm_erase hy
    refine ⟨(rest.eraseIdx r.toNat).length, ?_, by first | rfl | trivial, rest.eraseIdx r.toNat, made ++ [y], rfl, by rw [List.map_append]; rfl, ?_⟩
    · have := hp3.length_eq
      rw [List.length_cons] at this
      omega
    · refine List.Perm.trans ?_ hperm
      rw [List.append_assoc]
      exact hp3.append_left made
/-! ### a drawn row -/
def S_row : DSp := fun ds M Q => ∃ x n, ds = [x, .int ((n : Nat) : Int)] ∧ IsSrc M x ∧ 0 < n ∧ n ≤ 30 ∧ ∀ (row : List Int) M', Kp M M' → RowOk n row → Q (.lst (row.map D.int)) M'
theorem ix_l {xs : List D} {i : Int} {d : D} (h0 : 0 ≤ i) (h : xs[i.toNat]? = some d) : L2.atI xs i = some d := by
  have hl : i.toNat < xs.length := by
    rcases List.getElem?_eq_some_iff.mp h with ⟨h, _⟩
    exact h
  unfold L2.atI ixN
  rw [if_pos h0, if_pos (by omega)]
  exact h
theorem two_of {row : List Int} {i : Int} (h0 : 0 ≤ i) (h : i + 1 < row.length) : ∃ A a b B, row = A ++ a :: b :: B ∧ A.length = i.toNat := by
  refine ⟨row.take i.toNat, row[i.toNat]'(by omega), row[i.toNat + 1]'(by omega), row.drop (i.toNat + 2), ?_, by rw [List.length_take]; omega⟩
  rw [List.getElem_cons_drop, List.getElem_cons_drop, List.take_append_drop]
theorem ev_swap {A B : List Int} {a b i : Int} {x k t : FV} {n : Nat} (hi : 0 ≤ i) (hA : A.length = i.toNat) (hB : A.length + B.length ≤ 30) : (fAsg (fOp fo_add (fOp fo_add (fSl (fVarV 2) fNoPart (fPart (fVarV 4))) (fLst (fCons (fOp fo_ix (fVarV 2) (fOp fo_add (fVarV 4) (fC (.int 1)))) (fCons (fOp fo_ix (fVarV 2) (fVarV 4)) fNil)))) (fSl (fVarV 2) (fPart (fOp fo_add (fVarV 4) (fC (.int 2)))) fNoPart)) (fgName 2)) [some x, some (.v (.int n)), some (.v (.lst ((A ++ a :: b :: B).map D.int))), some k, some (.v (.int i)), some t] = some (.nx [some x, some (.v (.int n)), some (.v (.lst ((A ++ b :: a :: B).map D.int))), some k, some (.v (.int i)), some t]) := by
  have e1 : L2.atI ((A ++ a :: b :: B).map D.int) (i + 1) = some (.int b) := ix_l (by omega) (by
    rw [List.getElem?_map, List.getElem?_append_right (by omega), show (i + 1).toNat - A.length = 1 by omega]; rfl)
  have e2 : L2.atI ((A ++ a :: b :: B).map D.int) i = some (.int a) := ix_l (by omega) (by
    rw [List.getElem?_map, List.getElem?_append_right (by omega), show i.toNat - A.length = 0 by omega]; rfl)
  have c1 : DL.cutD ((A ++ a :: b :: B).map D.int) none (some i) = A.map D.int := by
    rw [cut_to hi, ← List.map_take, ← hA, List.take_left]
  have c2 : DL.cutD ((A ++ a :: b :: B).map D.int) (some (i + 2)) none = B.map D.int := by
    rw [cut_from (by omega), ← List.map_drop, show A ++ a :: b :: B = (A ++ [a, b]) ++ B by simp, List.drop_left' (by simp; omega)]
  have l1 : (A.map D.int).length + (B.map D.int).length ≤ 30 := by rw [List.length_map, List.length_map]; exact hB
  have ef : (A ++ b :: a :: B).map D.int = A.map D.int ++ ([D.int b, D.int a] ++ B.map D.int) := by simp
  rw [ef]
  clear hA hB ef
  generalize (A ++ a :: b :: B).map D.int = R at *
  generalize A.map D.int = A' at *
  generalize B.map D.int = B' at *
  walk_at "evh"
  try simp
theorem swap_ok {n : Nat} {A B : List Int} {a b : Int} (h : RowOk n (A ++ a :: b :: B)) : RowOk n (A ++ b :: a :: B) :=
  ⟨((List.Perm.swap a b B).append_left A).trans h.perm⟩
theorem turn_ok {n : Nat} {i : Nat} {row : List Int} (h : RowOk n row) : RowOk n (row.drop i ++ row.take i) :=
  ⟨List.perm_append_comm.trans (by rw [List.take_append_drop]; exact h.perm)⟩
theorem sem_row : ∀ ds M Q, S_row ds M Q → b_law_row_drawn S_draw S_shuf { nx := fun _ M => gcQ Q .non M, rt := gcQ Q } (startD N_law_row_drawn ds) M := by
  rintro ds M Q ⟨x, n, rfl, hs, h0, h30, q⟩
  have hn0 : ((n : Int)).toNat = n := by omega
  have hid : RowOk n (iota 0 n) := ⟨List.Perm.refl _⟩
  unfold b_law_row_drawn
  show dSeq _ _ _ [some x, some (.int n), none, none, none, none] M
  refine sq_ fun nx go => ?_
  walk_at "go"
  refine ⟨⟨by omega, by omega, by omega, by omega, by omega⟩, draw_ hs (by decide) (by decide) fun kind k0 k1 => ?_⟩
  rw [rngD_iota, hn0]
  refine go _ _ (sq_ fun nx go => ?_)
  walk_at "go"
  refine ite_dec (fun _ => ⟨x, iota 0 n, rfl, hs, by rw [iota_length]; omega, fun ms hp => .inl ⟨M, Kp.refl, q ms M Kp.refl ⟨hp⟩⟩⟩) (fun _ => go _ _ (sq_ fun nx go => ?_))
  walk_at "go"
  refine ite_dec (fun _ => ?_) (fun _ => go _ _ (sq_ fun nx go => ?_))
  · rw [← List.map_reverse]
    exact .inl ⟨M, Kp.refl, q _ M Kp.refl ⟨(List.reverse_perm _)⟩⟩
  walk_at "go"
  have last : nx [some x, some (.int n), some (.lst ((iota 0 n).map D.int)), some (.int kind), none, none] M := by
    refine go _ _ (sq_ fun nx go => ?_)
    walk_at "go"
    refine ⟨.inl ⟨by decide, by decide⟩, draw_ hs (by omega) (by omega) fun r r0 r1 => ?_⟩
    refine ⟨⟨by omega, by omega⟩, ?_⟩
    refine DL.forL_inv (fun ds Γ M' => Kp M M' ∧ ∃ row o4 o5, RowOk n row ∧ Γ = [some x, some (.int n), some (.lst (row.map D.int)), some (.int kind), o4, o5]) (fun _ _ _ _ => trivial) ?_ ?_ _ _ _ ⟨Kp.refl, _, _, _, hid, rfl⟩
    · rintro Γ M' ⟨kp, row, o4, o5, hr, rfl⟩
      refine go _ _ ?_
      walk_at "go"
      exact .inl ⟨M', Kp.refl, q _ M' kp hr⟩
    · rintro d ds Γ M' ⟨kp, row, o4, o5, hr, rfl⟩ nx' go'
      have hlen := hr.len
      try walk_at "go"
      refine sq_ fun nx2 go2 => ?_
      try walk_at "go"
      have fin : ∀ i : Int, 0 ≤ i → nx2 [some x, some (.int n), some (.lst (row.map D.int)), some (.int kind), some (.int i), some d] M' := by
        intro i i0
        refine go2 _ _ ?_
        by_cases hi : i + 1 < n
        · obtain ⟨A, a, b, B, rfl, hA⟩ := two_of (row := row) i0 (by omega)
          have hl2 : A.length + B.length ≤ 30 := by rw [List.length_append, List.length_cons, List.length_cons] at hlen; omega
          refine nx_pu (hs := by unfold w1_law_row_drawn_74; infer_instance) w1_law_row_drawn_74 (Γ' := [some (.v x), some (.v (.int n)), some (.v (.lst ((A ++ b :: a :: B).map D.int))), some (.v (.int kind)), some (.v (.int i)), some (.v d)]) ?_ fun Γw M2 k2 R => ?_
          · have e := @ev_swap A B a b i (.v x) (.v (.int kind)) (.v d) n i0 hA hl2
            have ht : (fTest (fOp fo_lt (fOp fo_add (fVarV 4) (fC (.int 1))) (fVarV 1))) [some (.v x), some (.v (.int n)), some (.v (.lst ((A ++ a :: b :: B).map D.int))), some (.v (.int kind)), some (.v (.int i)), some (.v d)] = some true := by
              clear e
              generalize (A ++ a :: b :: B).map D.int = R1 at *
              walk_at "evh"
            show w1_law_row_drawn_74 [some (.v x), some (.v (.int n)), some (.v (.lst ((A ++ a :: b :: B).map D.int))), some (.v (.int kind)), some (.v (.int i)), some (.v d)] = _
            unfold w1_law_row_drawn_74
            rw [ap_fIfS, ht, Option.bind_some, if_pos rfl]
            exact e
          · obtain ⟨a0, a1, a2, a3, a4, a5, rfl⟩ := lit_6 (l := Γw) R.len.symm
            cases R.at (i := 0) rfl
            cases R.at (i := 1) rfl
            cases R.at (i := 2) rfl
            cases R.at (i := 3) rfl
            exact go' _ _ ⟨kp.trans k2, _, _, _, swap_ok hr, rfl⟩
        · walk_at "go"
          refine ite_dec (fun z => absurd z hi) fun _ => ?_
          exact go' _ _ ⟨kp, _, _, _, hr, rfl⟩
      refine ite_dec (fun h => ?_) (fun h => ?_)
      · refine draw_ (kp.src hs) (by omega) (by omega) fun i i0 i1 => ?_
        exact fin i i0
      · exact fin 0 (by omega)
  refine ite_dec (fun _ => ?_) (fun _ => last)
  refine ite_dec (fun _ => ?_) (fun _ => last)
  refine sq_ fun nx2 go2 => ?_
  walk_at "go"
  refine draw_ hs (by omega) (by omega) fun i i0 i1 => ?_
  refine go2 _ _ ?_
  have hr := turn_ok (i := i.toNat) hid
  refine rt_pu (hs := by unfold w1_law_row_drawn_71; infer_instance) w1_law_row_drawn_71 (x := .lst (((iota 0 n).drop i.toNat ++ (iota 0 n).take i.toNat).map D.int)) ?_ fun M2 k2 => .inl ⟨M2, Kp.refl, q _ M2 k2 hr⟩
  have c1 : DL.cutD ((iota 0 n).map D.int) none (some i) = ((iota 0 n).take i.toNat).map D.int := by rw [cut_to i0, List.map_take]
  have c2 : DL.cutD ((iota 0 n).map D.int) (some i) none = ((iota 0 n).drop i.toNat).map D.int := by rw [cut_from i0, List.map_drop]
  have l1 : (((iota 0 n).drop i.toNat).map D.int).length + (((iota 0 n).take i.toNat).map D.int).length ≤ sizeLine := by
    rw [List.length_map, List.length_map, List.length_take, List.length_drop, iota_length, sizeLine_eq]; omega
  unfold w1_law_row_drawn_71 exF
  rw [List.map_append]
  generalize (iota 0 n).map D.int = R1 at *
  generalize ((iota 0 n).take i.toNat).map D.int = R2 at *
  generalize ((iota 0 n).drop i.toNat).map D.int = R3 at *
  walk_at "evh"
/-! ### the law -/
def S_law : DSp := fun ds M Q => ∃ ns : List Int, ds = [.scr (ns.map D.int)] ∧ ns.length ≤ 63 ∧ ∀ M', Q (.bl true) M'
theorem ord_pick {v : D} (hv : v ∈ [D.str "any", .str "next", .str "wait"]) : ∃ m, v = .str m ∧ Ord m := by
  simp only [List.mem_cons, List.not_mem_nil, or_false] at hv
  rcases hv with rfl | rfl | rfl
  · exact ⟨_, rfl, .inl rfl⟩
  · exact ⟨_, rfl, .inr (.inl rfl)⟩
  · exact ⟨_, rfl, .inr (.inr rfl)⟩
theorem sem_law : ∀ ds M Q, S_law ds M Q → b_law S_heap (pureSp F_law_all_rows) S_draw (pureSp F_law_passes_right) S_pick S_row (pureSp F_passes) (pureSp (F_law_same 6)) { nx := fun _ M => Q .non M, rt := Q } (startD N_law ds) M := by
  rintro ds M Q ⟨ns, rfl, hl, q⟩
  unfold b_law
  show dSeq _ _ _ [some (.scr (ns.map D.int)), none, none, none, none, none] M
  refine sq_ fun nx go => ?_
  walk_at "go"
  refine ⟨ns, rfl, hl, fun h c hh hc hne => ?_⟩
  have hs : IsSrc (mput (mput M c .srcC) h (.srcH c)) (.ref h) := ⟨h, c, rfl, mput_same, by rw [mput_ne hne.symm, mput_same]⟩
  generalize mput (mput M c .srcC) h (.srcH c) = M1 at hs
  refine go _ _ (sq_ fun nx go => ?_)
  walk_at "go"
  refine draw_ hs (by decide) (by decide) fun r r0 r1 => ?_
  obtain ⟨k, rfl⟩ : ∃ k : Nat, r = k := ⟨r.toNat, by omega⟩
  refine pureSp_of (ev_rows (n := k) (by omega)) ?_
  try walk_at "go"
  refine DL.forL_inv (fun ds Γ M' => IsSrc M' (.ref h) ∧ ∃ (rows : List (List Int)) (o2 o3 o4 o5 : Option D), ds = rows.map encR ∧ (∀ r ∈ rows, RowOk k r) ∧ Γ = [some (.scr (ns.map D.int)), some (.ref h), o2, o3, o4, o5]) (fun _ _ _ _ => trivial) ?_ ?_ _ _ _ ⟨hs, rowsI k, _, _, _, _, rfl, rowsI_ok k, rfl⟩
  · rintro Γ M2 ⟨hs, rows, o2, o3, o4, o5, -, -, rfl⟩
    refine go _ _ (sq_ fun nx go => ?_)
    walk_at "go"
    refine pureSp_of (ev_rows (n := 4) (by decide)) ?_
    try walk_at "go"
    refine draw_ hs (by decide) (by decide) fun r r0 r1 => ?_
    have hl4 : (rowsI 4).length = 24 := by decide
    have hg : ((rowsI 4).map encR)[r.toNat]? = some (encR ((rowsI 4)[r.toNat]'(by omega))) := by rw [List.getElem?_map, List.getElem?_eq_getElem]; rfl
    have hrow : RowOk 4 ((rowsI 4)[r.toNat]'(by omega)) := rowsI_ok 4 _ (List.getElem_mem _)
    generalize (rowsI 4)[r.toNat]'(by omega) = row at hg hrow
    generalize (rowsI 4).map encR = L at *
    have hat : L2.atI L r = some (encR row) := ix_l r0 hg
    try walk_at "go"
    unfold nth
    simp only [hat]
    refine go _ _ (sq_ fun nx go => ?_)
    walk_at "go"
    refine ⟨by decide, ?_⟩
    refine DL.forL_inv (fun ds Γ M' => IsSrc M' (.ref h) ∧ ∃ (os : List Str) (o3 o4 o5 : Option D), ds = os.map D.str ∧ (∀ m ∈ os, Ord m) ∧ Γ = [some (.scr (ns.map D.int)), some (.ref h), some (encR row), o3, o4, o5]) (fun _ _ _ _ => trivial) ?_ ?_ _ _ _ ⟨hs, ["any", "next", "wait"], _, _, _, rfl, fun m hm => ?_, rfl⟩
    · rintro Γ M2 ⟨hs, os, o3, o4, o5, -, -, rfl⟩
      refine go _ _ (sq_ fun nx go => ?_)
      walk_at "go"
      refine ⟨by decide, ?_⟩
      refine DL.forL_inv (fun ds Γ M' => IsSrc M' (.ref h) ∧ ∃ (o2 o3 o4 o5 : Option D), Γ = [some (.scr (ns.map D.int)), some (.ref h), o2, o3, o4, o5]) (fun _ _ _ _ => trivial) ?_ ?_ _ _ _ ⟨hs, _, _, _, _, rfl⟩
      · rintro Γ M2 ⟨hs, o2, o3, o4, o5, rfl⟩
        refine go _ _ ?_
        walk_at "go"
        exact q M2
      · rintro d ds Γ M2 ⟨hs, o2, o3, o4, o5, rfl⟩ nx' go'
        try walk_at "go"
        refine sq_ fun nx go => ?_
        try walk_at "go"
        refine ⟨by decide, pick_ hs rfl (by simp) (by simp) fun v hv => ?_⟩
        obtain ⟨n, rfl, n0, n1⟩ : ∃ n : Nat, v = .int (n : Nat) ∧ 0 < n ∧ n ≤ 30 := by
          simp only [List.mem_cons, List.not_mem_nil, or_false] at hv
          rcases hv with rfl | rfl | rfl | rfl | rfl
          · exact ⟨1, rfl, by decide, by decide⟩
          · exact ⟨6, rfl, by decide, by decide⟩
          · exact ⟨10, rfl, by decide, by decide⟩
          · exact ⟨20, rfl, by decide, by decide⟩
          · exact ⟨30, rfl, by decide, by decide⟩
        refine ⟨.ref h, n, rfl, hs, n0, n1, fun row M3 k3 hrow => ?_⟩
        replace hs := k3.src hs
        try walk_at "go"
        refine go _ _ (sq_ fun nx go => ?_)
        try walk_at "go"
        refine ⟨by decide, pick_ hs rfl (by simp) (by simp) fun v hv => ?_⟩
        obtain ⟨m, rfl, hm⟩ := ord_pick hv
        try walk_at "go"
        refine draw_ hs (by decide) (by decide) fun w w0 w1 => ?_
        try walk_at "go"
        refine go _ _ ?_
        generalize hW : 1 + w = W at *
        refine nx_pu (hs := by unfold ws_law_125; infer_instance) (ws_law_125 F_law_passes_right F_passes (F_law_same 6)) (Γ' := [some (.v (.scr (ns.map D.int))), some (.v (.ref h)), some (.v (.lst (row.map D.int))), some (.v (.str m)), some (.v d), some (.v (.int W))]) ?_ fun Γw M4 k4 R => ?_
        · have e1 := ev_passes_right hm (w := W) (by omega) hrow n1
          have e2 := ev_passes (m := "any") (.inl rfl) (w := W) (by omega) hrow n1
          have e3 := ev_passes (m := "any") (.inl rfl) (w := 6) (by omega) hrow n1
          have e4 := ev_passes (m := "next") (.inr (.inl rfl)) (w := 1) (by omega) hrow n1
          have e5 := ev_passes (m := "wait") (.inr (.inr rfl)) (w := W) (by omega) hrow n1
          have i1 : isNext "any" = false := by decide +kernel
          have i2 : isNext "next" = true := by decide +kernel
          have i3 : isNext "wait" = false := by decide +kernel
          rw [i1] at e2 e3
          rw [i2] at e4
          rw [i3] at e5
          have t1 := @times_le n false false W 6 (by omega) (fun z => z) row
          have t2 := @times_le n true false 1 W (by omega) (fun z => by cases z) row
          have e6 : F_law_same 6 [.int (timesI n false W row), .int (timesI n false W row)] = some (.bl true) := ev_law_same
          unfold ws_law_125 exF
          generalize timesI n false W row = t at *
          generalize timesI n false 6 row = t' at *
          generalize timesI n true 1 row = t'' at *
          clear hrow hW
          generalize row.map D.int = R1 at *
          walk_at "evh"
        · obtain ⟨a0, a1, a2, a3, a4, a5, rfl⟩ := lit_6 (l := Γw) R.len.symm
          cases R.at (i := 0) rfl
          cases R.at (i := 1) rfl
          exact go' _ _ ⟨k4.src hs, _, _, _, _, rfl⟩
    · rintro d ds Γ M2 ⟨hs, os, o3, o4, o5, er, hr, rfl⟩ nx' go'
      cases os with
      | nil => cases er
      | cons m os =>
        cases er
        have hm := hr m (by simp)
        try walk_at "go"
        refine draw_ hs (by decide) (by decide) fun w w0 w1 => ?_
        try walk_at "go"
        refine pureSp_of (ev_passes_right hm (by omega) hrow (by omega)) ?_
        try walk_at "go"
        exact go' _ _ ⟨hs, os, _, _, _, rfl, fun r h => hr r (by simp [h]), rfl⟩
    · simp only [List.mem_cons, List.not_mem_nil, or_false] at hm
      rcases hm with rfl | rfl | rfl
      · exact .inl rfl
      · exact .inr (.inl rfl)
      · exact .inr (.inr rfl)
  · rintro d ds Γ M2 ⟨hs, rows, o2, o3, o4, o5, er, hr, rfl⟩ nx' go'
    cases rows with
    | nil => cases er
    | cons row rows =>
      cases er
      have hrow := hr row (by simp)
      try walk_at "go"
      refine ⟨by decide, pick_ hs rfl (by simp) (by simp) fun v hv => ?_⟩
      obtain ⟨m, rfl, hm⟩ := ord_pick hv
      try walk_at "go"
      refine draw_ hs (by decide) (by decide) fun w w0 w1 => ?_
      try walk_at "go"
      refine pureSp_of (ev_passes_right hm (by omega) hrow (by omega)) ?_
      try walk_at "go"
      exact go' _ _ ⟨hs, rows, _, _, _, _, rfl, fun r h => hr r (by simp [h]), rfl⟩
end
end K54

set_option Elab.async false
set_option linter.all false
set_option maxRecDepth 100000
set_option maxHeartbeats 4000000
set_option pp.maxSteps 200
namespace K54
open PySem PySem.Spec PyProof.Rows L2 DL
theorem all_mk {l : PySem.W.OpenLaw} {w : World} {K : PySem.W.Frag} {h : Heap} {mg : Str → Option Value} {fa : Addr} (X0 : K.In h) (G0 : h.Ns mainGlobals mg) (hfa : mg "law" = some (.ref fa))
    {f_outcome : Addr} {od_outcome an_outcome : Option Addr} {sl_outcome : Array (Option Value)} {oc_outcome kV_outcome dc_outcome pm_outcome cd_outcome ct_outcome : Value}
    {f_moved_by : Addr} {od_moved_by an_moved_by : Option Addr} {sl_moved_by : Array (Option Value)} {oc_moved_by kV_moved_by dc_moved_by pm_moved_by cd_moved_by ct_moved_by : Value}
    {f_passes : Addr} {od_passes an_passes : Option Addr} {sl_passes : Array (Option Value)} {oc_passes kV_passes dc_passes pm_passes cd_passes ct_passes : Value}
    {f_law_heap : Addr} {od_law_heap an_law_heap : Option Addr} {sl_law_heap : Array (Option Value)} {oc_law_heap kV_law_heap dc_law_heap pm_law_heap cd_law_heap ct_law_heap : Value}
    {f_law_draw : Addr} {od_law_draw an_law_draw : Option Addr} {sl_law_draw : Array (Option Value)} {oc_law_draw kV_law_draw dc_law_draw pm_law_draw cd_law_draw ct_law_draw : Value}
    {f_law_pick : Addr} {od_law_pick an_law_pick : Option Addr} {sl_law_pick : Array (Option Value)} {oc_law_pick kV_law_pick dc_law_pick pm_law_pick cd_law_pick ct_law_pick : Value}
    {f_law_shuffled : Addr} {od_law_shuffled an_law_shuffled : Option Addr} {sl_law_shuffled : Array (Option Value)} {oc_law_shuffled kV_law_shuffled dc_law_shuffled pm_law_shuffled cd_law_shuffled ct_law_shuffled : Value}
    {f_law_same : Addr} {od_law_same an_law_same : Option Addr} {sl_law_same : Array (Option Value)} {oc_law_same kV_law_same dc_law_same pm_law_same cd_law_same ct_law_same : Value}
    {f_law_row_drawn : Addr} {od_law_row_drawn an_law_row_drawn : Option Addr} {sl_law_row_drawn : Array (Option Value)} {oc_law_row_drawn kV_law_row_drawn dc_law_row_drawn pm_law_row_drawn cd_law_row_drawn ct_law_row_drawn : Value}
    {f_law_said : Addr} {od_law_said an_law_said : Option Addr} {sl_law_said : Array (Option Value)} {oc_law_said kV_law_said dc_law_said pm_law_said cd_law_said ct_law_said : Value}
    {f_law_passes_right : Addr} {od_law_passes_right an_law_passes_right : Option Addr} {sl_law_passes_right : Array (Option Value)} {oc_law_passes_right kV_law_passes_right dc_law_passes_right pm_law_passes_right cd_law_passes_right ct_law_passes_right : Value}
    {f_law_all_rows : Addr} {od_law_all_rows an_law_all_rows : Option Addr} {sl_law_all_rows : Array (Option Value)} {oc_law_all_rows kV_law_all_rows dc_law_all_rows pm_law_all_rows cd_law_all_rows ct_law_all_rows : Value}
    {f_law : Addr} {od_law an_law : Option Addr} {sl_law : Array (Option Value)} {oc_law kV_law dc_law pm_law cd_law ct_law : Value}
    (zb_tuple : PySem.W.nsIn K mainGlobals "tuple" = some none)
    (zb_sorted : PySem.W.nsIn K mainGlobals "sorted" = some none)
    (zb_len : PySem.W.nsIn K mainGlobals "len" = some none)
    (zb_abs : PySem.W.nsIn K mainGlobals "abs" = some none)
    (zb_int : PySem.W.nsIn K mainGlobals "int" = some none)
    (zb_list : PySem.W.nsIn K mainGlobals "list" = some none)
    (zb_isinstance : PySem.W.nsIn K mainGlobals "isinstance" = some none)
    (zb_zip : PySem.W.nsIn K mainGlobals "zip" = some none)
    (zb_bool : PySem.W.nsIn K mainGlobals "bool" = some none)
    (zb_str : PySem.W.nsIn K mainGlobals "str" = some none)
    (zb_range : PySem.W.nsIn K mainGlobals "range" = some none)
    (zb_enumerate : PySem.W.nsIn K mainGlobals "enumerate" = some none)
    (a_outcome : PySem.W.nsIn K mainGlobals "outcome" = some (some (.ref f_outcome)))
    (l_outcome : K.lookup f_outcome = some ⟨oc_outcome, od_outcome, .func (PySem.W.fnOf "outcome" "outcome" (defArgs s_outcome) (defBody s_outcome) (defScope s_outcome) .none kV_outcome dc_outcome pm_outcome an_outcome cd_outcome ct_outcome), sl_outcome⟩)
    (c_outcome : PySem.W.codeIn K cd_outcome "outcome" = true)
    (k_outcome : PySem.W.keepIn K (.ref f_outcome) = true)
    (a_moved_by : PySem.W.nsIn K mainGlobals "moved_by" = some (some (.ref f_moved_by)))
    (l_moved_by : K.lookup f_moved_by = some ⟨oc_moved_by, od_moved_by, .func (PySem.W.fnOf "moved_by" "moved_by" (defArgs s_moved_by) (defBody s_moved_by) (defScope s_moved_by) .none kV_moved_by dc_moved_by pm_moved_by an_moved_by cd_moved_by ct_moved_by), sl_moved_by⟩)
    (c_moved_by : PySem.W.codeIn K cd_moved_by "moved_by" = true)
    (k_moved_by : PySem.W.keepIn K (.ref f_moved_by) = true)
    (a_passes : PySem.W.nsIn K mainGlobals "passes" = some (some (.ref f_passes)))
    (l_passes : K.lookup f_passes = some ⟨oc_passes, od_passes, .func (PySem.W.fnOf "passes" "passes" (defArgs s_passes) (defBody s_passes) (defScope s_passes) .none kV_passes dc_passes pm_passes an_passes cd_passes ct_passes), sl_passes⟩)
    (c_passes : PySem.W.codeIn K cd_passes "passes" = true)
    (k_passes : PySem.W.keepIn K (.ref f_passes) = true)
    (a_law_heap : PySem.W.nsIn K mainGlobals "_law_heap" = some (some (.ref f_law_heap)))
    (l_law_heap : K.lookup f_law_heap = some ⟨oc_law_heap, od_law_heap, .func (PySem.W.fnOf "_law_heap" "_law_heap" (defArgs s_law_heap) (defBody s_law_heap) (defScope s_law_heap) .none kV_law_heap dc_law_heap pm_law_heap an_law_heap cd_law_heap ct_law_heap), sl_law_heap⟩)
    (c_law_heap : PySem.W.codeIn K cd_law_heap "_law_heap" = true)
    (k_law_heap : PySem.W.keepIn K (.ref f_law_heap) = true)
    (a_law_draw : PySem.W.nsIn K mainGlobals "_law_draw" = some (some (.ref f_law_draw)))
    (l_law_draw : K.lookup f_law_draw = some ⟨oc_law_draw, od_law_draw, .func (PySem.W.fnOf "_law_draw" "_law_draw" (defArgs s_law_draw) (defBody s_law_draw) (defScope s_law_draw) .none kV_law_draw dc_law_draw pm_law_draw an_law_draw cd_law_draw ct_law_draw), sl_law_draw⟩)
    (c_law_draw : PySem.W.codeIn K cd_law_draw "_law_draw" = true)
    (k_law_draw : PySem.W.keepIn K (.ref f_law_draw) = true)
    (a_law_pick : PySem.W.nsIn K mainGlobals "_law_pick" = some (some (.ref f_law_pick)))
    (l_law_pick : K.lookup f_law_pick = some ⟨oc_law_pick, od_law_pick, .func (PySem.W.fnOf "_law_pick" "_law_pick" (defArgs s_law_pick) (defBody s_law_pick) (defScope s_law_pick) .none kV_law_pick dc_law_pick pm_law_pick an_law_pick cd_law_pick ct_law_pick), sl_law_pick⟩)
    (c_law_pick : PySem.W.codeIn K cd_law_pick "_law_pick" = true)
    (k_law_pick : PySem.W.keepIn K (.ref f_law_pick) = true)
    (a_law_shuffled : PySem.W.nsIn K mainGlobals "_law_shuffled" = some (some (.ref f_law_shuffled)))
    (l_law_shuffled : K.lookup f_law_shuffled = some ⟨oc_law_shuffled, od_law_shuffled, .func (PySem.W.fnOf "_law_shuffled" "_law_shuffled" (defArgs s_law_shuffled) (defBody s_law_shuffled) (defScope s_law_shuffled) .none kV_law_shuffled dc_law_shuffled pm_law_shuffled an_law_shuffled cd_law_shuffled ct_law_shuffled), sl_law_shuffled⟩)
    (c_law_shuffled : PySem.W.codeIn K cd_law_shuffled "_law_shuffled" = true)
    (k_law_shuffled : PySem.W.keepIn K (.ref f_law_shuffled) = true)
    (a_law_same : PySem.W.nsIn K mainGlobals "_law_same" = some (some (.ref f_law_same)))
    (l_law_same : K.lookup f_law_same = some ⟨oc_law_same, od_law_same, .func (PySem.W.fnOf "_law_same" "_law_same" (defArgs s_law_same) (defBody s_law_same) (defScope s_law_same) .none kV_law_same dc_law_same pm_law_same an_law_same cd_law_same ct_law_same), sl_law_same⟩)
    (c_law_same : PySem.W.codeIn K cd_law_same "_law_same" = true)
    (k_law_same : PySem.W.keepIn K (.ref f_law_same) = true)
    (a_law_row_drawn : PySem.W.nsIn K mainGlobals "_law_row_drawn" = some (some (.ref f_law_row_drawn)))
    (l_law_row_drawn : K.lookup f_law_row_drawn = some ⟨oc_law_row_drawn, od_law_row_drawn, .func (PySem.W.fnOf "_law_row_drawn" "_law_row_drawn" (defArgs s_law_row_drawn) (defBody s_law_row_drawn) (defScope s_law_row_drawn) .none kV_law_row_drawn dc_law_row_drawn pm_law_row_drawn an_law_row_drawn cd_law_row_drawn ct_law_row_drawn), sl_law_row_drawn⟩)
    (c_law_row_drawn : PySem.W.codeIn K cd_law_row_drawn "_law_row_drawn" = true)
    (k_law_row_drawn : PySem.W.keepIn K (.ref f_law_row_drawn) = true)
    (a_law_said : PySem.W.nsIn K mainGlobals "_law_said" = some (some (.ref f_law_said)))
    (l_law_said : K.lookup f_law_said = some ⟨oc_law_said, od_law_said, .func (PySem.W.fnOf "_law_said" "_law_said" (defArgs s_law_said) (defBody s_law_said) (defScope s_law_said) .none kV_law_said dc_law_said pm_law_said an_law_said cd_law_said ct_law_said), sl_law_said⟩)
    (c_law_said : PySem.W.codeIn K cd_law_said "_law_said" = true)
    (k_law_said : PySem.W.keepIn K (.ref f_law_said) = true)
    (a_law_passes_right : PySem.W.nsIn K mainGlobals "_law_passes_right" = some (some (.ref f_law_passes_right)))
    (l_law_passes_right : K.lookup f_law_passes_right = some ⟨oc_law_passes_right, od_law_passes_right, .func (PySem.W.fnOf "_law_passes_right" "_law_passes_right" (defArgs s_law_passes_right) (defBody s_law_passes_right) (defScope s_law_passes_right) .none kV_law_passes_right dc_law_passes_right pm_law_passes_right an_law_passes_right cd_law_passes_right ct_law_passes_right), sl_law_passes_right⟩)
    (c_law_passes_right : PySem.W.codeIn K cd_law_passes_right "_law_passes_right" = true)
    (k_law_passes_right : PySem.W.keepIn K (.ref f_law_passes_right) = true)
    (a_law_all_rows : PySem.W.nsIn K mainGlobals "_law_all_rows" = some (some (.ref f_law_all_rows)))
    (l_law_all_rows : K.lookup f_law_all_rows = some ⟨oc_law_all_rows, od_law_all_rows, .func (PySem.W.fnOf "_law_all_rows" "_law_all_rows" (defArgs s_law_all_rows) (defBody s_law_all_rows) (defScope s_law_all_rows) .none kV_law_all_rows dc_law_all_rows pm_law_all_rows an_law_all_rows cd_law_all_rows ct_law_all_rows), sl_law_all_rows⟩)
    (c_law_all_rows : PySem.W.codeIn K cd_law_all_rows "_law_all_rows" = true)
    (k_law_all_rows : PySem.W.keepIn K (.ref f_law_all_rows) = true)
    (a_law : PySem.W.nsIn K mainGlobals "law" = some (some (.ref f_law)))
    (l_law : K.lookup f_law = some ⟨oc_law, od_law, .func (PySem.W.fnOf "law" "law" (defArgs s_law) (defBody s_law) (defScope s_law) .none kV_law dc_law pm_law an_law cd_law ct_law), sl_law⟩)
    (c_law : PySem.W.codeIn K cd_law "law" = true)
    (k_law : PySem.W.keepIn K (.ref f_law) = true) :
    ∃ fd : FuncData, (∀ (s : Shared) (v : Value), BindsTo s fd ⟨[v], []⟩ [("script", v)]) ∧ ∀ base : Heap, K.In base → base.Ns mainGlobals mg → FnOk l.prog w K mg base CX0 8 fa fd ["script"] (spD K S_law) := by
  have e := hfa.symm.trans (PySem.W.mg_of X0 G0 a_law)
  cases e
  have F_outcome : FunD K "outcome" "outcome" (defArgs s_outcome) (defBody s_outcome) (defScope s_outcome) [] [] f_outcome _ := ⟨⟨_, _, _, _, _, _, _, _, _, _, rfl, l_outcome, c_outcome, .inl ⟨rfl, rfl⟩, .inl rfl⟩, k_outcome⟩
  have B_outcome : Binds K _ ["order", "width", "state", "number"] [] := bind_all F_outcome fun _ _ _ _ _ _ us hl => match us, hl with | [_, _, _, _], _ => rfl
  have F_moved_by : FunD K "moved_by" "moved_by" (defArgs s_moved_by) (defBody s_moved_by) (defScope s_moved_by) [] [] f_moved_by _ := ⟨⟨_, _, _, _, _, _, _, _, _, _, rfl, l_moved_by, c_moved_by, .inl ⟨rfl, rfl⟩, .inl rfl⟩, k_moved_by⟩
  have B_moved_by : Binds K _ ["order", "width", "state", "number"] [] := bind_all F_moved_by fun _ _ _ _ _ _ us hl => match us, hl with | [_, _, _, _], _ => rfl
  have F_passes : FunD K "passes" "passes" (defArgs s_passes) (defBody s_passes) (defScope s_passes) [] [] f_passes _ := ⟨⟨_, _, _, _, _, _, _, _, _, _, rfl, l_passes, c_passes, .inl ⟨rfl, rfl⟩, .inl rfl⟩, k_passes⟩
  have B_passes : Binds K _ ["order", "width", "row"] [] := bind_all F_passes fun _ _ _ _ _ _ us hl => match us, hl with | [_, _, _], _ => rfl
  have F_law_heap : FunD K "_law_heap" "_law_heap" (defArgs s_law_heap) (defBody s_law_heap) (defScope s_law_heap) [] [] f_law_heap _ := ⟨⟨_, _, _, _, _, _, _, _, _, _, rfl, l_law_heap, c_law_heap, .inl ⟨rfl, rfl⟩, .inl rfl⟩, k_law_heap⟩
  have B_law_heap : Binds K _ ["script"] [] := bind_all F_law_heap fun _ _ _ _ _ _ us hl => match us, hl with | [_], _ => rfl
  have F_law_draw : FunD K "_law_draw" "_law_draw" (defArgs s_law_draw) (defBody s_law_draw) (defScope s_law_draw) [] [] f_law_draw _ := ⟨⟨_, _, _, _, _, _, _, _, _, _, rfl, l_law_draw, c_law_draw, .inl ⟨rfl, rfl⟩, .inl rfl⟩, k_law_draw⟩
  have B_law_draw : Binds K _ ["heap", "many"] [] := bind_all F_law_draw fun _ _ _ _ _ _ us hl => match us, hl with | [_, _], _ => rfl
  have F_law_pick : FunD K "_law_pick" "_law_pick" (defArgs s_law_pick) (defBody s_law_pick) (defScope s_law_pick) [] [] f_law_pick _ := ⟨⟨_, _, _, _, _, _, _, _, _, _, rfl, l_law_pick, c_law_pick, .inl ⟨rfl, rfl⟩, .inl rfl⟩, k_law_pick⟩
  have B_law_pick : Binds K _ ["heap", "some"] [] := bind_all F_law_pick fun _ _ _ _ _ _ us hl => match us, hl with | [_, _], _ => rfl
  have F_law_shuffled : FunD K "_law_shuffled" "_law_shuffled" (defArgs s_law_shuffled) (defBody s_law_shuffled) (defScope s_law_shuffled) [] [] f_law_shuffled _ := ⟨⟨_, _, _, _, _, _, _, _, _, _, rfl, l_law_shuffled, c_law_shuffled, .inl ⟨rfl, rfl⟩, .inl rfl⟩, k_law_shuffled⟩
  have B_law_shuffled : Binds K _ ["heap", "some"] [] := bind_all F_law_shuffled fun _ _ _ _ _ _ us hl => match us, hl with | [_, _], _ => rfl
  have F_law_same : FunD K "_law_same" "_law_same" (defArgs s_law_same) (defBody s_law_same) (defScope s_law_same) [] [] f_law_same _ := ⟨⟨_, _, _, _, _, _, _, _, _, _, rfl, l_law_same, c_law_same, .inl ⟨rfl, rfl⟩, .inl rfl⟩, k_law_same⟩
  have B_law_same : Binds K _ ["value", "due"] [] := bind_all F_law_same fun _ _ _ _ _ _ us hl => match us, hl with | [_, _], _ => rfl
  have F_law_row_drawn : FunD K "_law_row_drawn" "_law_row_drawn" (defArgs s_law_row_drawn) (defBody s_law_row_drawn) (defScope s_law_row_drawn) [] [] f_law_row_drawn _ := ⟨⟨_, _, _, _, _, _, _, _, _, _, rfl, l_law_row_drawn, c_law_row_drawn, .inl ⟨rfl, rfl⟩, .inl rfl⟩, k_law_row_drawn⟩
  have B_law_row_drawn : Binds K _ ["heap", "many"] [] := bind_all F_law_row_drawn fun _ _ _ _ _ _ us hl => match us, hl with | [_, _], _ => rfl
  have F_law_said : FunD K "_law_said" "_law_said" (defArgs s_law_said) (defBody s_law_said) (defScope s_law_said) [] [] f_law_said _ := ⟨⟨_, _, _, _, _, _, _, _, _, _, rfl, l_law_said, c_law_said, .inl ⟨rfl, rfl⟩, .inl rfl⟩, k_law_said⟩
  have B_law_said : Binds K _ ["order", "width", "row"] [] := bind_all F_law_said fun _ _ _ _ _ _ us hl => match us, hl with | [_, _, _], _ => rfl
  have F_law_passes_right : FunD K "_law_passes_right" "_law_passes_right" (defArgs s_law_passes_right) (defBody s_law_passes_right) (defScope s_law_passes_right) [] [] f_law_passes_right _ := ⟨⟨_, _, _, _, _, _, _, _, _, _, rfl, l_law_passes_right, c_law_passes_right, .inl ⟨rfl, rfl⟩, .inl rfl⟩, k_law_passes_right⟩
  have B_law_passes_right : Binds K _ ["order", "width", "row"] [] := bind_all F_law_passes_right fun _ _ _ _ _ _ us hl => match us, hl with | [_, _, _], _ => rfl
  have F_law_all_rows : FunD K "_law_all_rows" "_law_all_rows" (defArgs s_law_all_rows) (defBody s_law_all_rows) (defScope s_law_all_rows) [] [] f_law_all_rows _ := ⟨⟨_, _, _, _, _, _, _, _, _, _, rfl, l_law_all_rows, c_law_all_rows, .inl ⟨rfl, rfl⟩, .inl rfl⟩, k_law_all_rows⟩
  have B_law_all_rows : Binds K _ ["many"] [] := bind_all F_law_all_rows fun _ _ _ _ _ _ us hl => match us, hl with | [_], _ => rfl
  have F_law : FunD K "law" "law" (defArgs s_law) (defBody s_law) (defScope s_law) [] [] fa _ := ⟨⟨_, _, _, _, _, _, _, _, _, _, rfl, l_law, c_law, .inl ⟨rfl, rfl⟩, .inl rfl⟩, k_law⟩
  have B_law : Binds K _ ["script"] [] := bind_all F_law fun _ _ _ _ _ _ us hl => match us, hl with | [_], _ => rfl
  refine ⟨_, fun s v => FunD.bindsA (ps := ["script"]) F_law (fun _ _ _ _ _ _ us hl => match us, hl with | [_], _ => rfl) s [v] rfl, fun base X G => ?_⟩
  have T : Txt K mg  := ⟨PySem.W.mg_none_of X G zb_tuple, PySem.W.mg_none_of X G zb_sorted, PySem.W.mg_none_of X G zb_len, PySem.W.mg_none_of X G zb_abs, PySem.W.mg_none_of X G zb_int, PySem.W.mg_none_of X G zb_list, PySem.W.mg_none_of X G zb_isinstance, PySem.W.mg_none_of X G zb_zip, PySem.W.mg_none_of X G zb_bool, PySem.W.mg_none_of X G zb_str, PySem.W.mg_none_of X G zb_range, PySem.W.mg_none_of X G zb_enumerate⟩
  have G_outcome : FnOk l.prog w K mg base CX0 1 f_outcome _ ["order", "width", "state", "number"] (spD K (pureSp (K54.F_outcome))) := okg_outcome T  F_outcome (fun ds M Q h => pureSp_len (fun es d e => runF_len e) h) (by exact pure_sem pu_outcome)
  have G_moved_by : FnOk l.prog w K mg base CX0 2 f_moved_by _ ["order", "width", "state", "number"] (spD K (pureSp (K54.F_moved_by))) := okg_moved_by T ⟨⟨_, _, [], [], G_outcome, PySem.W.mg_of X G a_outcome, k_outcome, B_outcome, .nil, fun _ => .nil⟩⟩ F_moved_by (fun ds M Q h => pureSp_len (fun es d e => runF_len e) h) (by exact pure_sem pu_moved_by)
  have G_passes : FnOk l.prog w K mg base CX0 3 f_passes _ ["order", "width", "row"] (spD K (pureSp (K54.F_passes))) := okg_passes T ⟨⟨_, _, [], [], G_moved_by, PySem.W.mg_of X G a_moved_by, k_moved_by, B_moved_by, .nil, fun _ => .nil⟩⟩ F_passes (fun ds M Q h => pureSp_len (fun es d e => runF_len e) h) (by exact pure_sem pu_passes)
  have G_law_heap : FnOk l.prog w K mg base CX0 1 f_law_heap _ ["script"] (spD K (S_heap)) := heap_open (ok_law_heap T  F_law_heap (by rintro _ _ _ ⟨_, rfl, _⟩; rfl) (by exact sem_heapRaw (by decide) ⟨by decide, by decide⟩ (by decide)))
  have G_law_draw : FnOk l.prog w K mg base CX0 1 f_law_draw _ ["heap", "many"] (spD K (S_draw)) := draw_open (ok_law_draw T  F_law_draw (by rintro _ _ _ ⟨_, _, _, _, _, rfl, _⟩; rfl) (by exact sem_drawRaw ⟨by decide, by decide⟩ (by decide)))
  have G_law_pick : FnOk l.prog w K mg base CX0 2 f_law_pick _ ["heap", "some"] (spD K (S_pick)) := ok_law_pick T ⟨⟨_, _, [], [], G_law_draw, PySem.W.mg_of X G a_law_draw, k_law_draw, B_law_draw, .nil, fun _ => .nil⟩⟩ F_law_pick (by rintro _ _ _ ⟨_, _, _, rfl, _⟩; rfl) (by exact sem_pick)
  have G_law_shuffled : FnOk l.prog w K mg base CX0 2 f_law_shuffled _ ["heap", "some"] (spD K (S_shuf)) := okg_law_shuffled T ⟨⟨_, _, [], [], G_law_draw, PySem.W.mg_of X G a_law_draw, k_law_draw, B_law_draw, .nil, fun _ => .nil⟩⟩ F_law_shuffled (by rintro _ _ _ ⟨_, _, rfl, _⟩; rfl) (by exact sem_shuf)
  have G0 : FnOk l.prog w K mg base CX0 0 f_law_same _ ["value", "due"] (spD K (pureSp (K54.F_law_same 0))) := fn_none F_law_same
  have G1 : FnOk l.prog w K mg base CX0 1 f_law_same _ ["value", "due"] (spD K (pureSp (K54.F_law_same 1))) := okg_law_same T (Nat.zero_le _) ⟨⟨_, _, [], [], G0, PySem.W.mg_of X G a_law_same, k_law_same, B_law_same, .nil, fun _ => .nil⟩⟩ F_law_same (fun ds M Q h => pureSp_len (fun es d e => runF_len e) h) (by exact pure_sem pu_law_same)
  have G2 : FnOk l.prog w K mg base CX0 2 f_law_same _ ["value", "due"] (spD K (pureSp (K54.F_law_same 2))) := okg_law_same T (Nat.zero_le _) ⟨⟨_, _, [], [], G1, PySem.W.mg_of X G a_law_same, k_law_same, B_law_same, .nil, fun _ => .nil⟩⟩ F_law_same (fun ds M Q h => pureSp_len (fun es d e => runF_len e) h) (by exact pure_sem pu_law_same)
  have G3 : FnOk l.prog w K mg base CX0 3 f_law_same _ ["value", "due"] (spD K (pureSp (K54.F_law_same 3))) := okg_law_same T (Nat.zero_le _) ⟨⟨_, _, [], [], G2, PySem.W.mg_of X G a_law_same, k_law_same, B_law_same, .nil, fun _ => .nil⟩⟩ F_law_same (fun ds M Q h => pureSp_len (fun es d e => runF_len e) h) (by exact pure_sem pu_law_same)
  have G4 : FnOk l.prog w K mg base CX0 4 f_law_same _ ["value", "due"] (spD K (pureSp (K54.F_law_same 4))) := okg_law_same T (Nat.zero_le _) ⟨⟨_, _, [], [], G3, PySem.W.mg_of X G a_law_same, k_law_same, B_law_same, .nil, fun _ => .nil⟩⟩ F_law_same (fun ds M Q h => pureSp_len (fun es d e => runF_len e) h) (by exact pure_sem pu_law_same)
  have G5 : FnOk l.prog w K mg base CX0 5 f_law_same _ ["value", "due"] (spD K (pureSp (K54.F_law_same 5))) := okg_law_same T (Nat.zero_le _) ⟨⟨_, _, [], [], G4, PySem.W.mg_of X G a_law_same, k_law_same, B_law_same, .nil, fun _ => .nil⟩⟩ F_law_same (fun ds M Q h => pureSp_len (fun es d e => runF_len e) h) (by exact pure_sem pu_law_same)
  have G6 : FnOk l.prog w K mg base CX0 6 f_law_same _ ["value", "due"] (spD K (pureSp (K54.F_law_same 6))) := okg_law_same T (Nat.zero_le _) ⟨⟨_, _, [], [], G5, PySem.W.mg_of X G a_law_same, k_law_same, B_law_same, .nil, fun _ => .nil⟩⟩ F_law_same (fun ds M Q h => pureSp_len (fun es d e => runF_len e) h) (by exact pure_sem pu_law_same)
  have G_law_same := G6
  have G_law_row_drawn : FnOk l.prog w K mg base CX0 3 f_law_row_drawn _ ["heap", "many"] (spD K (S_row)) := okg_law_row_drawn T ⟨⟨_, _, [], [], G_law_draw, PySem.W.mg_of X G a_law_draw, k_law_draw, B_law_draw, .nil, fun _ => .nil⟩⟩ ⟨⟨_, _, [], [], G_law_shuffled, PySem.W.mg_of X G a_law_shuffled, k_law_shuffled, B_law_shuffled, .nil, fun _ => .nil⟩⟩ F_law_row_drawn (by rintro _ _ _ ⟨_, _, rfl, _⟩; rfl) (by exact sem_row)
  have G_law_said : FnOk l.prog w K mg base CX0 1 f_law_said _ ["order", "width", "row"] (spD K (pureSp (K54.F_law_said))) := okg_law_said T  F_law_said (fun ds M Q h => pureSp_len (fun es d e => runF_len e) h) (by exact pure_sem pu_law_said)
  have G_law_passes_right : FnOk l.prog w K mg base CX0 7 f_law_passes_right _ ["order", "width", "row"] (spD K (pureSp (K54.F_law_passes_right))) := okg_law_passes_right T ⟨⟨_, _, [], [], G_passes, PySem.W.mg_of X G a_passes, k_passes, kbind_all F_passes (fun _ _ _ _ _ _ us ws h1 h2 => match us, ws, h1, h2 with | [], [_, _, _], _, _ => rfl), fun _ => .nil⟩⟩ ⟨⟨_, _, [], [], G_law_same, PySem.W.mg_of X G a_law_same, k_law_same, B_law_same, .nil, fun _ => .nil⟩⟩ ⟨⟨_, _, [], [], G_law_said, PySem.W.mg_of X G a_law_said, k_law_said, B_law_said, .nil, fun _ => .nil⟩⟩ F_law_passes_right (fun ds M Q h => pureSp_len (fun es d e => runF_len e) h) (by exact pure_sem pu_law_passes_right)
  have G_law_all_rows : FnOk l.prog w K mg base CX0 1 f_law_all_rows _ ["many"] (spD K (pureSp (K54.F_law_all_rows))) := okg_law_all_rows T  F_law_all_rows (fun ds M Q h => pureSp_len (fun es d e => runF_len e) h) (by exact pure_sem pu_law_all_rows)
  have G_law : FnOk l.prog w K mg base CX0 8 fa _ ["script"] (spD K (S_law)) := ok_law T ⟨⟨_, _, [], [], G_law_heap, PySem.W.mg_of X G a_law_heap, k_law_heap, B_law_heap, .nil, fun _ => .nil⟩⟩ ⟨⟨_, _, [], [], G_law_all_rows, PySem.W.mg_of X G a_law_all_rows, k_law_all_rows, B_law_all_rows, .nil, fun _ => .nil⟩⟩ ⟨⟨_, _, [], [], G_law_draw, PySem.W.mg_of X G a_law_draw, k_law_draw, B_law_draw, .nil, fun _ => .nil⟩⟩ ⟨⟨_, _, [], [], G_law_passes_right, PySem.W.mg_of X G a_law_passes_right, k_law_passes_right, B_law_passes_right, .nil, fun _ => .nil⟩⟩ ⟨⟨_, _, [], [], G_law_pick, PySem.W.mg_of X G a_law_pick, k_law_pick, B_law_pick, .nil, fun _ => .nil⟩⟩ ⟨⟨_, _, [], [], G_law_row_drawn, PySem.W.mg_of X G a_law_row_drawn, k_law_row_drawn, B_law_row_drawn, .nil, fun _ => .nil⟩⟩ ⟨⟨_, _, [], [], G_passes, PySem.W.mg_of X G a_passes, k_passes, B_passes, .nil, fun _ => .nil⟩⟩ ⟨⟨_, _, [], [], G_law_same, PySem.W.mg_of X G a_law_same, k_law_same, B_law_same, .nil, fun _ => .nil⟩⟩ F_law (by rintro _ _ _ ⟨_, rfl, _⟩; rfl) (by exact sem_law)
  exact G_law
theorem walk {l : PySem.W.OpenLaw} {q : Program} {loose : List Str} {XP : (Str → Option Value) → Heap → Prop} {YP : World → Heap → Prop} {d : DefRec} {K : Params → PySem.W.Frag} (hn : l.most = some 63) (hdf : d.params.defaults = [])
    (hY : ∀ (w : World) (h : Heap), YP w h → (K w.params).In h)
    (F : ∀ (w : World) (mg : Str → Option Value) (fa : Addr) (h : Heap), (K w.params).In h → h.Ns mainGlobals mg → mg d.name = some (.ref fa) →
      ∃ fd : FuncData, (∀ (s : Shared) (u : Value), BindsTo s fd ⟨[u], []⟩ [("script", u)]) ∧ ∀ base : Heap, (K w.params).In base → base.Ns mainGlobals mg → FnOk l.prog w (K w.params) mg base CX0 8 fa fd ["script"] (spD (K w.params) S_law)) :
    PySem.W.WalkO q loose XP YP l.row.toRowW d [] (fun f vs => PySem.call f vs) :=
  L2.walk_of (n := 63) (k := 8) (x := "script") (CX := fun _ => CX0) (sp := fun w => spD (K w.params) S_law) hn (by decide) hdf ⟨rfl, by decide, by decide⟩ hY F
    (fun w H a ns hl _ hS => law_start hS fun M => ⟨ns, rfl, hl, fun _ => rfl⟩) fun _ _ _ _ _ z => z
end K54

open PySem PySem.W PyProof.Rows in
set_option maxRecDepth 100000 in
set_option maxHeartbeats 0 in
theorem PySem.Challenge.cw_agreedapart_k54_whole_how_often_all_is_s_holds : PySem.Challenge.rw_agreedapart_k54_whole_how_often_all_is_s.Holds := by
  w_on; o_law; k_head; (case hw => w_witness2)
  k_fill
  refine K54.walk (l := PySem.Challenge.rw_agreedapart_k54_whole_how_often_all_is_s) rfl rfl (fun w h Y => PySem.W.kIn_of Y) ?F
  case F =>
    intro w mg fa h KX G hmg
    refine' K54.all_mk KX G hmg ?zb_tuple ?zb_sorted ?zb_len ?zb_abs ?zb_int ?zb_list ?zb_isinstance ?zb_zip ?zb_bool ?zb_str ?zb_range ?zb_enumerate ?a_outcome ?l_outcome ?c_outcome ?k_outcome ?a_moved_by ?l_moved_by ?c_moved_by ?k_moved_by ?a_passes ?l_passes ?c_passes ?k_passes ?a_law_heap ?l_law_heap ?c_law_heap ?k_law_heap ?a_law_draw ?l_law_draw ?c_law_draw ?k_law_draw ?a_law_pick ?l_law_pick ?c_law_pick ?k_law_pick ?a_law_shuffled ?l_law_shuffled ?c_law_shuffled ?k_law_shuffled ?a_law_same ?l_law_same ?c_law_same ?k_law_same ?a_law_row_drawn ?l_law_row_drawn ?c_law_row_drawn ?k_law_row_drawn ?a_law_said ?l_law_said ?c_law_said ?k_law_said ?a_law_passes_right ?l_law_passes_right ?c_law_passes_right ?k_law_passes_right ?a_law_all_rows ?l_law_all_rows ?c_law_all_rows ?k_law_all_rows ?a_law ?l_law ?c_law ?k_law
    (case zb_tuple => k_is)
    (case zb_sorted => k_is)
    (case zb_len => k_is)
    (case zb_abs => k_is)
    (case zb_int => k_is)
    (case zb_list => k_is)
    (case zb_isinstance => k_is)
    (case zb_zip => k_is)
    (case zb_bool => k_is)
    (case zb_str => k_is)
    (case zb_range => k_is)
    (case zb_enumerate => k_is)
    (case a_outcome => k_is)
    (case l_outcome => k_is)
    (case c_outcome => k_is)
    (case k_outcome => k_is)
    (case a_moved_by => k_is)
    (case l_moved_by => k_is)
    (case c_moved_by => k_is)
    (case k_moved_by => k_is)
    (case a_passes => k_is)
    (case l_passes => k_is)
    (case c_passes => k_is)
    (case k_passes => k_is)
    (case a_law_heap => k_is)
    (case l_law_heap => k_is)
    (case c_law_heap => k_is)
    (case k_law_heap => k_is)
    (case a_law_draw => k_is)
    (case l_law_draw => k_is)
    (case c_law_draw => k_is)
    (case k_law_draw => k_is)
    (case a_law_pick => k_is)
    (case l_law_pick => k_is)
    (case c_law_pick => k_is)
    (case k_law_pick => k_is)
    (case a_law_shuffled => k_is)
    (case l_law_shuffled => k_is)
    (case c_law_shuffled => k_is)
    (case k_law_shuffled => k_is)
    (case a_law_same => k_is)
    (case l_law_same => k_is)
    (case c_law_same => k_is)
    (case k_law_same => k_is)
    (case a_law_row_drawn => k_is)
    (case l_law_row_drawn => k_is)
    (case c_law_row_drawn => k_is)
    (case k_law_row_drawn => k_is)
    (case a_law_said => k_is)
    (case l_law_said => k_is)
    (case c_law_said => k_is)
    (case k_law_said => k_is)
    (case a_law_passes_right => k_is)
    (case l_law_passes_right => k_is)
    (case c_law_passes_right => k_is)
    (case k_law_passes_right => k_is)
    (case a_law_all_rows => k_is)
    (case l_law_all_rows => k_is)
    (case c_law_all_rows => k_is)
    (case k_law_all_rows => k_is)
    (case a_law => k_is)
    (case l_law => k_is)
    (case c_law => k_is)
    (case k_law => k_is)
