import PyProof.Rows.All
import Wide.All
import OpenK.AllK
import Wide.FinOn
import HandS.ForMost
import HandS.Walk
import HandS.ForExc
import HandS.CallSlots
import HandS.Wide
import HandS.TupAny
import HandS.TupMul
import HandS.Conv
import HandS.Deep
import HandS.Strs
import HandS.SetFor
import HandS.Zip
import HandS.IsInst
import HandS.TupSets
import HandS.Rev
import HandS.ExcIs
import HandS.More
import HandS.Text
import HandS.TryOnly
import HandS.ExcInit
import HandS.ExcField
import KE.KExcIs
import HandS.Codes
import HandS.Style
import KE.KDictDisplayH
import KE.KDictCopyH
import HandS.Iter
import HandS.DictTup
import PySem.Challenge.RW_longago_k11_whole_together_or_apart
set_option Elab.async false
set_option linter.all false
set_option maxRecDepth 100000
set_option maxHeartbeats 4000000
namespace J
open PySem PySem.Spec L2

/-! ## data -/
inductive D where
  | non | bl (b : Bool) | int (i : Int) | str (x : Str)
  | tup (ds : List D) | lst (ds : List D) | kls (ds : List D)
  | ins (C : Addr) (ns : List Str) (ds : List D)
  | raw (v : V)
  | tp (ds : List D) | exc (a dd : Addr) (ns : List Str) (ds : List D)
  | dct (ks : List (List Key)) (ds : List D)

theorem sameT {K : PySem.W.Frag} {H H' : Hp} {a : Addr} {xs : List V} (e : Same H H') (h : SqT K H a xs) : SqT K H' a xs := by
  rcases h with (h | ⟨o, h⟩) | h
  · exact .inl (.inl (e _ _ h))
  · exact .inl (.inr ⟨o, e _ _ h⟩)
  · exact .inr h

inductive DP (K : PySem.W.Frag) (H : Hp) : V → D → Prop
  | non : DP K H .non .non
  | bl (b : Bool) : DP K H (.bl b) (.bl b)
  | int (i : Int) : DP K H (.int i) (.int i)
  | str (x : Str) : DP K H (.str x) (.str x)
  | tup {a : Addr} {xs : List V} {ds : List D} : SqT K H a xs → Paired (DP K H) xs ds → DP K H (.ref a) (.tup ds)
  | lst {a : Addr} {xs : List V} {ds : List D} : H a = some (.lst xs) → Paired (DP K H) xs ds → DP K H (.ref a) (.lst ds)
  | kls {a : Addr} {xs : List V} {ds : List D} : SqL K H a xs → Paired (DP K H) xs ds → DP K H (.ref a) (.kls ds)
  | ins {a C dx : Addr} {fs : List (Str × V)} {ns : List Str} {ds : List D} : H a = some (.ins C dx fs) → H dx = some (.own a) → ns = fs.map (·.1) → Paired (DP K H) (fs.map (·.2)) ds → DP K H (.ref a) (.ins C ns ds)
  | raw (v : V) : DP K H v (.raw v)
  | tp {a : Addr} {xs : List V} {ds : List D} : H a = some (.tup xs) → Paired (DP K H) xs ds → DP K H (.ref a) (.tp ds)
  | exc {a dd : Addr} {fs : List (Str × V)} {ns : List Str} {ds : List D} : H dd = some (.xd fs) → ns = fs.map (·.1) → Paired (DP K H) (fs.map (·.2)) ds → DP K H (.ref a) (.exc a dd ns ds)
  | dct {a : Addr} {es : List (List Key × V)} {ks : List (List Key)} {ds : List D} : H a = some (.dT es) → ks = es.map (·.1) → Paired (DP K H) (es.map (·.2)) ds → DP K H (.ref a) (.dct ks ds)
abbrev DPs (K : PySem.W.Frag) (H : Hp) : List V → List D → Prop := Paired (DP K H)

mutual
theorem DP.mono {K : PySem.W.Frag} {H H' : Hp} (s : Same H H') : ∀ (d : D) (v : V), DP K H v d → DP K H' v d
  | .non, _, h => by cases h; exact .non
  | .bl b, _, h => by cases h; exact .bl b
  | .int b, _, h => by cases h; exact .int b
  | .str b, _, h => by cases h; exact .str b
  | .raw b, _, h => by cases h; exact .raw b
  | .tup ds, _, h => by cases h with | tup q r => exact .tup (sameT s q) (DP.monoL s ds _ r)
  | .lst ds, _, h => by cases h with | lst q r => exact .lst (s _ _ q) (DP.monoL s ds _ r)
  | .kls ds, _, h => by cases h with | kls q r => exact .kls (s.seq q) (DP.monoL s ds _ r)
  | .ins C ns ds, _, h => by cases h with | ins q r e z => exact .ins (s _ _ q) (s _ _ r) e (DP.monoL s ds _ z)
  | .tp ds, _, h => by cases h with | tp q r => exact .tp (s _ _ q) (DP.monoL s ds _ r)
  | .exc a dd ns ds, _, h => by cases h with | exc q e z => exact .exc (s _ _ q) e (DP.monoL s ds _ z)
  | .dct ks ds, _, h => by cases h with | dct q e z => exact .dct (s _ _ q) e (DP.monoL s ds _ z)
theorem DP.monoL {K : PySem.W.Frag} {H H' : Hp} (s : Same H H') : ∀ (ds : List D) (vs : List V), Paired (DP K H) vs ds → Paired (DP K H') vs ds
  | [], _, h => by cases h; exact .nil
  | d :: ds, _, h => by cases h with | cons r t => exact .cons (DP.mono s d _ r) (DP.monoL s ds _ t)
end

/-! ### Paired -/
section
variable {α β : Type} {F : α → β → Prop}
theorem pget : ∀ {l : List α} {m : List β} {i : Nat} {b : β}, Paired F l m → m[i]? = some b → ∃ a, l[i]? = some a ∧ F a b
  | _, _, i, _, .nil, e => by simp at e
  | _, _, 0, _, .cons r _, e => by simp at e; subst e; exact ⟨_, rfl, r⟩
  | _, _, i + 1, b, .cons _ t, e => by
    obtain ⟨a, h1, h2⟩ := pget (i := i) (b := b) t (by simpa using e)
    exact ⟨a, by simpa using h1, h2⟩
theorem pgetL : ∀ {l : List α} {m : List β} {i : Nat} {a : α}, Paired F l m → l[i]? = some a → ∃ b, m[i]? = some b ∧ F a b
  | _, _, i, _, .nil, e => by simp at e
  | _, _, 0, _, .cons r _, e => by simp at e; subst e; exact ⟨_, rfl, r⟩
  | _, _, i + 1, b, .cons _ t, e => by
    obtain ⟨a, h1, h2⟩ := pgetL (i := i) (a := b) t (by simpa using e)
    exact ⟨a, by simpa using h1, h2⟩
theorem pset {a : α} {b : β} (r : F a b) : ∀ {l : List α} {m : List β} (i : Nat), Paired F l m → Paired F (l.set i a) (m.set i b)
  | _, _, _, .nil => .nil
  | _, _, 0, .cons _ t => .cons r t
  | _, _, i + 1, .cons q t => .cons q (pset r i t)
theorem papp : ∀ {l l' : List α} {m m' : List β}, Paired F l m → Paired F l' m' → Paired F (l ++ l') (m ++ m')
  | _, _, _, _, .nil, s => s
  | _, _, _, _, .cons r t, s => .cons r (papp t s)
theorem psplit : ∀ {l l' : List α} {m m' : List β}, l.length = m.length → Paired F (l ++ l') (m ++ m') → Paired F l m ∧ Paired F l' m'
  | [], _, [], _, _, h => ⟨.nil, h⟩
  | [], _, _ :: _, _, e, _ => by simp at e
  | _ :: _, _, [], _, e, _ => by simp at e
  | _ :: _, _, _ :: _, _, e, .cons r t => by
    obtain ⟨h1, h2⟩ := psplit (by simpa using e) t
    exact ⟨.cons r h1, h2⟩
theorem ptake : ∀ {l : List α} {m : List β} (n : Nat), Paired F l m → Paired F (l.take n) (m.take n)
  | _, _, 0, _ => .nil
  | _, _, _ + 1, .nil => .nil
  | _, _, n + 1, .cons r t => .cons r (ptake n t)
theorem pdrop : ∀ {l : List α} {m : List β} (n : Nat), Paired F l m → Paired F (l.drop n) (m.drop n)
  | _, _, 0, r => r
  | _, _, _ + 1, .nil => .nil
  | _, _, n + 1, .cons _ t => pdrop n t
theorem prev : ∀ {l : List α} {m : List β}, Paired F l m → Paired F l.reverse m.reverse
  | _, _, .nil => .nil
  | _, _, .cons r t => by
    rw [List.reverse_cons, List.reverse_cons]
    exact papp (prev t) (.cons r .nil)
theorem ppop : ∀ {l : List α} {m : List β}, Paired F l m → Paired F l.dropLast m.dropLast
  | l, m, h => by
    rw [List.dropLast_eq_take, List.dropLast_eq_take, h.length]
    exact ptake _ h
theorem perase : ∀ {l : List α} {m : List β} (i : Nat), Paired F l m → Paired F (l.eraseIdx i) (m.eraseIdx i)
  | _, _, _, .nil => .nil
  | _, _, 0, .cons _ t => t
  | _, _, i + 1, .cons r t => .cons r (perase i t)
theorem prep {a : α} {b : β} (r : F a b) : ∀ n : Nat, Paired F (List.replicate n a) (List.replicate n b)
  | 0 => .nil
  | n + 1 => .cons r (prep r n)
theorem pflat : ∀ {l : List (List α)} {m : List (List β)}, Paired (Paired F) l m → Paired F l.flatten m.flatten
  | _, _, .nil => .nil
  | _, _, .cons r t => papp r (pflat t)
end

/-! ## owned things -/
inductive Ow where
  | lst (ds : List D)
  | dK (kvs : List (Key × D))
  | dT (kvs : List (List Key × D))
  | ins (C : Addr) (ns : List Str) (ds : List D)
  | lkK (d : Addr) (o : Obj) (ks : List (Key × V)) (kvs : List (Key × D))
  | lkT (d : Addr) (o : Obj) (ks : List (List Key × V)) (kvs : List (List Key × D))
  | lsA (d : Addr) (ds : List D)
  | dTA (d : Addr) (kvs : List (List Key × D))
inductive Ent where
  | no | fz (d : D) | ow (o : Ow) | bw (k : Nat) (o : Ow)

def PK {κ : Type} (K : PySem.W.Frag) (F : Hp) : List (κ × V) → List (κ × D) → Prop := Paired fun (p : κ × V) (q : κ × D) => p.1 = q.1 ∧ DP K F p.2 q.2
def OwAt (K : PySem.W.Frag) (F H : Hp) (a : Addr) : Ow → Prop
  | .lst ds => ∃ xs, H a = some (.lst xs) ∧ DPs K F xs ds
  | .dK kvs => ∃ ks, H a = some (.dK ks) ∧ PK K F ks kvs
  | .dT kvs => ∃ ks, H a = some (.dT ks) ∧ PK K F ks kvs
  | .ins C ns ds => ∃ dx fs, H a = some (.ins C dx fs) ∧ F dx = some (.own a) ∧ ns = fs.map (·.1) ∧ DPs K F (fs.map (·.2)) ds
  | .lkK d o ks kvs => a = d ∧ H a = some (.frz o (.dK ks)) ∧ PK K F ks kvs
  | .lkT d o ks kvs => a = d ∧ H a = some (.frz o (.dT ks)) ∧ PK K F ks kvs
  | .lsA d ds => a = d ∧ ∃ xs, H a = some (.lst xs) ∧ DPs K F xs ds
  | .dTA d kvs => a = d ∧ ∃ ks, H a = some (.dT ks) ∧ PK K F ks kvs
theorem PK.mono {κ : Type} {K : PySem.W.Frag} {F F' : Hp} (s : Same F F') {l : List (κ × V)} {m : List (κ × D)} (h : PK K F l m) : PK K F' l m :=
  Paired.mapP h fun a b q => ⟨q.1, DP.mono s _ _ q.2⟩
theorem OwAt.mono {K : PySem.W.Frag} {F F' H H' : Hp} {a : Addr} {o : Ow} (s : Same F F') (e : H' a = H a) (h : OwAt K F H a o) : OwAt K F' H' a o := by
  cases o with
  | lst ds => obtain ⟨xs, h1, h2⟩ := h; exact ⟨xs, e.trans h1, DP.monoL s _ _ h2⟩
  | dK kvs => obtain ⟨ks, h1, h2⟩ := h; exact ⟨ks, e.trans h1, h2.mono s⟩
  | dT kvs => obtain ⟨ks, h1, h2⟩ := h; exact ⟨ks, e.trans h1, h2.mono s⟩
  | ins C ns ds => obtain ⟨dx, fs, h1, h2, h3, h4⟩ := h; exact ⟨dx, fs, e.trans h1, s _ _ h2, h3, DP.monoL s _ _ h4⟩
  | lkK d o ks kvs => obtain ⟨h0, h1, h2⟩ := h; exact ⟨h0, e.trans h1, h2.mono s⟩
  | lkT d o ks kvs => obtain ⟨h0, h1, h2⟩ := h; exact ⟨h0, e.trans h1, h2.mono s⟩
  | lsA d ds => obtain ⟨h0, xs, h1, h2⟩ := h; exact ⟨h0, xs, e.trans h1, DP.monoL s _ _ h2⟩
  | dTA d kvs => obtain ⟨h0, ks, h1, h2⟩ := h; exact ⟨h0, ks, e.trans h1, h2.mono s⟩
theorem OwAt.there {K : PySem.W.Frag} {F H : Hp} {a : Addr} {o : Ow} (h : OwAt K F H a o) : H a ≠ none := by
  intro z
  cases o <;> first
    | (obtain ⟨_, e, _⟩ := h; rw [z] at e; cases e)
    | (obtain ⟨_, _, e, _⟩ := h; rw [z] at e; cases e)

/-- no tuple -/
def NT (o : HO) : Prop := ∀ xs, o ≠ .tup xs
theorem OwAt.nt {K : PySem.W.Frag} {F H : Hp} {a : Addr} {o : Ow} (h : OwAt K F H a o) : ∃ x, H a = some x ∧ NT x := by
  cases o with
  | lst ds => obtain ⟨xs, e, _⟩ := h; exact ⟨_, e, fun xs z => by cases z⟩
  | dK ds => obtain ⟨xs, e, _⟩ := h; exact ⟨_, e, fun xs z => by cases z⟩
  | dT ds => obtain ⟨xs, e, _⟩ := h; exact ⟨_, e, fun xs z => by cases z⟩
  | ins C ns ds => obtain ⟨_, xs, e, _⟩ := h; exact ⟨_, e, fun xs z => by cases z⟩
  | lkK d o ks ds => obtain ⟨_, e, _⟩ := h; exact ⟨_, e, fun xs z => by cases z⟩
  | lkT d o ks ds => obtain ⟨_, e, _⟩ := h; exact ⟨_, e, fun xs z => by cases z⟩
  | lsA d ds => obtain ⟨_, xs, e, _⟩ := h; exact ⟨_, e, fun xs z => by cases z⟩
  | dTA d ds => obtain ⟨_, xs, e, _⟩ := h; exact ⟨_, e, fun xs z => by cases z⟩
/-- what a def had at its entry: what was frozen, the heap, the handed values, which addresses it may change -/
structure Bs where
  F0 : Hp
  H0 : Hp
  ps : List V
  M : Addr → Prop

def EntOk (K : PySem.W.Frag) (B : Bs) (F H : Hp) : Option V → Ent → Prop
  | _, .no => True
  | v, .fz d => ∃ x, v = some x ∧ DP K F x d
  | v, .ow o => ∃ a, v = some (.ref a) ∧ OwAt K F H a o ∧ B.H0 a = none
  | v, .bw k o => ∃ a, v = some (.ref a) ∧ OwAt K F H a o ∧ B.ps[k]? = some (.ref a) ∧ B.M a

def oad : Option V → Ent → List Addr
  | some (.ref a), .ow _ => [a]
  | some (.ref a), .bw _ _ => [a]
  | _, _ => []
def oads : St → List Ent → List Addr
  | v :: s, e :: g => oad v e ++ oads s g
  | _, _ => []

structure Conf (K : PySem.W.Frag) (B : Bs) (s : St) (F H : Hp) (G : List Ent) : Prop where
  fh : Same F H
  ff : Same B.F0 F
  keep : ∀ a o, ¬ B.M a → B.H0 a = some o → H a = some o
  there : ∀ a, B.H0 a ≠ none → H a ≠ none
  old : ∀ a, (∃ o, B.H0 a = some o ∧ NT o) → B.F0 a = none → F a = none ∧ ∃ o, H a = some o ∧ NT o
  env : Paired (EntOk K B F H) s G
  nd : (oads s G).Nodup
  own : ∀ a ∈ oads s G, F a = none

theorem EntOk.mono {K : PySem.W.Frag} {B : Bs} {F F' H H' : Hp} {v : Option V} {e : Ent} (s : Same F F') (k : ∀ a ∈ oad v e, H' a = H a) (h : EntOk K B F H v e) : EntOk K B F' H' v e := by
  cases e with
  | no => trivial
  | fz d => obtain ⟨x, e, p⟩ := h; exact ⟨x, e, DP.mono s _ _ p⟩
  | ow o => obtain ⟨a, e, p, n⟩ := h; subst e; exact ⟨a, rfl, p.mono s (k a (by simp [oad])), n⟩
  | bw i o => obtain ⟨a, e, p, n⟩ := h; subst e; exact ⟨a, rfl, p.mono s (k a (by simp [oad])), n⟩
theorem env_mono {K : PySem.W.Frag} {B : Bs} {F F' H H' : Hp} (s : Same F F') : ∀ {vs : St} {G : List Ent}, (∀ a ∈ oads vs G, H' a = H a) → Paired (EntOk K B F H) vs G → Paired (EntOk K B F' H') vs G
  | _, _, _, .nil => .nil
  | _, _, k, .cons r t => .cons (r.mono s fun a ha => k a (List.mem_append_left _ ha)) (env_mono s (fun a ha => k a (List.mem_append_right _ ha)) t)
theorem env_there {K : PySem.W.Frag} {B : Bs} {F H : Hp} : ∀ {vs : St} {G : List Ent}, Paired (EntOk K B F H) vs G → ∀ a ∈ oads vs G, H a ≠ none
  | _, _, .nil, a, h => by simp [oads] at h
  | v :: vs, e :: G, .cons r t, a, h => by
    rcases List.mem_append.mp h with h | h
    · cases e with
      | no => cases v with
        | none => simp [oad] at h
        | some x => cases x <;> simp [oad] at h
      | fz d => cases v with
        | none => simp [oad] at h
        | some x => cases x <;> simp [oad] at h
      | ow o => obtain ⟨b, e, p, _⟩ := r; subst e; simp [oad] at h; subst h; exact p.there
      | bw k o => obtain ⟨b, e, p, _⟩ := r; subst e; simp [oad] at h; subst h; exact p.there
    · exact env_there t a h
theorem env_nt {K : PySem.W.Frag} {B : Bs} {F H : Hp} : ∀ {vs : St} {G : List Ent}, Paired (EntOk K B F H) vs G → ∀ a ∈ oads vs G, ∃ x, H a = some x ∧ NT x
  | _, _, .nil, a, h => by simp [oads] at h
  | v :: vs, e :: G, .cons r t, a, h => by
    rcases List.mem_append.mp h with h | h
    · cases e with
      | no => cases v with
        | none => simp [oad] at h
        | some x => cases x <;> simp [oad] at h
      | fz d => cases v with
        | none => simp [oad] at h
        | some x => cases x <;> simp [oad] at h
      | ow o => obtain ⟨b, e, p, _⟩ := r; subst e; simp [oad] at h; subst h; exact p.nt
      | bw k o => obtain ⟨b, e, p, _⟩ := r; subst e; simp [oad] at h; subst h; exact p.nt
    · exact env_nt t a h
theorem oads_app : ∀ {s s' : St} {g g' : List Ent}, s.length = g.length → oads (s ++ s') (g ++ g') = oads s g ++ oads s' g'
  | [], _, [], _, _ => rfl
  | [], _, _ :: _, _, e => by simp at e
  | _ :: _, _, [], _, e => by simp at e
  | v :: s, s', x :: g, g', e => by
    show oad v x ++ oads (s ++ s') (g ++ g') = (oad v x ++ oads s g) ++ oads s' g'
    rw [oads_app (by simpa using e), List.append_assoc]
theorem oads_at : ∀ {s : St} {g : List Ent} {i : Nat} {v : Option V} {e : Ent}, s[i]? = some v → g[i]? = some e → ∀ a ∈ oad v e, a ∈ oads s g
  | [], _, i, _, _, h, _, _, _ => by simp at h
  | _ :: _, [], i, _, _, _, h, _, _ => by simp at h
  | v :: s, e :: g, 0, _, _, h1, h2, a, ha => by
    simp at h1 h2
    subst h1 h2
    exact List.mem_append_left _ ha
  | v :: s, e :: g, i + 1, _, _, h1, h2, a, ha => List.mem_append_right _ (oads_at (i := i) (by simpa using h1) (by simpa using h2) a ha)
/-- a slot is overwritten by what owns nothing, or by what owns new things -/
theorem oads_set : ∀ {s : St} {g : List Ent} {i : Nat} {v : Option V} {e : Ent}, s.length = g.length → ∀ {P : Addr → Prop}, (∀ a ∈ oads s g, ¬ P a) → (∀ a ∈ oad v e, P a) → (oads s g).Nodup → (oad v e).Nodup →
    (oads (s.set i v) (g.set i e)).Nodup ∧ ∀ a ∈ oads (s.set i v) (g.set i e), a ∈ oad v e ∨ a ∈ oads s g
  | [], [], i, v, e, _, P, _, _, _, _ => by simp [oads]
  | [], _ :: _, _, _, _, h, _, _, _, _, _ => by simp at h
  | _ :: _, [], _, _, _, h, _, _, _, _, _ => by simp at h
  | x :: s, y :: g, 0, v, e, h, P, h1, h2, h3, h4 => by
    show (oad v e ++ oads s g).Nodup ∧ ∀ a ∈ oad v e ++ oads s g, _
    have h3' : (oad x y ++ oads s g).Nodup := h3
    refine ⟨List.nodup_append.mpr ⟨h4, (List.nodup_append.mp h3').2.1, fun a ha b hb z => ?_⟩, fun a ha => ?_⟩
    · subst z
      exact h1 a (List.mem_append_right _ hb) (h2 a ha)
    · rcases List.mem_append.mp ha with ha | ha
      · exact .inl ha
      · exact .inr (List.mem_append_right _ ha)
  | x :: s, y :: g, i + 1, v, e, h, P, h1, h2, h3, h4 => by
    show (oad x y ++ oads (s.set i v) (g.set i e)).Nodup ∧ ∀ a ∈ oad x y ++ oads (s.set i v) (g.set i e), _
    have h3' : (oad x y ++ oads s g).Nodup := h3
    obtain ⟨k1, k2⟩ := oads_set (s := s) (g := g) (i := i) (v := v) (e := e) (by simpa using h) (P := P) (fun a ha => h1 a (List.mem_append_right _ ha)) h2 (List.nodup_append.mp h3').2.1 h4
    refine ⟨List.nodup_append.mpr ⟨(List.nodup_append.mp h3').1, k1, fun a ha b hb z => ?_⟩, fun a ha => ?_⟩
    · subst z
      rcases k2 a hb with q | q
      · exact h1 a (List.mem_append_left _ ha) (h2 a q)
      · exact (List.nodup_append.mp h3').2.2 a ha a q rfl
    · rcases List.mem_append.mp ha with ha | ha
      · exact .inr (List.mem_append_left _ ha)
      · rcases k2 a ha with q | q
        · exact .inl q
        · exact .inr (List.mem_append_right _ q)
/-- a slot's entry changes, its value stays: what it owns does not grow -/
theorem oads_same : ∀ {s : St} {g : List Ent} {i : Nat} {v : Option V} {e e' : Ent}, s[i]? = some v → g[i]? = some e → (∀ a ∈ oad v e', a ∈ oad v e) → (oad v e').Nodup → (oads s g).Nodup →
    (oads s (g.set i e')).Nodup ∧ ∀ a ∈ oads s (g.set i e'), a ∈ oads s g
  | [], _, _, _, _, _, h, _, _, _, _ => by simp at h
  | _ :: _, [], _, _, _, _, _, h, _, _, _ => by simp at h
  | x :: s, y :: g, 0, v, e, e', h1, h2, h3, h4, h5 => by
    simp at h1 h2
    subst h1 h2
    have h5' : (oad x y ++ oads s g).Nodup := h5
    show (oad x e' ++ oads s g).Nodup ∧ ∀ a ∈ oad x e' ++ oads s g, a ∈ oad x y ++ oads s g
    refine ⟨List.nodup_append.mpr ⟨h4, (List.nodup_append.mp h5').2.1, fun a ha b hb z => (List.nodup_append.mp h5').2.2 a (h3 a ha) b hb z⟩, fun a ha => ?_⟩
    rcases List.mem_append.mp ha with ha | ha
    · exact List.mem_append_left _ (h3 a ha)
    · exact List.mem_append_right _ ha
  | x :: s, y :: g, i + 1, v, e, e', h1, h2, h3, h4, h5 => by
    have h5' : (oad x y ++ oads s g).Nodup := h5
    obtain ⟨k1, k2⟩ := oads_same (s := s) (g := g) (i := i) (e' := e') (by simpa using h1) (by simpa using h2) h3 h4 (List.nodup_append.mp h5').2.1
    show (oad x y ++ oads s (g.set i e')).Nodup ∧ ∀ a ∈ oad x y ++ oads s (g.set i e'), a ∈ oad x y ++ oads s g
    refine ⟨List.nodup_append.mpr ⟨(List.nodup_append.mp h5').1, k1, fun a ha b hb z => (List.nodup_append.mp h5').2.2 a ha b (k2 b hb) z⟩, fun a ha => ?_⟩
    rcases List.mem_append.mp ha with ha | ha
    · exact List.mem_append_left _ ha
    · exact List.mem_append_right _ (k2 a ha)
/-- another slot's own address -/
theorem oads_other : ∀ {s : St} {g : List Ent} {i : Nat} {a : Addr} {e : Ent}, s.length = g.length → (oads s g).Nodup → s[i]? = some (some (.ref a)) → g[i]? = some e → oad (some (.ref a)) e = [a] → a ∉ oads (s.set i none) (g.set i .no)
  | [], _, _, _, _, _, _, h, _, _ => by simp at h
  | _ :: _, [], _, _, _, _, _, _, h, _ => by simp at h
  | x :: s, y :: g, 0, a, e, _, nd, h1, h2, h3 => by
    simp at h1 h2
    subst h1 h2
    have nd' : (oad (some (.ref a)) y ++ oads s g).Nodup := nd
    rw [h3] at nd'
    show a ∉ oad none .no ++ oads s g
    exact (List.nodup_cons.mp nd').1
  | x :: s, y :: g, i + 1, a, e, hl, nd, h1, h2, h3 => by
    have nd' : (oad x y ++ oads s g).Nodup := nd
    have ih := oads_other (s := s) (g := g) (i := i) (a := a) (e := e) (by simpa using hl) (List.nodup_append.mp nd').2.1 (by simpa using h1) (by simpa using h2) h3
    show a ∉ oad x y ++ oads (s.set i none) (g.set i .no)
    intro z
    rcases List.mem_append.mp z with z | z
    · exact (List.nodup_append.mp nd').2.2 a z a (oads_at (i := i) (by simpa using h1) (by simpa using h2) a (by rw [h3]; simp)) rfl
    · exact ih z
end J

namespace J
open PySem PySem.Spec L2

section
variable {K : PySem.W.Frag} {B : Bs} {F H : Hp} {s : St} {g : List Ent}

theorem Conf.len (c : Conf K B s F H g) : s.length = g.length := c.env.length
theorem Conf.at (c : Conf K B s F H g) {i : Nat} {e : Ent} (h : g[i]? = some e) : ∃ v, s[i]? = some v ∧ EntOk K B F H v e := pget c.env h
theorem Conf.pop {v : Option V} {e : Ent} (c : Conf K B (v :: s) F H (e :: g)) : Conf K B s F H g where
  fh := c.fh
  ff := c.ff
  keep := c.keep
  there := c.there
  old := c.old
  env := by cases c.env with | cons _ t => exact t
  nd := (List.nodup_append.mp (show (oad v e ++ oads s g).Nodup from c.nd)).2.1
  own := fun a ha => c.own a (List.mem_append_right _ ha)
theorem oad_fz (v : Option V) (d : D) : oad v (.fz d) = [] := by
  cases v with
  | none => rfl
  | some x => cases x <;> rfl
theorem oad_no (v : Option V) : oad v .no = [] := by
  cases v with
  | none => rfl
  | some x => cases x <;> rfl
/-- what owns nothing comes on top -/
theorem Conf.push {v : Option V} {e : Ent} (c : Conf K B s F H g) (h : EntOk K B F H v e) (n : oad v e = []) : Conf K B (v :: s) F H (e :: g) where
  fh := c.fh
  ff := c.ff
  keep := c.keep
  there := c.there
  old := c.old
  env := .cons h c.env
  nd := by show (oad v e ++ oads s g).Nodup; rw [n]; exact c.nd
  own := fun a ha => by
    have ha' : a ∈ oad v e ++ oads s g := ha
    rw [n] at ha'
    exact c.own a ha'
theorem Conf.fz {v : V} {d : D} (c : Conf K B s F H g) (h : DP K F v d) : Conf K B (some v :: s) F H (.fz d :: g) := c.push ⟨v, rfl, h⟩ (oad_fz _ _)
theorem same_upd {H : Hp} {p : Addr} {o : HO} (h : H p = none) : Same H (upd H p o) := fun b x e => by
  rw [upd_ne (ne_of_none e h)]
  exact e
theorem Conf.fresh {p : Addr} (c : Conf K B s F H g) (h : H p = none) : F p = none := Same.free c.fh h
/-- a new thing, frozen at once -/
theorem Conf.alloc {p : Addr} {o : HO} (c : Conf K B s F H g) (h : H p = none) : Conf K B s (upd F p o) (upd H p o) g where
  fh := fun b x e => by
    by_cases hb : b = p
    · subst hb; rw [upd_same] at e; rw [upd_same]; exact e
    · rw [upd_ne hb] at e; rw [upd_ne hb]; exact c.fh b x e
  ff := c.ff.trans (same_upd (c.fresh h))
  keep := fun a x m e => by rw [upd_ne (ne_of_none (c.keep a x m e) h)]; exact c.keep a x m e
  there := fun a z e => c.there a z (by
    by_cases hb : a = p
    · subst hb; exact h
    · rw [upd_ne hb] at e; exact e)
  old := fun a z e => by
    have : a ≠ p := fun q => by subst q; obtain ⟨o', eo, _⟩ := z; exact c.there a (by rw [eo]; simp) h
    rw [upd_ne this, upd_ne this]; exact c.old a z e
  env := env_mono (same_upd (c.fresh h)) (fun a ha => upd_ne fun q => env_there c.env a ha (by rw [q]; exact h)) c.env
  nd := c.nd
  own := fun a ha => by
    rw [upd_ne fun q => env_there c.env a ha (by rw [q]; exact h)]
    exact c.own a ha
theorem oad_ow (a : Addr) (o : Ow) : oad (some (.ref a)) (.ow o) = [a] := rfl
theorem oad_bw (a : Addr) (k : Nat) (o : Ow) : oad (some (.ref a)) (.bw k o) = [a] := rfl
/-- a new thing of one's own -/
theorem Conf.new {p : Addr} {ho : HO} {o : Ow} (c : Conf K B s F H g) (h : H p = none) (q : OwAt K F (upd H p ho) p o) : Conf K B (some (.ref p) :: s) F (upd H p ho) (.ow o :: g) where
  fh := fun b x e => by rw [upd_ne (ne_of_none (c.fh b x e) h)]; exact c.fh b x e
  ff := c.ff
  keep := fun a x m e => by rw [upd_ne (ne_of_none (c.keep a x m e) h)]; exact c.keep a x m e
  there := fun a z e => c.there a z (by
    by_cases hb : a = p
    · subst hb; exact h
    · rw [upd_ne hb] at e; exact e)
  old := fun a z e => by
    have : a ≠ p := fun q => by subst q; obtain ⟨o', eo, _⟩ := z; exact c.there a (by rw [eo]; simp) h
    rw [upd_ne this]; exact c.old a z e
  env := .cons ⟨p, rfl, q, by
    cases e : B.H0 p with
    | none => rfl
    | some x => exact absurd h (c.there p (by rw [e]; simp))⟩ (env_mono (Same.refl F) (fun a ha => upd_ne fun z => env_there c.env a ha (by rw [z]; exact h)) c.env)
  nd := by
    show ([p] ++ oads s g).Nodup
    exact List.nodup_cons.mpr ⟨fun ha => env_there c.env p ha h, c.nd⟩
  own := fun a ha => by
    rcases List.mem_append.mp (show a ∈ [p] ++ oads s g from ha) with ha | ha
    · simp at ha; subst ha; exact c.fresh h
    · exact c.own a ha
theorem OldB {a b : Addr} {ho : HO} {o' : Ow} (c : Conf K B s F H g) (q : OwAt K F (upd H a ho) a o') (z : ∃ o, B.H0 b = some o ∧ NT o) (e : B.F0 b = none) : F b = none ∧ ∃ o, upd H a ho b = some o ∧ NT o := by
  obtain ⟨k1, k2⟩ := c.old b z e
  by_cases w : b = a
  · subst w; exact ⟨k1, q.nt⟩
  · rw [upd_ne w]; exact ⟨k1, k2⟩
theorem OldW {a b : Addr} {ho : HO} (c : Conf K B s F H g) (n : B.H0 a = none) (z : ∃ o, B.H0 b = some o ∧ NT o) (e : B.F0 b = none) : F b = none ∧ ∃ o, upd H a ho b = some o ∧ NT o := by
  have : b ≠ a := fun w => by subst w; obtain ⟨o', eo, _⟩ := z; rw [n] at eo; cases eo
  rw [upd_ne this]; exact c.old b z e
/-- what is owned at slot i is written -/
theorem Conf.write {i : Nat} {a : Addr} {ho : HO} {o o' : Ow} (c : Conf K B s F H g) (hi : g[i]? = some (.ow o)) (hv : s[i]? = some (some (.ref a))) (q : OwAt K F (upd H a ho) a o') :
    Conf K B s F (upd H a ho) (g.set i (.ow o')) := by
  obtain ⟨v, e, h⟩ := c.at hi
  rw [hv] at e; cases e
  obtain ⟨b, e, p, n⟩ := h
  cases e
  have ha : a ∈ oads s g := oads_at hv hi a (by simp [oad])
  have hF : F a = none := c.own a ha
  obtain ⟨nd', sub⟩ := oads_same (e' := .ow o') hv hi (fun b hb => hb) (by simp [oad]) c.nd
  refine ⟨fun b x e => ?_, c.ff, fun b x m e => ?_, fun b z e => ?_, fun b z e => OldW c n z e, ?_, nd', fun b hb => c.own b (sub b hb)⟩
  · rw [upd_ne (ne_of_none e hF)]; exact c.fh b x e
  · have : b ≠ a := fun z => by subst z; rw [n] at e; cases e
    rw [upd_ne this]; exact c.keep b x m e
  · have : b ≠ a := fun z' => by subst z'; exact z n
    rw [upd_ne this] at e; exact c.there b z e
  · -- the other entries stand
    have other := oads_other c.len c.nd hv hi rfl
    have e1 : Paired (EntOk K B F H) (s.set i none) (g.set i .no) := pset trivial i c.env
    have e2 := env_mono (H' := upd H a ho) (Same.refl F) (fun b hb => upd_ne fun z => other (z ▸ hb)) e1
    have e3 : Paired (EntOk K B F (upd H a ho)) ((s.set i none).set i (some (.ref a))) ((g.set i .no).set i (.ow o')) := pset ⟨a, rfl, q, n⟩ i e2
    rw [List.set_set, List.set_set] at e3
    have : s.set i (some (.ref a)) = s := by
      have hlt := (List.getElem?_eq_some_iff.mp hv)
      obtain ⟨hl, he⟩ := hlt
      rw [← he]; exact List.set_getElem_self hl
    rwa [this] at e3
theorem Conf.writeB {i k : Nat} {a : Addr} {ho : HO} {o o' : Ow} (c : Conf K B s F H g) (hi : g[i]? = some (.bw k o)) (hv : s[i]? = some (some (.ref a))) (q : OwAt K F (upd H a ho) a o') :
    Conf K B s F (upd H a ho) (g.set i (.bw k o')) := by
  obtain ⟨v, e, h⟩ := c.at hi
  rw [hv] at e; cases e
  obtain ⟨b, e, p, n, m⟩ := h
  cases e
  have ha : a ∈ oads s g := oads_at hv hi a (by simp [oad])
  have hF : F a = none := c.own a ha
  obtain ⟨nd', sub⟩ := oads_same (e' := .bw k o') hv hi (fun b hb => hb) (by simp [oad]) c.nd
  refine ⟨fun b x e => ?_, c.ff, fun b x m' e => ?_, fun b z e => ?_, fun b z e => OldB c q z e, ?_, nd', fun b hb => c.own b (sub b hb)⟩
  · rw [upd_ne (ne_of_none e hF)]; exact c.fh b x e
  · have : b ≠ a := fun z => by subst z; exact m' m
    rw [upd_ne this]; exact c.keep b x m' e
  · by_cases hb : b = a
    · subst hb; rw [upd_same] at e; cases e
    · rw [upd_ne hb] at e; exact c.there b z e
  · have other := oads_other c.len c.nd hv hi rfl
    have e1 : Paired (EntOk K B F H) (s.set i none) (g.set i .no) := pset trivial i c.env
    have e2 := env_mono (H' := upd H a ho) (Same.refl F) (fun b hb => upd_ne fun z => other (z ▸ hb)) e1
    have e3 : Paired (EntOk K B F (upd H a ho)) ((s.set i none).set i (some (.ref a))) ((g.set i .no).set i (.bw k o')) := pset ⟨a, rfl, q, n, m⟩ i e2
    rw [List.set_set, List.set_set] at e3
    have : s.set i (some (.ref a)) = s := by
      have hlt := (List.getElem?_eq_some_iff.mp hv)
      obtain ⟨hl, he⟩ := hlt
      rw [← he]; exact List.set_getElem_self hl
    rwa [this] at e3
/-- an entry is forgotten -/
theorem Conf.forget {i : Nat} (c : Conf K B s F H g) : Conf K B s F H (g.set i .no) := by
  by_cases hl : i < g.length
  · have hg : g[i]? = some g[i] := List.getElem?_eq_getElem hl
    have hs : s[i]? = some (s[i]'(by rw [c.len]; exact hl)) := List.getElem?_eq_getElem _
    obtain ⟨nd', sub⟩ := oads_same (e' := .no) hs hg (fun b hb => by rw [oad_no] at hb; cases hb) (by rw [oad_no]; exact List.nodup_nil) c.nd
    have e1 : Paired (EntOk K B F H) (s.set i (s[i]'(by rw [c.len]; exact hl))) (g.set i .no) := pset trivial i c.env
    rw [List.set_getElem_self] at e1
    exact ⟨c.fh, c.ff, c.keep, c.there, c.old, e1, nd', fun b hb => c.own b (sub b hb)⟩
  · rw [List.set_eq_of_length_le (by omega)]; exact c
/-- an own list is frozen -/
@[reducible] def frzOw : Ow → Option D
  | .lst ds => some (.lst ds)
  | .ins C ns ds => some (.ins C ns ds)
  | .lsA _ ds => some (.lst ds)
  | _ => none
theorem Conf.freeze {i : Nat} {o : Ow} {d : D} (c : Conf K B s F H g) (hi : g[i]? = some (.ow o)) (hf : frzOw o = some d) : ∃ F', Same F F' ∧ Conf K B s F' H (g.set i (.fz d)) := by
  obtain ⟨v, hv, h⟩ := c.at hi
  obtain ⟨a, e, p, n⟩ := h
  subst e
  have ha : a ∈ oads s g := oads_at hv hi a (by simp [oad])
  have hF : F a = none := c.own a ha
  obtain ⟨x, hx⟩ : ∃ x, H a = some x := by
    cases e : H a with
    | none => exact absurd e p.there
    | some x => exact ⟨x, rfl⟩
  have sm : Same F (upd F a x) := same_upd hF
  have dp : DP K (upd F a x) (.ref a) d := by
    cases o with
    | lst ds =>
      obtain ⟨xs, h1, h2⟩ := p
      rw [hx] at h1; cases h1
      have hf' : D.lst ds = d := Option.some.inj hf
      subst hf'
      exact .lst upd_same (DP.monoL sm _ _ h2)
    | ins C ns ds =>
      obtain ⟨dx, fs, h1, h2, h3, h4⟩ := p
      rw [hx] at h1; cases h1
      have hf' : D.ins C ns ds = d := Option.some.inj hf
      subst hf'
      exact .ins upd_same (sm _ _ h2) h3 (DP.monoL sm _ _ h4)
    | dK _ => cases hf
    | dT _ => cases hf
    | lkK _ _ _ _ => cases hf
    | lkT _ _ _ _ => cases hf
    | lsA a0 ds =>
      obtain ⟨_, xs, h1, h2⟩ := p
      rw [hx] at h1; cases h1
      have hf' : D.lst ds = d := Option.some.inj hf
      subst hf'
      exact .lst upd_same (DP.monoL sm _ _ h2)
    | dTA _ _ => cases hf
  obtain ⟨nd', sub⟩ := oads_same (e' := .fz d) hv hi (fun b hb => by rw [oad_fz] at hb; cases hb) (by rw [oad_fz]; exact List.nodup_nil) c.nd
  have other := oads_other c.len c.nd hv hi rfl
  have e1 : Paired (EntOk K B F H) (s.set i none) (g.set i .no) := pset trivial i c.env
  have e2 := env_mono (H' := H) sm (fun b hb => rfl) e1
  have e3 : Paired (EntOk K B (upd F a x) H) ((s.set i none).set i (some (.ref a))) ((g.set i .no).set i (.fz d)) := pset ⟨_, rfl, dp⟩ i e2
  rw [List.set_set, List.set_set] at e3
  have es : s.set i (some (.ref a)) = s := by
    obtain ⟨hl, he⟩ := List.getElem?_eq_some_iff.mp hv
    rw [← he]; exact List.set_getElem_self hl
  rw [es] at e3
  refine ⟨upd F a x, sm, fun b y e => ?_, c.ff.trans sm, c.keep, c.there, fun b z e => ?_, e3, nd', fun b hb => ?_⟩
  · by_cases hb : b = a
    · subst hb; rw [upd_same] at e; cases e; exact hx
    · rw [upd_ne hb] at e; exact c.fh b y e
  · have : b ≠ a := fun q => by subst q; obtain ⟨o', eo, _⟩ := z; rw [n] at eo; cases eo
    rw [upd_ne this]; exact c.old b z e
  · have hne : b ≠ a := fun z => by
      subst z
      -- b is owned elsewhere too: no
      have : b ∈ oads (s.set i none) (g.set i .no) := by
        have hb' := hb
        have hl : i < g.length := (List.getElem?_eq_some_iff.mp hi).1
        -- the entries at i own nothing in both
        have key : ∀ {s : St} {g : List Ent} {i : Nat} {v w : Option V} {e f : Ent}, oad v e = [] → oad w f = [] → s.length = g.length → oads (s.set i v) (g.set i e) = oads (s.set i w) (g.set i f) := by
          intro s
          induction s with
          | nil => intro g i v w e f _ _ _; rfl
          | cons x s ih =>
            intro g i v w e f h1 h2 hl
            cases g with
            | nil => simp at hl
            | cons y g =>
              cases i with
              | zero => show oad v e ++ oads s g = oad w f ++ oads s g; rw [h1, h2]
              | succ i => show oad x y ++ oads (s.set i v) (g.set i e) = oad x y ++ oads (s.set i w) (g.set i f); rw [ih h1 h2 (by simpa using hl)]
        rw [← key (oad_fz (some (.ref b)) d) (oad_no none) c.len, es]
        exact hb'
      exact other this
    rw [upd_ne hne]; exact c.own b (sub b hb)
/-- the top goes to a slot -/
theorem Conf.store {i : Nat} {t : St} {z : List Ent} {v : Option V} {e : Ent} (hl : t.length = z.length) (c : Conf K B (v :: (t ++ s)) F H (e :: (z ++ g))) : Conf K B (t ++ s.set i v) F H (z ++ g.set i e) := by
  have nd := (List.nodup_append.mp (show (oad v e ++ oads (t ++ s) (z ++ g)).Nodup from c.nd))
  have own := c.own
  have le : (t ++ s).length = (z ++ g).length := c.pop.len
  cases c.env with
  | cons r tl =>
    by_cases hi : i < s.length
    · have es : t ++ s.set i v = (t ++ s).set (t.length + i) v := by
        rw [List.set_append_right _ _ (by omega)]; congr 2; omega
      have eg : z ++ g.set i e = (z ++ g).set (t.length + i) e := by
        rw [List.set_append_right _ _ (by omega)]; congr 2; omega
      rw [es, eg]
      obtain ⟨k1, k2⟩ := oads_set (i := t.length + i) (v := v) (e := e) le (P := fun a => a ∈ oad v e) (fun a ha q => nd.2.2 a q a ha rfl) (fun a ha => ha) nd.2.1 nd.1
      refine ⟨c.fh, c.ff, c.keep, c.there, c.old, pset r _ tl, k1, fun a ha => ?_⟩
      rcases k2 a ha with q | q
      · exact own a (List.mem_append_left _ q)
      · exact own a (List.mem_append_right _ q)
    · have hg : g.length ≤ i := by
        have : t.length + s.length = z.length + g.length := by simpa using le
        omega
      rw [List.set_eq_of_length_le (by omega), List.set_eq_of_length_le hg]
      exact c.pop
theorem set_app {α : Type} {t s : List α} {i : Nat} {v : α} : (t ++ s).set (t.length + i) v = t ++ s.set i v := by
  rw [List.set_append_right _ _ (by omega)]; congr 2; omega
theorem get_app {α : Type} {t s : List α} {i : Nat} : (t ++ s)[t.length + i]? = s[i]? := by
  rw [List.getElem?_append_right (by omega)]; congr 1; omega
end
end J

namespace J
open PySem PySem.Spec L2

/-! ## what a piece of code means, by itself -/
def tS (X : Cx) (e : Expr) : TE := fun s H Q => ∀ pins sh, Inv X pins s H sh → wpAny (model X.prog X.w) X.A (eval e X.env) (EP X pins s Q) X.xe sh
def tT (X : Cx) (e : Expr) : TT := fun s H Q => ∀ pins sh, Inv X pins s H sh → wpAny (model X.prog X.w) X.A (isTrue e X.env (eval e X.env)) (TP X pins s Q) X.xe sh
def tW (X : Cx) (e : Expr) : TT := fun s H Q => ∀ whole pins sh, Inv X pins s H sh → wpAny (model X.prog X.w) X.A (isTrue e X.env whole) (TP X pins s Q) X.xe sh
def tAr (X : Cx) (es : List Expr) : TA := fun s H Q => ∀ pos pins sh, Inv X pins s H sh → wpAny (model X.prog X.w) X.A (spliced (backTo pos (starEach es X.env))) (AP X pins s Q) X.xe sh
def tSt (X : Cx) (st : Stmt) : TS := fun D s H => ∀ pins sh, Inv X pins s H sh → wpAny (model X.prog X.w) X.A (exec st X.env) (SP X pins D) X.xe sh
def tSs (X : Cx) (st : List Stmt) : TS := fun D s H => ∀ pins sh, Inv X pins s H sh → wpAny (model X.prog X.w) X.A (execs st X.env) (SP X pins D) X.xe sh
def tGt (X : Cx) (tg : Expr) : TG := fun v s H Q => ∀ pins sh u, Inv X pins s H sh → RelV v u → wpAny (model X.prog X.w) X.A (assign tg X.env u) (fun _ s' => ∃ s2 H', Inv X pins s2 H' s' ∧ Q s2 H') X.xe sh
def tIt (X : Cx) (tg iter : Expr) : TI := fun s H R => ∀ pins sh, Inv X pins s H sh → wpAny (model X.prog X.w) X.A (eval iter X.env) (fun v s1 => wpAny (model X.prog X.w) X.A (pyIter v) (PIE X pins s tg R) X.xe s1) X.xe sh
section
variable {X : Cx} {e tg : Expr} {es : List Expr} {st : Stmt} {sts : List Stmt}
theorem pe_sem : PE X e (tS X e) := ⟨fun pins s _ _ _ I h => h pins s I⟩
theorem pt_sem : PT X e (tT X e) := ⟨fun pins s _ _ _ I h => h pins s I⟩
theorem pw_sem : PW X e (tW X e) := ⟨fun wh pins s _ _ _ I h => h wh pins s I⟩
theorem pa_sem : PA X es (tAr X es) := ⟨fun pos pins s _ _ _ I h => h pos pins s I⟩
theorem ps_sem : PS X st (tSt X st) := ⟨fun pins s _ _ _ I h => h pins s I⟩
theorem pss_sem : PSs X sts (tSs X sts) := ⟨fun pins s _ _ _ I h => h pins s I⟩
theorem pg_sem : PG X tg (tGt X tg) := ⟨fun pins s _ _ _ u _ I r h => h pins s u I r⟩
theorem pi_sem : PI X tg e (tIt X tg e) := ⟨fun pins s _ _ _ I h => h pins s I⟩
theorem tS_of {t : TE} (h : PE X e t) {s : St} {H : Hp} {Q : VK} (q : t s H Q) : tS X e s H Q := fun pins sh I => h.run pins sh s H Q I q
theorem tT_of {t : TT} (h : PT X e t) {s : St} {H : Hp} {Q : Bool → Hp → Prop} (q : t s H Q) : tT X e s H Q := fun pins sh I => h.run pins sh s H Q I q
theorem tW_of {t : TT} (h : PW X e t) {s : St} {H : Hp} {Q : Bool → Hp → Prop} (q : t s H Q) : tW X e s H Q := fun wh pins sh I => h.run wh pins sh s H Q I q
theorem tAr_of {t : TA} (h : PA X es t) {s : St} {H : Hp} {Q : List V → Hp → Prop} (q : t s H Q) : tAr X es s H Q := fun pos pins sh I => h.run pos pins sh s H Q I q
theorem tSt_of {t : TS} (h : PS X st t) {s : St} {H : Hp} {D : Ends} (q : t D s H) : tSt X st D s H := fun pins sh I => h.run pins sh s H D I q
theorem tSs_of {t : TS} (h : PSs X sts t) {s : St} {H : Hp} {D : Ends} (q : t D s H) : tSs X sts D s H := fun pins sh I => h.run pins sh s H D I q
theorem tGt_of {t : TG} (h : PG X tg t) {v : V} {s : St} {H : Hp} {Q : St → Hp → Prop} (q : t v s H Q) : tGt X tg v s H Q := fun pins sh u I r => h.run pins sh s H v u Q I r q
theorem tIt_of {t : TI} (h : PI X tg e t) {s : St} {H : Hp} {R : It → Hp → Prop} (q : t s H R) : tIt X tg e s H R := fun pins sh I => h.run pins sh s H R I q
end

/-! ## exceptions -/
structure XD where
  C : Addr
  fs : List (Str × D)
def XOk (K : PySem.W.Frag) (F H : Hp) (x : XD) (od : Option Addr) : Prop :=
  (x.fs = [] ∧ od = none) ∨ (x.fs ≠ [] ∧ ∃ dx fv, od = some dx ∧ F dx = some (.xd fv) ∧ PK K F fv x.fs)
/-- what is wished of exceptions: over the slots; over the entries -/
structure XW where
  W : WX
  R : XD → List Ent → Prop
def XW.non : XW := ⟨fun _ _ _ _ => False, fun _ _ => False⟩

/-- the names of a def or a block: all by slot; the scope; the slots that may be read, stored; the module's and built-in names -/
structure Sc where
  N : List Str
  sc : Scope
  vi : List Nat
  li : List Nat
  gl : List Str
def okName (x : Str) : Bool := !(x == ("__debug__" : Str)) && !(x == ("__classdict__" : Str)) && !(x == ("__name__" : Str))
def Sc.ok (S : Sc) : Bool :=
  (S.vi.all fun i => match S.N[i]? with
    | some x => okName x && (match S.sc.names.lookup x with | some .local => true | some .cell => true | some .free => true | _ => false)
    | none => false) &&
  (S.li.all fun i => match S.N[i]? with
    | some x => okName x && (match S.sc.names.lookup x with | some .local => true | some .cell => true | _ => false)
    | none => false) &&
  (S.gl.all fun x => okName x && (match S.sc.names.lookup x with | some .globalImplicit => true | _ => false)) && decide S.N.Nodup
/-- where one stands -/
structure CJ (P : Program) (w : World) (K : PySem.W.Frag) (mg : Str → Option Value) (base : Heap) (S : Sc) (k : Nat) (X : Cx) (B : Bs) (E : XW) : Prop where
  hprog : X.prog = P
  hw : X.w = w
  hK : X.K = K
  hmg : X.mg = mg
  hbase : X.base = base
  hN : X.N = S.N
  hsc : X.env.scope = S.sc
  ok : S.ok = true
  fn : ∀ (i : Nat) (x : Str), i ∈ S.li → S.N[i]? = some x → X.fn x = true ∨ S.sc.names.lookup x = some .local
  calm : X.calm = true
  hr : Room k X.A
  po : PassesOwn (model X.prog X.w) X.A X.env X.xe
  tk : Takes X E.W
  ind : ∀ cls d s s' H, E.W cls d s H → E.W cls d s' H
  lk : ∀ (t s : St) (z : List Ent) (F H : Hp) (G : List Ent) (x : XD) (od : Option Addr), t.length = z.length → Conf X.K B (t ++ s) F H (z ++ G) → XOk X.K F H x od → E.R x G → E.W (.ref x.C) od s H
section
variable {P : Program} {w : World} {K : PySem.W.Frag} {mg : Str → Option Value} {base : Heap} {S : Sc} {k : Nat} {X : Cx} {B : Bs} {E : XW}
theorem okName_of {x : Str} (h : okName x = true) : (x == ("__debug__" : Str)) = false ∧ (x == ("__classdict__" : Str)) = false ∧ x ≠ "__name__" := by
  simp only [okName, Bool.and_eq_true, Bool.not_eq_true'] at h
  exact ⟨h.1.1, h.1.2, fun z => by rw [z] at h; simp at h⟩
theorem Sc.vis (ok : S.ok = true) {i : Nat} {x : Str} (h : i ∈ S.vi) (hN : S.N[i]? = some x) : okName x = true ∧ Vis S.sc x := by
  simp only [Sc.ok, Bool.and_eq_true, List.all_eq_true] at ok
  have := ok.1.1.1 i h
  rw [hN] at this
  have := Bool.and_eq_true_iff.mp this
  refine ⟨this.1, ?_⟩
  have := this.2
  split at this
  · exact .inl (by assumption)
  · exact .inr (.inl (by assumption))
  · exact .inr (.inr (by assumption))
  · cases this
theorem Sc.loc (ok : S.ok = true) {i : Nat} {x : Str} (h : i ∈ S.li) (hN : S.N[i]? = some x) : Loc S.sc x := by
  simp only [Sc.ok, Bool.and_eq_true, List.all_eq_true] at ok
  have := ok.1.1.2 i h
  rw [hN] at this
  simp only [Bool.and_eq_true] at this
  have := this.2
  split at this
  · exact .inl (by assumption)
  · exact .inr (by assumption)
  · cases this
theorem Sc.glb (ok : S.ok = true) {j : Nat} {x : Str} (h : S.gl[j]? = some x) : okName x = true ∧ S.sc.names.lookup x = some .globalImplicit := by
  simp only [Sc.ok, Bool.and_eq_true, List.all_eq_true] at ok
  have := ok.1.2 x (List.mem_of_getElem? h)
  refine ⟨this.1, ?_⟩
  have := this.2
  split at this
  · assumption
  · cases this
theorem Sc.nd (ok : S.ok = true) : S.N.Nodup := by
  simp only [Sc.ok, Bool.and_eq_true, decide_eq_true_eq] at ok
  exact ok.2
theorem CJ.gl (cj : CJ P w K mg base S k X B E) {j : Nat} {x : Str} (h : S.gl[j]? = some x) : Gl X x := by
  show X.env.scope.names.lookup x = _
  rw [cj.hsc]; exact (Sc.glb cj.ok h).2
theorem CJ.vis (cj : CJ P w K mg base S k X B E) {i : Nat} {x : Str} (h : i ∈ S.vi) (hN : S.N[i]? = some x) : Vis X.env.scope x := by
  rw [cj.hsc]; exact (Sc.vis cj.ok h hN).2
theorem CJ.loc (cj : CJ P w K mg base S k X B E) {i : Nat} {x : Str} (h : i ∈ S.li) (hN : S.N[i]? = some x) : Loc X.env.scope x := by
  rw [cj.hsc]; exact Sc.loc cj.ok h hN
theorem CJ.fn' (cj : CJ P w K mg base S k X B E) {i : Nat} {x : Str} (h : i ∈ S.li) (hN : S.N[i]? = some x) : X.fn x = true ∨ X.env.scope.names.lookup x = some .local := by
  rw [cj.hsc]; exact cj.fn i x h hN
theorem CJ.xN (cj : CJ P w K mg base S k X B E) {i : Nat} {x : Str} (hN : S.N[i]? = some x) : X.N[i]? = some x := by rw [cj.hN]; exact hN
theorem CJ.nd (cj : CJ P w K mg base S k X B E) : X.N.Nodup := by rw [cj.hN]; exact Sc.nd cj.ok
theorem CJ.dbg (cj : CJ P w K mg base S k X B E) {j : Nat} {x : Str} (h : S.gl[j]? = some x) : (x == ("__debug__" : Str)) = false := (okName_of (Sc.glb cj.ok h).1).1
theorem CJ.nnm (cj : CJ P w K mg base S k X B E) {j : Nat} {x : Str} (h : S.gl[j]? = some x) : x ≠ "__name__" := (okName_of (Sc.glb cj.ok h).1).2.2
end

/-! ## judgements over data -/
def IsR : Ent → Prop
  | .fz _ => True
  | .ow _ => True
  | _ => False
/-- an expression whose value is frozen -/
def JV (X : Cx) (B : Bs) (e : Expr) (G : List Ent) (Q : D → List Ent → Prop) : Prop :=
  ∀ (t s : St) (z : List Ent) (F H : Hp) (VQ : VK), t.length = z.length → Conf X.K B (t ++ s) F H (z ++ G) →
    (∀ v F' H' d G', Conf X.K B (some v :: (t ++ s)) F' H' (.fz d :: (z ++ G')) → Q d G' → VQ v H') → tS X e s H VQ
/-- .. or one's own -/
def JE (X : Cx) (B : Bs) (e : Expr) (G : List Ent) (Q : Ent → List Ent → Prop) : Prop :=
  ∀ (t s : St) (z : List Ent) (F H : Hp) (VQ : VK), t.length = z.length → Conf X.K B (t ++ s) F H (z ++ G) →
    (∀ v F' H' r G', Conf X.K B (some v :: (t ++ s)) F' H' (r :: (z ++ G')) → IsR r → Q r G' → VQ v H') → tS X e s H VQ
def JT (X : Cx) (B : Bs) (e : Expr) (G : List Ent) (Q : Bool → List Ent → Prop) : Prop :=
  ∀ (t s : St) (z : List Ent) (F H : Hp) (TQ : Bool → Hp → Prop), t.length = z.length → Conf X.K B (t ++ s) F H (z ++ G) →
    (∀ b F' H' G', Conf X.K B (t ++ s) F' H' (z ++ G') → Q b G' → TQ b H') → tT X e s H TQ
def JW (X : Cx) (B : Bs) (e : Expr) (G : List Ent) (Q : Bool → List Ent → Prop) : Prop :=
  ∀ (t s : St) (z : List Ent) (F H : Hp) (TQ : Bool → Hp → Prop), t.length = z.length → Conf X.K B (t ++ s) F H (z ++ G) →
    (∀ b F' H' G', Conf X.K B (t ++ s) F' H' (z ++ G') → Q b G' → TQ b H') → tW X e s H TQ
inductive Arg where
  | v (d : D) | b (i : Nat)
def Arg.ent : Arg → Ent
  | .v d => .fz d
  | .b _ => .no
def ArgB (s : St) (v : V) : Arg → Prop
  | .v _ => True
  | .b i => s[i]? = some (some v)
def JA (X : Cx) (B : Bs) (es : List Expr) (G : List Ent) (Q : List Arg → List Ent → Prop) : Prop :=
  ∀ (t s : St) (z : List Ent) (F H : Hp) (AQ : List V → Hp → Prop), t.length = z.length → Conf X.K B (t ++ s) F H (z ++ G) →
    (∀ vs as F' H' G', Conf X.K B ((vs.map some).reverse ++ (t ++ s)) F' H' ((as.map Arg.ent).reverse ++ (z ++ G')) → Paired (ArgB s) vs as → Q as G' → AQ vs H') → tAr X es s H AQ
structure Dn where
  nx : List Ent → Prop
  rt : Ent → List Ent → Prop
  bk : List Ent → Prop := fun _ => False
  ct : List Ent → Prop := fun _ => False
structure DOk (X : Cx) (B : Bs) (t : St) (z : List Ent) (n : Nat) (D : Dn) (De : Ends) : Prop where
  nx : ∀ s' F' H' G', s'.length = n → Conf X.K B (t ++ s') F' H' (z ++ G') → D.nx G' → De.nx s' H'
  rt : ∀ v s' F' H' r G', Conf X.K B (some v :: (t ++ s')) F' H' (r :: (z ++ G')) → IsR r → D.rt r G' → De.rt v H'
  bk : ∀ s' F' H' G', s'.length = n → Conf X.K B (t ++ s') F' H' (z ++ G') → D.bk G' → De.bk s' H'
  ct : ∀ s' F' H' G', s'.length = n → Conf X.K B (t ++ s') F' H' (z ++ G') → D.ct G' → De.ct s' H'
def JS (X : Cx) (B : Bs) (st : Stmt) (G : List Ent) (D : Dn) : Prop :=
  ∀ (t s : St) (z : List Ent) (F H : Hp) (De : Ends), t.length = z.length → Conf X.K B (t ++ s) F H (z ++ G) → DOk X B t z s.length D De → tSt X st De s H
def JSs (X : Cx) (B : Bs) (sts : List Stmt) (G : List Ent) (D : Dn) : Prop :=
  ∀ (t s : St) (z : List Ent) (F H : Hp) (De : Ends), t.length = z.length → Conf X.K B (t ++ s) F H (z ++ G) → DOk X B t z s.length D De → tSs X sts De s H
/-- a target gets what stands on top -/
def JG (X : Cx) (B : Bs) (L : List Nat) (tg : Expr) (r : Ent) (G : List Ent) (Q : List Ent → Prop) : Prop :=
  ∀ (t s : St) (z : List Ent) (F H : Hp) (v : V) (GQ : St → Hp → Prop), t.length = z.length → Conf X.K B (some v :: (t ++ s)) F H (r :: (z ++ G)) → IsR r →
    (∀ s' F' H' G', s'.length = s.length → (∀ i : Nat, i ∉ L → s'[i]? = s[i]?) → Conf X.K B (t ++ s') F' H' (z ++ G') → Q G' → GQ s' H') → tGt X tg v s H GQ

/-! ## from one to the other -/
section
variable {X : Cx} {B : Bs} {e : Expr} {G : List Ent}
theorem JV.je {Q : Ent → List Ent → Prop} (h : JV X B e G fun d G' => Q (.fz d) G') : JE X B e G Q := fun t s z F H VQ hl c k =>
  h t s z F H VQ hl c fun v F' H' d G' c' q => k v F' H' (.fz d) G' c' trivial q
/-- the data that something is, once frozen -/
@[reducible] def Frz (r : Ent) (q : D → Prop) : Prop :=
  match r with
  | .fz d => q d
  | .ow o => match frzOw o with
    | some d => q d
    | none => False
  | _ => False
theorem JE.jv {Q : D → List Ent → Prop} (h : JE X B e G fun r G' => Frz r fun d => Q d G') : JV X B e G Q := fun t s z F H VQ hl c k =>
  h t s z F H VQ hl c fun v F' H' r G' c' ir q => by
    cases r with
    | no => exact ir.elim
    | bw _ _ => exact ir.elim
    | fz d => exact k v F' H' d G' c' q
    | ow o =>
      cases ef : frzOw o with
      | none => exact absurd q (by simp [Frz, ef])
      | some d =>
        have q : Q d G' := by simpa [Frz, ef] using q
        obtain ⟨F2, _, c2⟩ := c'.freeze (i := 0) (o := o) rfl ef
        exact k v F2 H' d G' c2 q
theorem JV.imp {Q Q' : D → List Ent → Prop} (h : JV X B e G Q) (i : ∀ d G', Q d G' → Q' d G') : JV X B e G Q' := fun t s z F H VQ hl c k =>
  h t s z F H VQ hl c fun v F' H' d G' c' q => k v F' H' d G' c' (i d G' q)
theorem JE.imp {Q Q' : Ent → List Ent → Prop} (h : JE X B e G Q) (i : ∀ d G', Q d G' → Q' d G') : JE X B e G Q' := fun t s z F H VQ hl c k =>
  h t s z F H VQ hl c fun v F' H' d G' c' ir q => k v F' H' d G' c' ir (i d G' q)
theorem JT.imp {Q Q' : Bool → List Ent → Prop} (h : JT X B e G Q) (i : ∀ d G', Q d G' → Q' d G') : JT X B e G Q' := fun t s z F H VQ hl c k =>
  h t s z F H VQ hl c fun b F' H' G' c' q => k b F' H' G' c' (i b G' q)
theorem JW.jt {Q : Bool → List Ent → Prop} (h : JW X B e G Q) : JT X B e G Q := fun t s z F H VQ hl c k => fun pins sh I => h t s z F H VQ hl c k _ pins sh I
end

/-! ## statements in a row -/
section
variable {X : Cx} {B : Bs} {G : List Ent} {D : Dn} {st : Stmt} {sts : List Stmt}
theorem JSs.nil (h : D.nx G) : JSs X B [] G D := fun t s z F H De hl c k => tSs_of pss_nil (k.nx s F H G rfl c h)
theorem JSs.cons (h : JS X B st G { D with nx := fun G' => JSs X B sts G' D }) : JSs X B (st :: sts) G D := fun t s z F H De hl c k =>
  tSs_of (pss_cons ps_sem pss_sem) (h t s z F H _ hl c ⟨fun s' F' H' G' e c' q => q t s' z F' H' De hl c' (by rw [e]; exact k), k.rt, k.bk, k.ct⟩)
theorem JSs.one (h : JS X B st G D) : JSs X B [st] G D := fun t s z F H De hl c k => tSs_of (pss_one ps_sem) (h t s z F H De hl c k)
theorem JSs.imp {D' : Dn} (h : JSs X B sts G D) (n : ∀ G', D.nx G' → D'.nx G') (r : ∀ x G', D.rt x G' → D'.rt x G') (b : ∀ G', D.bk G' → D'.bk G') (ct : ∀ G', D.ct G' → D'.ct G') : JSs X B sts G D' := fun t s z F H De hl c k =>
  h t s z F H De hl c ⟨fun s' F' H' G' e c' q => k.nx s' F' H' G' e c' (n G' q), fun v s' F' H' x G' c' i q => k.rt v s' F' H' x G' c' i (r x G' q), fun s' F' H' G' e c' q => k.bk s' F' H' G' e c' (b G' q), fun s' F' H' G' e c' q => k.ct s' F' H' G' e c' (ct G' q)⟩
/-- ahead of a statement: an own list is frozen; something is forgotten -/
theorem JSs.freeze (i : Nat) {o : Ow} {d : J.D} (hi : G[i]? = some (.ow o)) (hf : frzOw o = some d) (h : JSs X B sts (G.set i (.fz d)) D) : JSs X B sts G D := fun t s z F H De hl c k => by
  have hi' : (z ++ G)[z.length + i]? = some (.ow o) := by rw [get_app]; exact hi
  obtain ⟨F2, _, c2⟩ := c.freeze hi' hf
  rw [set_app] at c2
  exact h t s z F2 H De hl c2 k
theorem JSs.forget (i : Nat) (h : JSs X B sts (G.set i .no) D) : JSs X B sts G D := fun t s z F H De hl c k => by
  have c2 := c.forget (i := z.length + i)
  rw [set_app] at c2
  exact h t s z F H De hl c2 k
variable {pos : Pos}
theorem JS.pass (h : D.nx G) : JS X B (.Pass pos) G D := fun t s z F H De hl c k => tSt_of ps_pass (k.nx s F H G rfl c h)
theorem JS.brk (h : D.bk G) : JS X B (.Break pos) G D := fun t s z F H De hl c k => tSt_of ps_break (k.bk s F H G rfl c h)
theorem JS.cont (h : D.ct G) : JS X B (.Continue pos) G D := fun t s z F H De hl c k => tSt_of ps_continue (k.ct s F H G rfl c h)
theorem JS.ret {e : Expr} (h : JE X B e G D.rt) : JS X B (.Return (some e) pos) G D := fun t s z F H De hl c k =>
  tSt_of (ps_ret pe_sem) (h t s z F H _ hl c fun v F' H' r G' c' ir q => k.rt v s F' H' r G' c' ir q)
theorem JS.retN (h : D.rt (.fz .non) G) : JS X B (.Return none pos) G D := fun t s z F H De hl c k =>
  tSt_of ps_retN (k.rt .non s F H (.fz .non) G (c.fz .non) trivial h)
theorem JS.never : (h : False) → JS X B st G D := fun h => h.elim
theorem JS.ite {c : Expr} {a b : List Stmt} (h : JT X B c G fun k G' => (k = true → JSs X B a G' D) ∧ (k = false → JSs X B b G' D)) : JS X B (.If c a b pos) G D := fun t s z F H De hl cf k =>
  tSt_of (ps_if pt_sem pss_sem pss_sem) (h t s z F H _ hl cf fun k' F' H' G' c' q => by
    cases k' with
    | true => exact q.1 rfl t s z F' H' De hl c' k
    | false => exact q.2 rfl t s z F' H' De hl c' k)
theorem JS.drop {e : Expr} (h : JE X B e G fun _ G' => D.nx G') (hs : swapsWith e none pos.line X.env = pure false := by rfl) : JS X B (.Expr e pos) G D := fun t s z F H De hl c k =>
  tSt_of (ps_expr pe_sem hs) (h t s z F H _ hl c fun v F' H' r G' c' ir q => k.nx s F' H' G' rfl c'.pop q)
/-- target = value -/
theorem JS.asg (L : List Nat) {tg e : Expr} (h : JE X B e G fun r G' => JG X B L tg r G' D.nx) (hs : swapsWithSole [tg] e pos.line X.env = pure false := by rfl) (hw : swappedStores [tg] e X.env = pure none := by rfl)
    (h1 : (assignEach [tg] X.env).map (·.2) = [assign tg X.env] := by rfl) : JS X B (.Assign [tg] e pos) G D := fun t s z F H De hl c k =>
  tSt_of (ps_asg pe_sem pg_sem hs hw h1) (h t s z F H _ hl c fun v F' H' r G' c' ir q => q t s z F' H' v _ hl c' ir fun s' F2 H2 G2 e _ c2 q2 => k.nx s' F2 H2 G2 e c2 q2)
theorem JS.while_ {c : Expr} {body : List Stmt} (hp : PassesOwn (model X.prog X.w) X.A X.env X.xe) (I : List Ent → Prop) (m : List Ent → Nat) (h0 : I G)
    (hs : ∀ G', I G' → JT X B c G' fun b G2 => (b = true → JSs X B body G2 { D with nx := fun G3 => I G3 ∧ m G3 < m G', ct := fun G3 => I G3 ∧ m G3 < m G', bk := D.nx }) ∧ (b = false → D.nx G2)) : JS X B (.While c body [] pos) G D := fun t s z F H De hl cf k =>
  tSt_of (ps_while hp pt_sem pss_sem) (by
    refine ⟨fun n s' H' => ∃ F' G', s'.length = s.length ∧ Conf X.K B (t ++ s') F' H' (z ++ G') ∧ I G' ∧ m G' = n, ⟨m G, F, G, rfl, cf, h0, rfl⟩, ?_⟩
    rintro n s1 H1 ⟨F1, G1, e1, c1, i1, rfl⟩
    refine hs G1 i1 t s1 z F1 H1 _ hl c1 fun b F2 H2 G2 c2 q2 => ?_
    cases b with
    | true =>
      rw [if_pos rfl]
      refine ⟨fun s' H' => ∃ F' G', s'.length = s.length ∧ Conf X.K B (t ++ s') F' H' (z ++ G') ∧ I G' ∧ m G' < m G1, fun s' H' ⟨F', G', a, b, c, d⟩ => ⟨_, d, F', G', a, b, c, rfl⟩, ?_⟩
      exact q2.1 rfl t s1 z F2 H2 _ hl c2 ⟨fun s' F' H' G' e c' q => ⟨F', G', e.trans e1, c', q⟩, k.rt, fun s' F' H' G' e c' q => k.nx s' F' H' G' (e.trans e1) c' q, fun s' F' H' G' e c' q => ⟨F', G', e.trans e1, c', q⟩⟩
    | false =>
      rw [if_neg Bool.false_ne_true]
      exact k.nx s1 F2 H2 G2 e1 c2 (q2.2 rfl))
end
end J

namespace J
open PySem PySem.Spec L2

/-! ## promises of defs -/
inductive Par where
  | v (d : D) | b (o : Ow)
def parEnts : Nat → List Par → List Ent
  | _, [] => []
  | k, .v d :: ps => .fz d :: parEnts (k + 1) ps
  | k, .b o :: ps => .bw k o :: parEnts (k + 1) ps
abbrev Spec := List Par → (Ent → List (Nat × Ow) → Prop) → (XD → Prop) → Prop
def bws : List Ent → List (Nat × Ow)
  | [] => []
  | .bw k o :: g => (k, o) :: bws g
  | .no :: g => bws g
  | .fz _ :: g => bws g
  | .ow _ :: g => bws g
structure Fin (K : PySem.W.Frag) (B : Bs) (v : V) (F H : Hp) (r : Ent) (bs : List (Nat × Ow)) : Prop where
  c : Conf K B [some v] F H [r]
  ir : IsR r
  bs : ∀ p ∈ bs, ∃ a, B.ps[p.1]? = some (.ref a) ∧ B.M a ∧ OwAt K F H a p.2 ∧ F a = none
def SpJ (K : PySem.W.Frag) (S : Spec) : Sp := fun vs H Q E => ∃ (F : Hp) (ps : List Par) (B : Bs) (R : Ent → List (Nat × Ow) → Prop) (RX : XD → Prop),
  B.F0 = F ∧ B.H0 = H ∧ B.ps = vs ∧ Conf K B (vs.map some) F H (parEnts 0 ps) ∧ S ps R RX ∧
  (∀ v F' H' r bs, Fin K B v F' H' r bs → R r bs → Q v H') ∧
  (∀ x F' H' od, Conf K B [] F' H' [] → XOk K F' H' x od → RX x → E (.ref x.C) od H')

section
variable {K : PySem.W.Frag} {B B' : Bs} {F H F' H' : Hp} {s s' : St} {g g' : List Ent}
theorem mem_bws : ∀ {g : List Ent} {p : Nat × Ow}, p ∈ bws g → ∃ i : Nat, g[i]? = some (.bw p.1 p.2)
  | [], p, h => by cases h
  | .no :: g, p, h => by obtain ⟨i, e⟩ := mem_bws (g := g) h; exact ⟨i + 1, by simpa using e⟩
  | .fz _ :: g, p, h => by obtain ⟨i, e⟩ := mem_bws (g := g) h; exact ⟨i + 1, by simpa using e⟩
  | .ow _ :: g, p, h => by obtain ⟨i, e⟩ := mem_bws (g := g) h; exact ⟨i + 1, by simpa using e⟩
  | .bw k o :: g, p, h => by
    rcases List.mem_cons.mp h with e | h
    · subst e; exact ⟨0, rfl⟩
    · obtain ⟨i, e⟩ := mem_bws (g := g) h; exact ⟨i + 1, by simpa using e⟩
theorem Conf.nil (c : Conf K B s F H g) : Conf K B [] F H [] := ⟨c.fh, c.ff, c.keep, c.there, c.old, .nil, List.nodup_nil, fun _ h => by cases h⟩
theorem Conf.one {v : Option V} {r : Ent} (c : Conf K B (v :: s) F H (r :: g)) : Conf K B [v] F H [r] := by
  have nd := List.nodup_append.mp (show (oad v r ++ oads s g).Nodup from c.nd)
  cases c.env with
  | cons q _ => exact ⟨c.fh, c.ff, c.keep, c.there, c.old, .cons q .nil, by show (oad v r ++ []).Nodup; rw [List.append_nil]; exact nd.1, fun a ha => c.own a (List.mem_append_left _ (by have : a ∈ oad v r ++ [] := ha; rwa [List.append_nil] at this))⟩
theorem Conf.fin {v : V} {r : Ent} (c : Conf K B (some v :: s) F H (r :: g)) (ir : IsR r) : Fin K B v F H r (bws g) := ⟨c.one, ir, fun p hp => by
  obtain ⟨i, e⟩ := mem_bws hp
  obtain ⟨w, hw, a, q1, q2, q3, q4⟩ := c.pop.at e
  subst q1
  exact ⟨a, q3, q4, q2, c.pop.own a (oads_at hw e a (by simp [oad]))⟩⟩
theorem oads_nos : ∀ (n : Nat), oads (List.replicate n none) (List.replicate n Ent.no) = []
  | 0 => rfl
  | n + 1 => oads_nos n
theorem Conf.nos (c : Conf K B s F H g) (n : Nat) : Conf K B (s ++ List.replicate n none) F H (g ++ List.replicate n .no) := by
  have e := oads_app (s' := List.replicate n none) (g' := List.replicate n Ent.no) c.len
  rw [oads_nos, List.append_nil] at e
  exact ⟨c.fh, c.ff, c.keep, c.there, c.old, papp c.env (prep (F := EntOk K B F H) (a := none) (b := Ent.no) trivial n), by rw [e]; exact c.nd, fun a ha => c.own a (by rw [← e]; exact ha)⟩
theorem oads_disj : ∀ {s : St} {g : List Ent} {i j : Nat} {v w : Option V} {e f : Ent}, (oads s g).Nodup → i ≠ j → s[i]? = some v → g[i]? = some e → s[j]? = some w → g[j]? = some f → ∀ a ∈ oad v e, a ∉ oad w f
  | [], _, _, _, _, _, _, _, _, _, h, _, _, _ => by simp at h
  | _ :: _, [], _, _, _, _, _, _, _, _, _, h, _, _ => by simp at h
  | x :: s, y :: g, 0, 0, _, _, _, _, _, n, _, _, _, _ => absurd rfl n
  | x :: s, y :: g, 0, j + 1, v, w, e, f, nd, _, h1, h2, h3, h4 => fun a ha hb => by
    simp at h1 h2
    subst h1 h2
    exact (List.nodup_append.mp (show (oad x y ++ oads s g).Nodup from nd)).2.2 a ha a (oads_at (i := j) (by simpa using h3) (by simpa using h4) a hb) rfl
  | x :: s, y :: g, i + 1, 0, v, w, e, f, nd, _, h1, h2, h3, h4 => fun a ha hb => by
    simp at h3 h4
    subst h3 h4
    exact (List.nodup_append.mp (show (oad x y ++ oads s g).Nodup from nd)).2.2 a hb a (oads_at (i := i) (by simpa using h1) (by simpa using h2) a ha) rfl
  | x :: s, y :: g, i + 1, j + 1, v, w, e, f, nd, n, h1, h2, h3, h4 => fun a ha hb =>
    oads_disj (s := s) (g := g) (i := i) (j := j) (List.nodup_append.mp (show (oad x y ++ oads s g).Nodup from nd)).2.1 (fun z => n (by rw [z])) (by simpa using h1) (by simpa using h2) (by simpa using h3) (by simpa using h4) a ha hb
theorem oads_sub : ∀ {s : St} {g g2 : List Ent}, g2.length = g.length → (∀ (i : Nat) v e e2, s[i]? = some v → g[i]? = some e → g2[i]? = some e2 → oad v e2 = oad v e ∨ oad v e2 = []) → (oads s g2).Sublist (oads s g)
  | [], _, _, _, _ => by simp [oads]
  | _ :: _, [], [], _, _ => by simp [oads]
  | _ :: _, [], _ :: _, h, _ => by simp at h
  | _ :: _, _ :: _, [], h, _ => by simp at h
  | v :: s, e :: g, e2 :: g2, hl, h => by
    have ih := oads_sub (s := s) (g := g) (g2 := g2) (by simpa using hl) fun i v e e2 a b c => h (i + 1) v e e2 (by simpa using a) (by simpa using b) (by simpa using c)
    show (oad v e2 ++ oads s g2).Sublist (oad v e ++ oads s g)
    rcases h 0 v e e2 rfl rfl rfl with q | q
    · rw [q]; exact List.Sublist.append (List.Sublist.refl _) ih
    · rw [q]; exact (ih.trans (List.sublist_append_right _ _))
/-- behind a call: what was lent is as the callee left it -/
theorem Conf.rebuild {u : St} {g2 : List Ent} (c : Conf K B s F H g) (c' : Conf K B' u F' H' g') (e0 : B'.F0 = F) (e1 : B'.H0 = H) (hM : ∀ a, B'.M a → B.H0 a = none ∨ B.M a) (hl : g2.length = g.length)
    (h : ∀ (i : Nat) v e e2, s[i]? = some v → g[i]? = some e → g2[i]? = some e2 → (e2 = e ∧ ∀ a ∈ oad v e, ¬ B'.M a) ∨ (∃ a o o2, v = some (.ref a) ∧ ((e = .ow o ∧ e2 = .ow o2) ∨ ∃ m, e = .bw m o ∧ e2 = .bw m o2) ∧ OwAt K F' H' a o2 ∧ F' a = none) ∨ e2 = .no) :
    Conf K B s F' H' g2 := by
  have ff : Same F F' := by rw [← e0]; exact c'.ff
  have kp : ∀ a o, ¬ B'.M a → H a = some o → H' a = some o := fun a o m e => c'.keep a o m (by rw [e1]; exact e)
  have th : ∀ a, H a ≠ none → H' a ≠ none := fun a n => c'.there a (by rw [e1]; exact n)
  have od : ∀ a, (∃ o, H a = some o ∧ NT o) → F a = none → F' a = none ∧ ∃ o, H' a = some o ∧ NT o := fun a n m => c'.old a (by rw [e1]; exact n) (by rw [e0]; exact m)
  have sub : (oads s g2).Sublist (oads s g) := oads_sub hl fun i v e e2 h1 h2 h3 => by
    rcases h i v e e2 h1 h2 h3 with ⟨q, _⟩ | ⟨a, o, o2, ev, q, _⟩ | q
    · exact .inl (by rw [q])
    · subst ev
      rcases q with ⟨q1, q2⟩ | ⟨m, q1, q2⟩
      · exact .inl (by rw [q1, q2]; rfl)
      · exact .inl (by rw [q1, q2]; rfl)
    · exact .inr (by rw [q, oad_no])
  refine ⟨c'.fh, c.ff.trans ff, fun a o m e => ?_, fun a n => th a (c.there a n), fun a n m => let ⟨q1, q2⟩ := c.old a n m; od a q2 q1, ?_, c.nd.sublist sub, fun a ha => ?_⟩
  · by_cases hm : B'.M a
    · rcases hM a hm with z | z
      · rw [z] at e; cases e
      · exact absurd z m
    · exact kp a o hm (c.keep a o m e)
  · have all : ∀ {s : St} {g g2 : List Ent}, Paired (EntOk K B F H) s g → g2.length = g.length → (∀ (i : Nat) v e e2, s[i]? = some v → g[i]? = some e → g2[i]? = some e2 → EntOk K B F H v e → EntOk K B F' H' v e2) → Paired (EntOk K B F' H') s g2 := by
      intro s
      induction s with
      | nil => intro g g2 p hl _; cases p; cases g2 with
        | nil => exact .nil
        | cons _ _ => simp at hl
      | cons v s ih =>
        intro g g2 p hl f
        cases p with
        | cons q t =>
          cases g2 with
          | nil => simp at hl
          | cons e2 g2 => exact .cons (f 0 _ _ _ rfl rfl rfl q) (ih t (by simpa using hl) fun i v e e2 a b c => f (i + 1) v e e2 (by simpa using a) (by simpa using b) (by simpa using c))
    refine all c.env hl fun i v e e2 h1 h2 h3 ok => ?_
    rcases h i v e e2 h1 h2 h3 with ⟨q, nm⟩ | ⟨a, o, o2, ev, q, ow, _⟩ | q
    · subst q
      refine ok.mono ff fun a ha => ?_
      have hn : H a ≠ none := env_there c.env a (oads_at h1 h2 a ha)
      cases ex : H a with
      | none => exact absurd ex hn
      | some x => exact kp a x (nm a ha) ex
    · subst ev
      rcases q with ⟨q1, q2⟩ | ⟨m, q1, q2⟩
      · subst q1 q2
        obtain ⟨b, eb, _, n⟩ := ok
        cases eb
        exact ⟨a, rfl, ow, n⟩
      · subst q1 q2
        obtain ⟨b, eb, _, n⟩ := ok
        cases eb
        exact ⟨a, rfl, ow, n⟩
    · subst q; trivial
  · have ha' := sub.subset ha
    exact (od a (env_nt c.env a ha') (c.own a ha')).1
/-- .. and what it handed back comes on top -/
theorem Conf.result {v : V} {r : Ent} (c : Conf K B s F' H' g) (hn : ∀ a ∈ oads s g, H a ≠ none) (fi : Conf K B' [some v] F' H' [r]) (e1 : B'.H0 = H) (th : ∀ a, B.H0 a ≠ none → H a ≠ none) (ir : IsR r) : Conf K B (some v :: s) F' H' (r :: g) := by
  cases r with
  | no => exact ir.elim
  | bw _ _ => exact ir.elim
  | fz d =>
    cases fi.env with
    | cons q _ =>
      obtain ⟨x, ex, dp⟩ := q
      cases ex
      exact c.fz dp
  | ow o =>
    cases fi.env with
    | cons q _ =>
      obtain ⟨a, ea, ow, n⟩ := q
      cases ea
      have nH : H a = none := by rw [← e1]; exact n
      refine ⟨c.fh, c.ff, c.keep, c.there, c.old, .cons ⟨a, rfl, ow, ?_⟩ c.env, ?_, fun b hb => ?_⟩
      · cases eb : B.H0 a with
        | none => rfl
        | some x => exact absurd nH (th a (by rw [eb]; simp))
      · show ([a] ++ oads s g).Nodup
        exact List.nodup_cons.mpr ⟨fun ha => hn a ha nH, c.nd⟩
      · rcases List.mem_append.mp (show b ∈ [a] ++ oads s g from hb) with hb | hb
        · simp at hb; subst hb; exact fi.own b (by show b ∈ [b] ++ []; simp)
        · exact c.own b hb
end

section
variable {P : Program} {w : World} {K : PySem.W.Frag} {mg : Str → Option Value} {base : Heap}
theorem parEnts_len : ∀ (k : Nat) (ps : List Par), (parEnts k ps).length = ps.length
  | _, [] => rfl
  | k, .v d :: ps => by show (parEnts (k + 1) ps).length + 1 = ps.length + 1; rw [parEnts_len]
  | k, .b d :: ps => by show (parEnts (k + 1) ps).length + 1 = ps.length + 1; rw [parEnts_len]
/-- THE RULE for a def -/
theorem jfn {x qual : Str} {st : Stmt} {f : Addr} {fd : FuncData} {ps : List Str} {k : Nat} (Fu : Fun K x qual st f fd) (Z : Sc) (hz : Z.ok = true) (S : FnScope Z.N ps Z.sc) (spec : Spec) (len : ∀ as R RX, spec as R RX → as.length = ps.length)
    (body : ∀ (X : Cx) (B : Bs) (E : XW) (as : List Par) (R : Ent → List (Nat × Ow) → Prop) (RX : XD → Prop), CJ P w K mg base Z k X B E → (∀ x G, RX x → E.R x G) → spec as R RX →
      JSs X B (defBody st) (parEnts 0 as ++ List.replicate (Z.N.length - ps.length) .no) ⟨fun G' => R (.fz .non) (bws G'), fun r G' => R r (bws G'), fun _ => False, fun _ => False⟩) (hsc : Z.sc = defScope st := by rfl) :
    FnOk P w K mg base (L2.CX P w) (k + 1) f fd ps (SpJ K spec) := by
  have plen : ∀ {vs : List V} {H : Hp} {Q : VK} {E : XK}, SpJ K spec vs H Q E → vs.length = ps.length := fun {vs H Q E} h => by
    obtain ⟨F, as, B, R, RX, _, _, _, c, sp, _⟩ := h
    have := c.len
    rw [List.length_map, parEnts_len] at this
    rw [this]; exact len _ _ _ sp
  refine Fu.okX (hsc ▸ S) (fun vs H Q E h => plen h) fun cdv A outer s H vs Q E hr h => ?_
  have hlen := plen h
  obtain ⟨F, as, B, R, RX, e0, e1, e2, c, sp, hq, hx⟩ := h
  refine ⟨_, pss_sem, ?_⟩
  have cj : CJ P w K mg base Z k (cxOf (L2.CX P w) P w K mg base Z.N qual (defScope st) f cdv A outer s H E) B ⟨fun cls d _ H => E cls d H, fun x _ => RX x⟩ :=
    ⟨rfl, rfl, rfl, rfl, rfl, rfl, hsc.symm, hz, fun _ _ _ _ => .inl rfl, rfl, hr, passes_of rfl, takes_of rfl rfl rfl rfl, fun _ _ _ _ _ h => h, fun t s z F H G x od _ c xo r => hx x F H od c.nil xo r⟩
  have b := body _ B _ as R RX cj (fun _ _ h => h) sp
  refine b [] (L2.start Z.N vs) [] F H _ rfl ?_ ⟨fun s' F' H' G' _ c' q => ?_, fun v s' F' H' r G' c' ir q => ?_, fun _ _ _ _ _ _ q => q.elim, fun _ _ _ _ _ _ q => q.elim⟩
  · have := c.nos (Z.N.length - vs.length)
    rw [hlen] at this
    show Conf K B (L2.start Z.N vs) F H _
    unfold L2.start
    rw [hlen]
    exact this
  · exact hq _ F' H' _ _ ((c'.fz (v := .non) (d := .non) .non).fin trivial) q
  · exact hq v F' H' r _ (c'.fin ir) q
end

/-! ## calls -/
def findB (j : Nat) : Nat → List Arg → Option Nat
  | _, [] => none
  | k, .b i :: as => if i = j then some k else findB j (k + 1) as
  | k, .v _ :: as => findB j (k + 1) as
def newE (as : List Arg) (bs : List (Nat × Ow)) (j : Nat) (e : Ent) : Ent :=
  match findB j 0 as with
  | none => e
  | some k => match e, bs.lookup k with
    | .ow _, some o => .ow o
    | .bw m _, some o => .bw m o
    | _, _ => .no
def updB (as : List Arg) (bs : List (Nat × Ow)) : Nat → List Ent → List Ent
  | _, [] => []
  | j, e :: g => newE as bs j e :: updB as bs (j + 1) g
def entOw : Option Ent → Option Ow
  | some (.ow o) => some o
  | some (.bw _ o) => some o
  | _ => none
def parsOf (G : List Ent) : List Arg → List Par
  | [] => []
  | .v d :: as => .v d :: parsOf G as
  | .b i :: as => (match entOw G[i]? with | some o => .b o | none => .v .non) :: parsOf G as
def okB (G : List Ent) : List Arg → Bool
  | [] => true
  | .v _ :: as => okB G as
  | .b i :: as => (entOw G[i]?).isSome && (findB i 0 as).isNone && okB G as

theorem updB_len (as : List Arg) (bs : List (Nat × Ow)) : ∀ (j : Nat) (g : List Ent), (updB as bs j g).length = g.length
  | _, [] => rfl
  | j, e :: g => by show (updB as bs (j + 1) g).length + 1 = g.length + 1; rw [updB_len]
theorem updB_at (as : List Arg) (bs : List (Nat × Ow)) : ∀ (j : Nat) (g : List Ent) (i : Nat) (e : Ent), g[i]? = some e → (updB as bs j g)[i]? = some (newE as bs (j + i) e)
  | _, [], _, _, h => by simp at h
  | j, e :: g, 0, _, h => by simp at h; subst h; rfl
  | j, e :: g, i + 1, e', h => by
    show (updB as bs (j + 1) g)[i]? = _
    rw [updB_at as bs (j + 1) g i e' (by simpa using h)]
    congr 2; omega
theorem findB_none : ∀ {j k : Nat} {as : List Arg}, findB j k as = none → ∀ m : Nat, as[m]? ≠ some (Arg.b j)
  | _, _, [], _, m => by simp
  | j, k, .v d :: as, h, m => by
    cases m with
    | zero => simp
    | succ m => simpa using findB_none (k := k + 1) (as := as) h m
  | j, k, .b i :: as, h, m => by
    unfold findB at h
    split at h
    · cases h
    · rename_i n
      cases m with
      | zero => simp; exact n
      | succ m => simpa using findB_none (k := k + 1) (as := as) h m
theorem findB_some : ∀ {j k : Nat} {as : List Arg} {m : Nat}, findB j k as = some m → k ≤ m ∧ as[m - k]? = some (Arg.b j)
  | _, _, [], _, h => by cases h
  | j, k, .v d :: as, m, h => by
    obtain ⟨h1, h2⟩ := findB_some (k := k + 1) (as := as) h
    refine ⟨by omega, ?_⟩
    rw [show m - k = (m - (k + 1)) + 1 by omega]
    simpa using h2
  | j, k, .b i :: as, m, h => by
    unfold findB at h
    split at h
    · rename_i e
      cases h
      subst e
      exact ⟨Nat.le_refl _, by simp⟩
    · obtain ⟨h1, h2⟩ := findB_some (k := k + 1) (as := as) h
      refine ⟨by omega, ?_⟩
      rw [show m - k = (m - (k + 1)) + 1 by omega]
      simpa using h2
theorem okB_at : ∀ {G : List Ent} {as : List Arg} {k i : Nat}, okB G as = true → as[k]? = some (Arg.b i) → ∃ o, entOw G[i]? = some o
  | G, [], _, _, _, h => by simp at h
  | G, .v d :: as, 0, _, _, h => by simp at h
  | G, .v d :: as, k + 1, i, ok, h => okB_at (as := as) (k := k) ok (by simpa using h)
  | G, .b j :: as, 0, i, ok, h => by
    simp at h
    subst h
    simp only [okB, Bool.and_eq_true] at ok
    exact Option.isSome_iff_exists.mp ok.1.1
  | G, .b j :: as, k + 1, i, ok, h => by
    simp only [okB, Bool.and_eq_true] at ok
    exact okB_at (as := as) (k := k) ok.2 (by simpa using h)
theorem entOw_cases {e : Option Ent} {o : Ow} (h : entOw e = some o) : e = some (.ow o) ∨ ∃ m, e = some (.bw m o) := by
  unfold entOw at h
  split at h
  · cases h; exact .inl rfl
  · cases h; exact .inr ⟨_, rfl⟩
  · cases h

theorem lookupN_mem {α : Type} : ∀ {l : List (Nat × α)} {k : Nat} {v : α}, l.lookup k = some v → (k, v) ∈ l
  | [], _, _, h => by simp at h
  | (j, w) :: l, k, v, h => by
    rw [List.lookup_cons] at h
    cases e : k == j with
    | true =>
      rw [e] at h
      simp at h e
      subst h e
      exact List.mem_cons_self
    | false =>
      rw [e] at h
      exact List.mem_cons_of_mem _ (lookupN_mem (by simpa using h))
def lentM (vs : List V) (as : List Arg) : Addr → Prop := fun a => ∃ (k i : Nat), as[k]? = some (Arg.b i) ∧ vs[k]? = some (V.ref a)
section
variable {K : PySem.W.Frag} {B : Bs} {F H : Hp}
/-- the callee's own beginning -/
theorem Conf.enter {t s : St} {z G : List Ent} {vs : List V} {as : List Arg} (hl : t.length = z.length) (c : Conf K B ((vs.map some).reverse ++ (t ++ s)) F H ((as.map Arg.ent).reverse ++ (z ++ G))) (ab : Paired (ArgB s) vs as) (ok : okB G as = true) :
    Conf K ⟨F, H, vs, lentM vs as⟩ (vs.map some) F H (parEnts 0 (parsOf G as)) := by
  have hl2 : ((vs.map some).reverse).length = ((as.map Arg.ent).reverse).length := by simp [ab.length]
  obtain ⟨ea, eb⟩ := psplit hl2 c.env
  have ea : Paired (EntOk K B F H) (vs.map some) (as.map Arg.ent) := by
    have := prev ea
    rwa [List.reverse_reverse, List.reverse_reverse] at this
  have eG : Paired (EntOk K B F H) s G := (psplit hl eb).2
  have ndG : (oads s G).Nodup := by
    have := c.nd
    rw [oads_app hl2, oads_app hl] at this
    exact (List.nodup_append.mp (List.nodup_append.mp this).2.1).2.1
  have ownG : ∀ a ∈ oads s G, F a = none := fun a ha => c.own a (by
    rw [oads_app hl2, oads_app hl]
    exact List.mem_append_right _ (List.mem_append_right _ ha))
  -- the entries, one by one
  have go : ∀ (vs' : List V) (as' : List Arg) (k : Nat) (M : Addr → Prop) (ps : List V), Paired (ArgB s) vs' as' → Paired (EntOk K B F H) (vs'.map some) (as'.map Arg.ent) → okB G as' = true →
      (∀ j, ps[k + j]? = vs'[j]?) → (∀ (j i : Nat) (a : Addr), as'[j]? = some (Arg.b i) → vs'[j]? = some (V.ref a) → M a) →
      Paired (EntOk K ⟨F, H, ps, M⟩ F H) (vs'.map some) (parEnts k (parsOf G as')) ∧ (oads (vs'.map some) (parEnts k (parsOf G as'))).Nodup ∧
      (∀ a ∈ oads (vs'.map some) (parEnts k (parsOf G as')), F a = none ∧ ∃ (j i : Nat), as'[j]? = some (Arg.b i) ∧ s[i]? = some (some (V.ref a))) := by
    intro vs' as' k M ps ab
    induction ab generalizing k with
    | nil => intro _ _ _ _; exact ⟨.nil, by simp [parsOf, parEnts, oads], fun a ha => by simp [parsOf, parEnts, oads] at ha⟩
    | @cons v a vs' as' r t ih =>
      intro en ok hps hM
      have en' : Paired (EntOk K B F H) (some v :: vs'.map some) (a.ent :: as'.map Arg.ent) := en
      cases en' with
      | cons q tl =>
        have hps' : ∀ j, ps[(k + 1) + j]? = vs'[j]? := fun j => by
          have := hps (j + 1)
          rw [show k + 1 + j = k + (j + 1) by omega, this]
          simp
        have hM' : ∀ (j i : Nat) (a : Addr), as'[j]? = some (Arg.b i) → vs'[j]? = some (V.ref a) → M a := fun j i b h1 h2 => hM (j + 1) i b (by simpa using h1) (by simpa using h2)
        cases a with
        | v d =>
          obtain ⟨i1, i2, i3⟩ := ih (k + 1) tl ok hps' hM'
          refine ⟨.cons q i1, ?_, fun a ha => ?_⟩
          · show (oad (some v) (.fz d) ++ oads (vs'.map some) (parEnts (k + 1) (parsOf G as'))).Nodup
            rw [oad_fz]; exact i2
          · have ha' : a ∈ oad (some v) (.fz d) ++ oads (vs'.map some) (parEnts (k + 1) (parsOf G as')) := ha
            rw [oad_fz] at ha'
            obtain ⟨h1, j, i, h2, h3⟩ := i3 a ha'
            exact ⟨h1, j + 1, i, by simpa using h2, h3⟩
        | b i =>
          have ok' : ((entOw G[i]?).isSome && (findB i 0 as').isNone && okB G as') = true := ok
          simp only [Bool.and_eq_true] at ok'
          obtain ⟨⟨ok1, ok2⟩, ok3⟩ := ok'
          obtain ⟨i1, i2, i3⟩ := ih (k + 1) tl ok3 hps' hM'
          obtain ⟨o, ho⟩ := Option.isSome_iff_exists.mp ok1
          have hr : s[i]? = some (some v) := r
          have e0 : parsOf G (.b i :: as') = .b o :: parsOf G as' := by
            show (match entOw G[i]? with | some o => Par.b o | none => Par.v D.non) :: parsOf G as' = _
            rw [ho]
          obtain ⟨a, ea2, ow, ha⟩ : ∃ a, v = .ref a ∧ OwAt K F H a o ∧ a ∈ oads s G := by
            rcases entOw_cases ho with e | ⟨m, e⟩
            · obtain ⟨x, hx, q⟩ := pget eG e
              rw [hr] at hx; cases hx
              obtain ⟨a, e1, e2, _⟩ := q
              cases e1
              exact ⟨a, rfl, e2, oads_at hr e a (by simp [oad])⟩
            · obtain ⟨x, hx, q⟩ := pget eG e
              rw [hr] at hx; cases hx
              obtain ⟨a, e1, e2, _⟩ := q
              cases e1
              exact ⟨a, rfl, e2, oads_at hr e a (by simp [oad])⟩
          subst ea2
          rw [e0]
          refine ⟨.cons ⟨a, rfl, ow, by have := hps 0; simpa using this, hM 0 i a rfl rfl⟩ i1, ?_, fun b hb => ?_⟩
          · show ([a] ++ oads (vs'.map some) (parEnts (k + 1) (parsOf G as'))).Nodup
            refine List.nodup_cons.mpr ⟨fun hb => ?_, i2⟩
            obtain ⟨_, j, i', h2, h3⟩ := i3 a hb
            have hne : i' ≠ i := fun z => by
              subst z
              exact findB_none (Option.isNone_iff_eq_none.mp ok2) j h2
            -- the same address at two slots
            obtain ⟨o', ho'⟩ := okB_at ok3 h2
            have m1 : a ∈ oad (some (.ref a)) (G[i]?.getD .no) := by
              rcases entOw_cases ho with e | ⟨m, e⟩ <;> (rw [e]; simp [oad])
            have m2 : a ∈ oad (some (.ref a)) (G[i']?.getD .no) := by
              rcases entOw_cases ho' with e | ⟨m, e⟩ <;> (rw [e]; simp [oad])
            have g1 : G[i]? = some (G[i]?.getD .no) := by
              rcases entOw_cases ho with e | ⟨m, e⟩ <;> (rw [e]; rfl)
            have g2 : G[i']? = some (G[i']?.getD .no) := by
              rcases entOw_cases ho' with e | ⟨m, e⟩ <;> (rw [e]; rfl)
            exact oads_disj ndG hne h3 g2 hr g1 a m2 m1
          · have hb' : b ∈ [a] ++ oads (vs'.map some) (parEnts (k + 1) (parsOf G as')) := hb
            rcases List.mem_append.mp hb' with hb | hb
            · simp at hb; subst hb; exact ⟨ownG b ha, 0, i, rfl, hr⟩
            · obtain ⟨h1, j, i', h2, h3⟩ := i3 b hb
              exact ⟨h1, j + 1, i', by simpa using h2, h3⟩
  obtain ⟨g1, g2, g3⟩ := go vs as 0 (lentM vs as) vs ab ea ok (fun j => by rw [Nat.zero_add]) (fun j i a h1 h2 => ⟨j, i, h1, h2⟩)
  exact ⟨c.fh, Same.refl F, fun a o _ e => e, fun a h => h, fun a n h => ⟨h, n⟩, g1, g2, fun a ha => (g3 a ha).1⟩
/-- behind the call -/
theorem Conf.leave {t s u : St} {z G g' : List Ent} {vs : List V} {as : List Arg} {F' H' : Hp} {B' : Bs} (hB : B' = ⟨F, H, vs, lentM vs as⟩)
    (hl : t.length = z.length) (c : Conf K B ((vs.map some).reverse ++ (t ++ s)) F H ((as.map Arg.ent).reverse ++ (z ++ G))) (ab : Paired (ArgB s) vs as) (ok : okB G as = true)
    (c' : Conf K B' u F' H' g') (bs : List (Nat × Ow)) (hb : ∀ p ∈ bs, ∃ a, B'.ps[p.1]? = some (.ref a) ∧ B'.M a ∧ OwAt K F' H' a p.2 ∧ F' a = none) :
    Conf K B (t ++ s) F' H' (z ++ updB as bs 0 G) ∧ ∀ a ∈ oads (t ++ s) (z ++ updB as bs 0 G), H a ≠ none := by
  subst hB
  have hl2 : ((vs.map some).reverse).length = ((as.map Arg.ent).reverse).length := by simp [ab.length]
  -- drop the arguments
  have dropN : ∀ (n : Nat) (x : St) (y : List Ent), x.length = n → y.length = n → Conf K B (x ++ (t ++ s)) F H (y ++ (z ++ G)) → Conf K B (t ++ s) F H (z ++ G) := by
    intro n
    induction n with
    | zero => intro x y hx hy c; cases x <;> cases y <;> simp_all
    | succ n ih =>
      intro x y hx hy c
      cases x with
      | nil => simp at hx
      | cons a x => cases y with
        | nil => simp at hy
        | cons b y => exact ih x y (by simpa using hx) (by simpa using hy) c.pop
  have c0 := dropN _ _ _ rfl hl2.symm c
  have lent : ∀ (k i : Nat) (a : Addr), as[k]? = some (Arg.b i) → vs[k]? = some (V.ref a) → s[i]? = some (some (.ref a)) := fun k i a h1 h2 => by
    obtain ⟨v, h3, h4⟩ := pget ab h1
    rw [h2] at h3; cases h3
    exact h4
  have entry : ∀ (k i : Nat) (a : Addr), as[k]? = some (Arg.b i) → vs[k]? = some (V.ref a) → ∃ e, G[i]? = some e ∧ a ∈ oad (some (.ref a)) e ∧ ((∃ o, e = .ow o) ∨ ∃ m o, e = .bw m o) := fun k i a h1 h2 => by
    obtain ⟨o, ho⟩ := okB_at ok h1
    rcases entOw_cases ho with e | ⟨m, e⟩
    · exact ⟨_, e, by simp [oad], .inl ⟨_, rfl⟩⟩
    · exact ⟨_, e, by simp [oad], .inr ⟨_, _, rfl⟩⟩
  have gz : ∀ {i : Nat} {e : Ent}, G[i]? = some e → (z ++ G)[z.length + i]? = some e := fun h => by rw [get_app]; exact h
  have sz : ∀ {i : Nat} {v : Option V}, s[i]? = some v → (t ++ s)[z.length + i]? = some v := fun h => by rw [← hl, get_app]; exact h
  have cc : Conf K B (t ++ s) F' H' (z ++ updB as bs 0 G) := by
    refine c0.rebuild c' rfl rfl (fun a ⟨k, i, h1, h2⟩ => ?_) (by simp [updB_len]) fun i v e e2 h1 h2 h3 => ?_
    · obtain ⟨e, he, _, q⟩ := entry k i a h1 h2
      obtain ⟨x, hx, ok'⟩ := c0.at (gz he)
      rw [sz (lent k i a h1 h2)] at hx; cases hx
      rcases q with ⟨o, q⟩ | ⟨m, o, q⟩
      · subst q; obtain ⟨b, eb, _, n⟩ := ok'; cases eb; exact .inl n
      · subst q; obtain ⟨b, eb, _, n, mm⟩ := ok'; cases eb; exact .inr mm
    · by_cases hi : i < z.length
      · rw [List.getElem?_append_left hi] at h2 h3
        rw [h2] at h3; cases h3
        refine .inl ⟨rfl, fun a ha ⟨k, j, q1, q2⟩ => ?_⟩
        obtain ⟨e', he', m', _⟩ := entry k j a q1 q2
        exact oads_disj c0.nd (show i ≠ z.length + j by omega) h1 (by rw [List.getElem?_append_left hi]; exact h2) (sz (lent k j a q1 q2)) (gz he') a ha m'
      · rw [List.getElem?_append_right (by omega)] at h2 h3
        rw [updB_at as bs 0 G (i - z.length) e h2, Nat.zero_add] at h3
        cases h3
        have h1' : s[i - z.length]? = some v := by
          rw [List.getElem?_append_right (by omega)] at h1
          rw [← h1]; congr 1; omega
        have ii : i = z.length + (i - z.length) := by omega
        cases ef : findB (i - z.length) 0 as with
        | none =>
          refine .inl ⟨by simp [newE, ef], fun a ha ⟨k, j, q1, q2⟩ => ?_⟩
          have hne : i - z.length ≠ j := fun zz => by
            subst zz
            exact findB_none ef k q1
          obtain ⟨e', he', m', _⟩ := entry k j a q1 q2
          exact oads_disj c0.nd (show i ≠ z.length + j by omega) h1 (by rw [List.getElem?_append_right (by omega)]; exact h2) (sz (lent k j a q1 q2)) (gz he') a ha m'
        | some k =>
          obtain ⟨_, hk⟩ := findB_some ef
          rw [Nat.sub_zero] at hk
          cases el : bs.lookup k with
          | none => exact .inr (.inr (by cases e <;> simp [newE, ef, el]))
          | some o2 =>
            have mem : (k, o2) ∈ bs := lookupN_mem el
            obtain ⟨a, b1, _, b3, b4⟩ := hb _ mem
            have b1 : vs[k]? = some (.ref a) := b1
            have hv := lent k _ a hk b1
            rw [h1'] at hv
            cases hv
            obtain ⟨e', he', _, q⟩ := entry k _ a hk b1
            rw [h2] at he'
            cases he'
            rcases q with ⟨o, q⟩ | ⟨m, o, q⟩
            · subst q
              exact .inr (.inl ⟨a, o, o2, rfl, .inl ⟨rfl, by simp [newE, ef, el]⟩, b3, b4⟩)
            · subst q
              exact .inr (.inl ⟨a, o, o2, rfl, .inr ⟨m, rfl, by simp [newE, ef, el]⟩, b3, b4⟩)
  refine ⟨cc, fun a ha => ?_⟩
  have sub : (oads (t ++ s) (z ++ updB as bs 0 G)).Sublist (oads (t ++ s) (z ++ G)) := oads_sub (by simp [updB_len]) fun i v e e2 h1 h2 h3 => by
    by_cases hi : i < z.length
    · rw [List.getElem?_append_left hi] at h2 h3
      rw [h2] at h3; cases h3
      exact .inl rfl
    · rw [List.getElem?_append_right (by omega)] at h2 h3
      rw [updB_at as bs 0 G (i - z.length) e h2, Nat.zero_add] at h3
      cases h3
      unfold newE
      split
      · exact .inl rfl
      · split
        · exact .inl (by cases v with
            | none => rfl
            | some x => cases x <;> rfl)
        · exact .inl (by cases v with
            | none => rfl
            | some x => cases x <;> rfl)
        · exact .inr (oad_no _)
  exact env_there c0.env a (sub.subset ha)
end

section
variable {P : Program} {w : World} {K : PySem.W.Frag} {mg : Str → Option Value} {base : Heap} {S : Sc} {k : Nat} {X : Cx} {B : Bs} {E : XW} {G : List Ent} {Q : Ent → List Ent → Prop}
theorem fnAt {CX : CXT} {kf : Nat} {f : Addr} {fd : FuncData} {ps : List Str} {sp : Sp} (cj : CJ P w K mg base S k X B E) (Fo : FnOk P w K mg base CX kf f fd ps sp) : FnOk X.prog X.w X.K X.mg X.base CX kf f fd ps sp := by
  rw [cj.hprog, cj.hw, cj.hK, cj.hmg, cj.hbase]; exact Fo
theorem CJ.cxx (cj : CJ P w K mg base S k X B E) (s : St) : PassesAt (L2.CX P w) X s (WE E.W s) := by
  have := passAt cj.tk s
  rwa [cj.hprog, cj.hw] at this
/-- what a call asks, from the caller's side -/
theorem call_ok {U : Spec} {t s : St} {z : List Ent} {F H : Hp} {VQ : VK} {vs : List V} {as : List Arg} (cj : CJ P w K mg base S k X B E) (hl : t.length = z.length)
    (c : Conf X.K B ((vs.map some).reverse ++ (t ++ s)) F H ((as.map Arg.ent).reverse ++ (z ++ G))) (ab : Paired (ArgB s) vs as) (ok : okB G as = true)
    (sp : U (parsOf G as) (fun r bs => Q r (updB as bs 0 G)) (fun x => E.R x (updB as [] 0 G)))
    (q : ∀ v F' H' r G', Conf X.K B (some v :: (t ++ s)) F' H' (r :: (z ++ G')) → IsR r → Q r G' → VQ v H') : SpJ K U vs H VQ (WE E.W s) := by
  have hK := cj.hK
  rw [← hK]
  refine ⟨F, parsOf G as, ⟨F, H, vs, lentM vs as⟩, _, _, rfl, rfl, rfl, c.enter hl ab ok, sp, fun v F' H' r bs fi hq => ?_, fun x F' H' od c' xo hx => ?_⟩
  · obtain ⟨c2, hn⟩ := Conf.leave rfl hl c ab ok fi.c bs fi.bs
    exact q v F' H' r _ (c2.result hn fi.c rfl c.there fi.ir) fi.ir hq
  · obtain ⟨c2, _⟩ := Conf.leave rfl hl c ab ok c' [] (fun p hp => by cases hp)
    exact cj.lk t s z F' H' _ x od hl c2 xo hx
theorem je_call {x : Str} {p pos : Pos} {e : Expr} {es : List Expr} {U : Spec} {kf : Nat} {f : Addr} {fd : FuncData} {ps : List Str} (cj : CJ P w K mg base S k X B E) (Fo : FnOk P w K mg base (L2.CX P w) kf f fd ps (SpJ K U)) (hk : kf ≤ k) (j : Nat)
    (hm : mg x = some (.ref f)) (kp : PySem.W.keepIn K (.ref f) = true) (bi : Binds K fd ps [])
    (h : JA X B (e :: es) G fun as G' => okB G' as = true ∧ U (parsOf G' as) (fun r bs => Q r (updB as bs 0 G')) (fun x => E.R x (updB as [] 0 G')))
    (hj : S.gl[j]? = some x := by rfl) (he : starEach (e :: es) X.env = (false, eval e X.env) :: starEach es X.env := by rfl) (hpl : (backTo pos (starEach es X.env)).any (·.1) = false := by rfl) :
    JE X B (.Call (.Name x p) (e :: es) [] pos) G Q := fun t s z F H VQ hl c q => by
  have hm' : X.mg x = some (.ref f) := by rw [cj.hmg]; exact hm
  have kp' : PySem.W.keepIn X.K (.ref f) = true := by rw [cj.hK]; exact kp
  have bi' : Binds X.K fd ps [] := by rw [cj.hK]; exact bi
  refine tS_of (pe_callS (CX := L2.CX P w) (E := WE E.W) (fnAt cj Fo) (cj.hr.mono hk) (cj.gl hj) hm' kp' bi' (fun s => cj.cxx s) pa_sem (cj.dbg hj) he hpl) ?_
  show tAr X (e :: es) s H fun vs H1 => SpJ K U vs H1 VQ (WE E.W s)
  exact h t s z F H _ hl c fun vs as F' H' G' c' ab ⟨ok, sp⟩ => call_ok cj hl c' ab ok sp q
/-- updB where nothing is lent -/
theorem findB_vs (j : Nat) : ∀ (k : Nat) (ds : List D), findB j k (ds.map Arg.v) = none
  | _, [] => rfl
  | k, d :: ds => findB_vs j (k + 1) ds
theorem updB_vs (bs : List (Nat × Ow)) (ds : List D) : ∀ (j : Nat) (g : List Ent), updB (ds.map .v) bs j g = g
  | _, [] => rfl
  | j, e :: g => by
    show newE _ bs j e :: updB _ bs (j + 1) g = e :: g
    rw [updB_vs bs ds (j + 1) g]
    simp [newE, findB_vs]
theorem okB_vs (g : List Ent) : ∀ (ds : List D), okB g (ds.map .v) = true
  | [] => rfl
  | d :: ds => okB_vs g ds
theorem parsOf_vs (g : List Ent) : ∀ (ds : List D), parsOf g (ds.map .v) = ds.map .v
  | [] => rfl
  | d :: ds => by
    show Par.v d :: parsOf g (ds.map .v) = _
    rw [parsOf_vs g ds]; rfl
theorem je_call0 {x : Str} {p pos : Pos} {e : Expr} {es : List Expr} {U : Spec} {kf : Nat} {f : Addr} {fd : FuncData} {ps : List Str} (cj : CJ P w K mg base S k X B E) (Fo : FnOk P w K mg base (L2.CX P w) kf f fd ps (SpJ K U)) (hk : kf ≤ k) (j : Nat)
    (hm : mg x = some (.ref f)) (kp : PySem.W.keepIn K (.ref f) = true) (bi : Binds K fd ps [])
    (h : JA X B (e :: es) G fun as G' => ∃ ds : List D, as = List.map Arg.v ds ∧ U (List.map Par.v ds) (fun r _ => Q r G') (fun x => E.R x G'))
    (hj : S.gl[j]? = some x := by rfl) (he : starEach (e :: es) X.env = (false, eval e X.env) :: starEach es X.env := by rfl) (hpl : (backTo pos (starEach es X.env)).any (·.1) = false := by rfl) :
    JE X B (.Call (.Name x p) (e :: es) [] pos) G Q := by
  refine je_call cj Fo hk j hm kp bi (fun t s z F H AQ hl c q => h t s z F H AQ hl c fun vs as F' H' G' c' ab r => q vs as F' H' G' c' ab ?_) hj he hpl
  obtain ⟨ds, rfl, sp⟩ := r
  refine ⟨okB_vs _ _, ?_⟩
  rw [parsOf_vs, updB_vs]
  exact (funext fun r => funext fun bs => by rw [updB_vs] : (fun r bs => Q r (updB (ds.map .v) bs 0 G')) = fun r _ => Q r G') ▸ sp
end
end J

namespace J
open PySem PySem.Spec L2

/-! ## data for == -/
mutual
def D.py : D → PyData
  | .non => .none
  | .bl b => .bool b
  | .int i => .int i
  | .str x => .str x
  | .tup ds => .tuple (D.pys ds)
  | .lst ds => .list (D.pys ds)
  | .kls _ => .none
  | .ins _ _ _ => .none
  | .raw _ => .none
  | .tp ds => .tuple (D.pys ds)
  | .exc _ _ _ _ => .none
  | .dct _ _ => .none
def D.pys : List D → List PyData
  | [] => []
  | d :: ds => D.py d :: D.pys ds
end
/-- data of a depth, without bools, instances -/
inductive Flat : Nat → D → Prop
  | non {k : Nat} : Flat k .non
  | int {k : Nat} (i : Int) : Flat k (.int i)
  | str {k : Nat} (x : Str) (h : (PyData.str x).canLay0 = true) : Flat k (.str x)
  | tup {k : Nat} {ds : List D} (h : ∀ d ∈ ds, Flat k d) : Flat (k + 1) (.tup ds)
  | lst {k : Nat} {ds : List D} (h : ∀ d ∈ ds, Flat k d) : Flat (k + 1) (.lst ds)
theorem Flat.mono {k m : Nat} {d : D} (h : Flat k d) (hk : k ≤ m) : Flat m d := by
  induction h generalizing m with
  | non => exact .non
  | int i => exact .int i
  | str x h => exact .str x h
  | tup h ih =>
    obtain ⟨m', rfl⟩ : ∃ m', m = m' + 1 := ⟨m - 1, by omega⟩
    exact .tup fun d hd => ih d hd (by omega)
  | lst h ih =>
    obtain ⟨m', rfl⟩ : ∃ m', m = m' + 1 := ⟨m - 1, by omega⟩
    exact .lst fun d hd => ih d hd (by omega)
theorem pys_lay : ∀ {ds : List D}, (∀ d ∈ ds, (D.py d).canLay0 = true) → PyData.canLayAll0 (D.pys ds) = true
  | [], _ => rfl
  | d :: ds, h => by
    show ((D.py d).canLay0 && PyData.canLayAll0 (D.pys ds)) = true
    rw [h d List.mem_cons_self, pys_lay fun e he => h e (List.mem_cons_of_mem _ he)]; rfl
theorem pys_depth {n : Nat} : ∀ {ds : List D}, (∀ d ∈ ds, (D.py d).depth ≤ n) → PyData.depthAll (D.pys ds) ≤ n
  | [], _ => Nat.zero_le _
  | d :: ds, h => by
    have h1 := h d List.mem_cons_self
    have h2 := pys_depth (n := n) (ds := ds) fun e he => h e (List.mem_cons_of_mem _ he)
    simp only [D.pys, PyData.depthAll]
    omega
theorem Flat.lay {k : Nat} {d : D} (h : Flat k d) : (D.py d).canLay0 = true := by
  induction h with
  | non => rfl
  | int i => rfl
  | str x h => exact h
  | tup h ih => exact pys_lay ih
  | lst h ih => exact pys_lay ih
theorem Flat.dep {k : Nat} {d : D} (h : Flat k d) : (D.py d).depth ≤ k := by
  induction h with
  | non => exact Nat.zero_le _
  | int i => exact Nat.zero_le _
  | str x h => exact Nat.zero_le _
  | tup h ih =>
    have := pys_depth ih
    simp only [D.py, PyData.depth]; omega
  | lst h ih =>
    have := pys_depth ih
    simp only [D.py, PyData.depth]; omega
theorem Flat.shaped {k : Nat} {d : D} (h : Flat k d) (hk : k ≤ 64 := by decide) : SeqAt.shaped (D.py d) = true := by
  unfold SeqAt.shaped
  rw [h.lay, decide_eq_true (Nat.le_trans h.dep hk)]; rfl
def deq (d e : D) : Bool := PyData.eqv (D.py d) (D.py e)
theorem eqvAll_iff : ∀ {ds es : List D}, (∀ d ∈ ds, ∀ e, (PyData.eqv (D.py d) (D.py e) = true ↔ d = e) ∨ ¬ (e ∈ es)) → (PyData.eqvAll (D.pys ds) (D.pys es) = true ↔ ds = es)
  | [], [], _ => by simp [D.pys, PyData.eqvAll]
  | [], _ :: _, _ => by simp [D.pys, PyData.eqvAll]
  | _ :: _, [], _ => by simp [D.pys, PyData.eqvAll]
  | d :: ds, e :: es, h => by
    simp only [D.pys, PyData.eqvAll, Bool.and_eq_true, List.cons.injEq]
    have h1 : PyData.eqv (D.py d) (D.py e) = true ↔ d = e := (h d List.mem_cons_self e).resolve_right fun z => z List.mem_cons_self
    have h2 := eqvAll_iff (ds := ds) (es := es) fun d' hd e' => by
      rcases h d' (List.mem_cons_of_mem _ hd) e' with q | q
      · exact .inl q
      · exact .inr fun z => q (List.mem_cons_of_mem _ z)
    rw [h1, h2]
theorem deq_iff {k : Nat} {d : D} (h : Flat k d) : ∀ {m : Nat} {e : D}, Flat m e → (deq d e = true ↔ d = e) := by
  induction h with
  | non => intro m e he; cases he <;> simp [deq, D.py, PyData.eqv]
  | int i => intro m e he; cases he <;> simp [deq, D.py, PyData.eqv]
  | str x h => intro m e he; cases he <;> simp [deq, D.py, PyData.eqv]
  | @tup k ds h ih =>
    intro m e he
    cases he with
    | non => simp [deq, D.py, PyData.eqv]
    | int i => simp [deq, D.py, PyData.eqv]
    | str x h => simp [deq, D.py, PyData.eqv]
    | lst h => simp [deq, D.py, PyData.eqv]
    | @tup k' es h' =>
      have : PyData.eqvAll (D.pys ds) (D.pys es) = true ↔ ds = es := eqvAll_iff fun d hd e => by
        by_cases hm : e ∈ es
        · exact .inl (ih d hd (h' e hm))
        · exact .inr hm
      simp only [deq, D.py, PyData.eqv, this, D.tup.injEq]
  | @lst k ds h ih =>
    intro m e he
    cases he with
    | non => simp [deq, D.py, PyData.eqv]
    | int i => simp [deq, D.py, PyData.eqv]
    | str x h => simp [deq, D.py, PyData.eqv]
    | tup h => simp [deq, D.py, PyData.eqv]
    | @lst k' es h' =>
      have : PyData.eqvAll (D.pys ds) (D.pys es) = true ↔ ds = es := eqvAll_iff fun d hd e => by
        by_cases hm : e ∈ es
        · exact .inl (ih d hd (h' e hm))
        · exact .inr hm
      simp only [deq, D.py, PyData.eqv, this, D.lst.injEq]
theorem deq_eq {k m : Nat} {d e : D} (h : Flat k d) (h' : Flat m e) [Decidable (d = e)] : deq d e = decide (d = e) := by
  by_cases q : d = e
  · rw [decide_eq_true q]; exact (deq_iff h h').mpr q
  · rw [decide_eq_false q]
    cases z : deq d e with
    | false => rfl
    | true => exact absurd ((deq_iff h h').mp z) q
theorem deq_refl {k : Nat} {d : D} (h : Flat k d) : deq d d = true := (deq_iff h h).mpr rfl
theorem deq_ne {k m : Nat} {d e : D} (h : Flat k d) (h' : Flat m e) (n : d ≠ e) : deq d e = false := by
  cases z : deq d e with
  | false => rfl
  | true => exact absurd ((deq_iff h h').mp z) n
mutual
theorem DP.dp {K : PySem.W.Frag} {H : Hp} {k : Nat} : ∀ (d : D) (v : V), DP K H v d → Flat k d → Dp K H v (D.py d)
  | .non, _, h, _ => by cases h; exact .non
  | .int i, _, h, _ => by cases h; exact .int i
  | .str x, _, h, _ => by cases h; exact .str x
  | .bl b, _, _, f => nomatch f
  | .ins _ _ _, _, _, f => nomatch f
  | .raw _, _, _, f => nomatch f
  | .kls _, _, _, f => nomatch f
  | .tup ds, _, h, f => by cases h with | tup q r => cases f with | tup f => exact .tup q (DP.dps ds _ r f)
  | .lst ds, _, h, f => by cases h with | lst q r => cases f with | lst f => exact .lst (SqL.of q) (DP.dps ds _ r f)
theorem DP.dps {K : PySem.W.Frag} {H : Hp} {k : Nat} : ∀ (ds : List D) (vs : List V), Paired (DP K H) vs ds → (∀ d ∈ ds, Flat k d) → DpAll K H vs (D.pys ds)
  | [], _, h, _ => by cases h; exact .nil
  | d :: ds, _, h, f => by cases h with | cons r t => exact .cons (DP.dp d _ r (f d List.mem_cons_self)) (DP.dps ds _ t fun e he => f e (List.mem_cons_of_mem _ he))
end

/-! ## scalars -/
inductive Sca : V → D → Prop
  | non : Sca .non .non
  | bl (b : Bool) : Sca (.bl b) (.bl b)
  | int (i : Int) : Sca (.int i) (.int i)
  | str (x : Str) : Sca (.str x) (.str x)
theorem Sca.inv {K : PySem.W.Frag} {F : Hp} {v x : V} {d : D} (s : Sca v d) (h : DP K F x d) : x = v := by
  cases s <;> cases h <;> rfl
theorem Sca.dp {K : PySem.W.Frag} {F : Hp} {v : V} {d : D} (s : Sca v d) : DP K F v d := by
  cases s
  · exact .non
  · exact .bl _
  · exact .int _
  · exact .str _

section
variable {K : PySem.W.Frag} {B : Bs} {F H : Hp} {s : St} {g : List Ent}
theorem Conf.top {v : V} {d : D} (c : Conf K B (some v :: s) F H (.fz d :: g)) : DP K F v d := by
  cases c.env with
  | cons q _ => obtain ⟨x, e, p⟩ := q; cases e; exact p
theorem Conf.topH {v : V} {d : D} (c : Conf K B (some v :: s) F H (.fz d :: g)) : DP K H v d := DP.mono c.fh _ _ c.top
end

section
variable {P : Program} {w : World} {K : PySem.W.Frag} {mg : Str → Option Value} {base : Heap} {S : Sc} {k : Nat} {X : Cx} {B : Bs} {E : XW} {G : List Ent} {a b e : Expr} {pos : Pos} {x : Str}

/-- one after the other -/
theorem run2 {R : D → D → List Ent → Prop} (h : JV X B a G fun d1 G1 => JV X B b G1 fun d2 G2 => R d1 d2 G2) {t s : St} {z : List Ent} {F H : Hp} {PQ : V → V → Hp → Prop} (hl : t.length = z.length) (c : Conf X.K B (t ++ s) F H (z ++ G))
    (q : ∀ v u F' H' d1 d2 G', Conf X.K B (some u :: some v :: (t ++ s)) F' H' (.fz d2 :: .fz d1 :: (z ++ G')) → R d1 d2 G' → PQ v u H') : tS X a s H fun v H1 => tS X b s H1 fun u H2 => PQ v u H2 :=
  h t s z F H _ hl c fun v F' H' d1 G1 c1 h2 => h2 (some v :: t) s (.fz d1 :: z) F' H' _ (by simp [hl]) c1 fun u F2 H2 d2 G2 c2 r => q v u F2 H2 d1 d2 G2 c2 r

/-! ### names -/
theorem jv_name (cj : CJ P w K mg base S k X B E) (i : Nat) {d : D} {Q : D → List Ent → Prop} (h : Q d G) (hN : S.N[i]? = some x := by rfl) (hv : i ∈ S.vi := by decide) (hg : G[i]? = some (.fz d) := by rfl) : JV X B (.Name x pos) G Q := fun t s z F H VQ hl c q => by
  have hn := okName_of (Sc.vis cj.ok hv hN).1
  refine tS_of (pe_var (cj.xN hN) (cj.vis hv hN) hn.1 hn.2.1) ?_
  obtain ⟨v, e1, e2⟩ := c.at (i := t.length + i) (e := .fz d) (by rw [hl, get_app]; exact hg)
  obtain ⟨y, rfl, dp⟩ := e2
  rw [get_app] at e1
  exact ⟨y, e1, q y F H d G (c.fz dp) h⟩
/-- an own thing is read for good: it is frozen -/
theorem jv_nameF (cj : CJ P w K mg base S k X B E) (i : Nat) {o : Ow} {d : D} {Q : D → List Ent → Prop} (h : Q d (G.set i (.fz d))) (hN : S.N[i]? = some x := by rfl) (hv : i ∈ S.vi := by decide) (hg : G[i]? = some (.ow o) := by rfl) (hf : frzOw o = some d := by rfl) : JV X B (.Name x pos) G Q := fun t s z F H VQ hl c q => by
  have hg' : (z ++ G)[z.length + i]? = some (.ow o) := by rw [get_app]; exact hg
  obtain ⟨F2, _, c2⟩ := c.freeze hg' hf
  rw [set_app] at c2
  have hi : i < G.length := (List.getElem?_eq_some_iff.mp hg).1
  exact jv_name cj i h hN hv (by rw [List.getElem?_set_self hi]) t s z F2 H VQ hl c2 q
/-- it goes elsewhere -/
theorem je_move (cj : CJ P w K mg base S k X B E) (i : Nat) {o : Ow} {Q : Ent → List Ent → Prop} (h : Q (.ow o) (G.set i .no)) (hN : S.N[i]? = some x := by rfl) (hv : i ∈ S.vi := by decide) (hg : G[i]? = some (.ow o) := by rfl) : JE X B (.Name x pos) G Q := fun t s z F H VQ hl c q => by
  have hn := okName_of (Sc.vis cj.ok hv hN).1
  refine tS_of (pe_var (cj.xN hN) (cj.vis hv hN) hn.1 hn.2.1) ?_
  have hg' : (z ++ G)[t.length + i]? = some (.ow o) := by rw [hl, get_app]; exact hg
  obtain ⟨v, e1, e2⟩ := c.at hg'
  obtain ⟨y, rfl, ow, n⟩ := e2
  have e1' := e1
  rw [get_app] at e1
  refine ⟨.ref y, e1, q (.ref y) F H (.ow o) (G.set i .no) ?_ trivial h⟩
  have c2 := c.forget (i := z.length + i)
  rw [set_app] at c2
  have hnot : y ∉ oads (t ++ s) (z ++ G.set i .no) := by
    have := oads_other c.len c.nd e1' hg' rfl
    intro hm
    -- the entries at that slot own nothing in both
    have eg : z ++ G.set i .no = (z ++ G).set (t.length + i) .no := by rw [hl, set_app]
    rw [eg] at hm
    have key : ∀ {s : St} {g : List Ent} {i : Nat} {v : Option V}, s.length = g.length → s[i]? = some v → oads s (g.set i .no) = oads (s.set i none) (g.set i .no) := by
      intro s
      induction s with
      | nil => intro g i v _ h; simp at h
      | cons p s ih =>
        intro g i v hl h
        cases g with
        | nil => simp at hl
        | cons y g =>
          cases i with
          | zero => show oad p .no ++ oads s g = oad none .no ++ oads s g; rw [oad_no, oad_no]
          | succ i => show oad p y ++ oads s (g.set i .no) = oad p y ++ oads (s.set i none) (g.set i .no); rw [ih (by simpa using hl) (by simpa using h)]
    rw [key c.len e1'] at hm
    exact this hm
  exact ⟨c2.fh, c2.ff, c2.keep, c2.there, c2.old, .cons ⟨y, rfl, ow, n⟩ c2.env, by show ([y] ++ oads _ _).Nodup; exact List.nodup_cons.mpr ⟨hnot, c2.nd⟩, fun a ha => by
    rcases List.mem_append.mp (show a ∈ [y] ++ oads (t ++ s) (z ++ G.set i .no) from ha) with ha | ha
    · simp at ha; subst ha; exact c.own a (oads_at e1' hg' a (by simp [oad]))
    · exact c2.own a ha⟩
theorem jv_glob (cj : CJ P w K mg base S k X B E) (j : Nat) {v : V} {u : Value} {d : D} {Q : D → List Ent → Prop} (hm : mg x = some u) (r : RelV v u) (dp : ∀ F, DP K F v d) (h : Q d G) (hj : S.gl[j]? = some x := by rfl) : JV X B (.Name x pos) G Q := fun t s z F H VQ hl c q =>
  tS_of (pe_glob (cj.gl hj) (by rw [cj.hmg]; exact hm) r (cj.dbg hj)) (q v F H d G (c.fz (by rw [cj.hK]; exact dp F)) h)
/-! ### constants -/
theorem jv_int {i j} {Q : D → List Ent → Prop} (h : Q (.int i) G) : JV X B (.Constant (.int i) j pos) G Q := fun t s z F H VQ hl c q => tS_of pe_int (q _ F H _ G (c.fz (.int i)) h)
theorem jv_bl {i j} {Q : D → List Ent → Prop} (h : Q (.bl i) G) : JV X B (.Constant (.bool i) j pos) G Q := fun t s z F H VQ hl c q => tS_of pe_bl (q _ F H _ G (c.fz (.bl i)) h)
theorem jv_non {j} {Q : D → List Ent → Prop} (h : Q .non G) : JV X B (.Constant .none j pos) G Q := fun t s z F H VQ hl c q => tS_of pe_non (q _ F H _ G (c.fz .non) h)
theorem jv_str {i j} {Q : D → List Ent → Prop} (h : Q (.str i) G) : JV X B (.Constant (.str i) j pos) G Q := fun t s z F H VQ hl c q => tS_of pe_str (q _ F H _ G (c.fz (.str i)) h)
/-! ### operators on scalars -/
theorem jv_op2 {op : Operator} {r : R2} {Q : D → List Ent → Prop} (ho : OpR X (binaryOp op) r)
    (h : JV X B a G fun d1 G1 => JV X B b G1 fun d2 G2 => ∃ v1 v2 v3 d3, Sca v1 d1 ∧ Sca v2 d2 ∧ Sca v3 d3 ∧ (∀ H VQ, VQ v3 H → r v1 v2 H VQ) ∧ Q d3 G2) : JV X B (.BinOp a op b pos) G Q := fun t s z F H VQ hl c q =>
  tS_of (pe_op ho pe_sem pe_sem) (run2 h hl c fun v u F' H' d1 d2 G' c' ⟨v1, v2, v3, d3, s1, s2, s3, hr, hq⟩ => by
    cases s2.inv c'.top
    cases s1.inv c'.pop.top
    exact hr H' VQ (q v3 F' H' d3 G' (c'.pop.pop.fz s3.dp) hq))
theorem jv_add {Q : D → List Ent → Prop} (h : JV X B a G fun d1 G1 => JV X B b G1 fun d2 G2 => ∃ i j, d1 = .int i ∧ d2 = .int j ∧ Q (.int (i + j)) G2) : JV X B (.BinOp a .Add b pos) G Q :=
  jv_op2 op_add (JV.imp h fun d1 G1 h => JV.imp h fun d2 G2 ⟨i, j, e1, e2, q⟩ => ⟨.int i, .int j, .int (i + j), _, e1 ▸ .int i, e2 ▸ .int j, .int _, fun H VQ z => ⟨i, j, rfl, rfl, z⟩, q⟩)
theorem jv_sub {Q : D → List Ent → Prop} (h : JV X B a G fun d1 G1 => JV X B b G1 fun d2 G2 => ∃ i j, d1 = .int i ∧ d2 = .int j ∧ Q (.int (i - j)) G2) : JV X B (.BinOp a .Sub b pos) G Q :=
  jv_op2 op_sub (JV.imp h fun d1 G1 h => JV.imp h fun d2 G2 ⟨i, j, e1, e2, q⟩ => ⟨.int i, .int j, .int (i - j), _, e1 ▸ .int i, e2 ▸ .int j, .int _, fun H VQ z => ⟨i, j, rfl, rfl, z⟩, q⟩)
theorem jv_mul {Q : D → List Ent → Prop} (h : JV X B a G fun d1 G1 => JV X B b G1 fun d2 G2 => ∃ i j, d1 = .int i ∧ d2 = .int j ∧ CMul i j ∧ Q (.int (i * j)) G2) : JV X B (.BinOp a .Mult b pos) G Q :=
  jv_op2 op_mul (JV.imp h fun d1 G1 h => JV.imp h fun d2 G2 ⟨i, j, e1, e2, hc, q⟩ => ⟨.int i, .int j, .int (i * j), _, e1 ▸ .int i, e2 ▸ .int j, .int _, fun H VQ z => ⟨i, j, rfl, rfl, hc, z⟩, q⟩)
theorem jv_mulW {Q : D → List Ent → Prop} (h : JV X B a G fun d1 G1 => JV X B b G1 fun d2 G2 => ∃ i j, d1 = .int i ∧ d2 = .int j ∧ CMulW i j ∧ Q (.int (i * j)) G2) : JV X B (.BinOp a .Mult b pos) G Q :=
  jv_op2 op_mulW (JV.imp h fun d1 G1 h => JV.imp h fun d2 G2 ⟨i, j, e1, e2, hc, q⟩ => ⟨.int i, .int j, .int (i * j), _, e1 ▸ .int i, e2 ▸ .int j, .int _, fun H VQ z => ⟨i, j, rfl, rfl, hc, z⟩, q⟩)
theorem jv_mod {Q : D → List Ent → Prop} (h : JV X B a G fun d1 G1 => JV X B b G1 fun d2 G2 => ∃ i j, d1 = .int i ∧ d2 = .int j ∧ 0 < j ∧ Q (.int (i % j)) G2) : JV X B (.BinOp a .Mod b pos) G Q :=
  jv_op2 op_mod (JV.imp h fun d1 G1 h => JV.imp h fun d2 G2 ⟨i, j, e1, e2, hc, q⟩ => ⟨.int i, .int j, .int (i % j), _, e1 ▸ .int i, e2 ▸ .int j, .int _, fun H VQ z => ⟨i, j, rfl, rfl, hc, z⟩, q⟩)
theorem jv_fdiv {Q : D → List Ent → Prop} (h : JV X B a G fun d1 G1 => JV X B b G1 fun d2 G2 => ∃ i j, d1 = .int i ∧ d2 = .int j ∧ CDiv i j ∧ Q (.int (i / j)) G2) : JV X B (.BinOp a .FloorDiv b pos) G Q :=
  jv_op2 op_fdiv (JV.imp h fun d1 G1 h => JV.imp h fun d2 G2 ⟨i, j, e1, e2, hc, q⟩ => ⟨.int i, .int j, .int (i / j), _, e1 ▸ .int i, e2 ▸ .int j, .int _, fun H VQ z => ⟨i, j, rfl, rfl, hc, z⟩, q⟩)
theorem jv_fdivW {Q : D → List Ent → Prop} (h : JV X B a G fun d1 G1 => JV X B b G1 fun d2 G2 => ∃ i j, d1 = .int i ∧ d2 = .int j ∧ CDivW i j ∧ Q (.int (i / j)) G2) : JV X B (.BinOp a .FloorDiv b pos) G Q :=
  jv_op2 op_fdivW (JV.imp h fun d1 G1 h => JV.imp h fun d2 G2 ⟨i, j, e1, e2, hc, q⟩ => ⟨.int i, .int j, .int (i / j), _, e1 ▸ .int i, e2 ▸ .int j, .int _, fun H VQ z => ⟨i, j, rfl, rfl, hc, z⟩, q⟩)
theorem jv_pow {Q : D → List Ent → Prop} (h : JV X B a G fun d1 G1 => JV X B b G1 fun d2 G2 => ∃ i j, d1 = .int i ∧ d2 = .int j ∧ CPow i j ∧ Q (.int (i ^ j.toNat)) G2) : JV X B (.BinOp a .Pow b pos) G Q :=
  jv_op2 op_pow (JV.imp h fun d1 G1 h => JV.imp h fun d2 G2 ⟨i, j, e1, e2, hc, q⟩ => ⟨.int i, .int j, .int (i ^ j.toNat), _, e1 ▸ .int i, e2 ▸ .int j, .int _, fun H VQ z => ⟨i, j, rfl, rfl, hc, z⟩, q⟩)
theorem jv_adds {Q : D → List Ent → Prop} (h : JV X B a G fun d1 G1 => JV X B b G1 fun d2 G2 => ∃ i j, d1 = .str i ∧ d2 = .str j ∧ i.length + j.length ≤ sizeLine ∧ Q (.str (i ++ j)) G2) : JV X B (.BinOp a .Add b pos) G Q :=
  jv_op2 op_add_str (JV.imp h fun d1 G1 h => JV.imp h fun d2 G2 ⟨i, j, e1, e2, hc, q⟩ => ⟨.str i, .str j, .str (i ++ j), _, e1 ▸ .str i, e2 ▸ .str j, .str _, fun H VQ z => ⟨i, j, rfl, rfl, hc, z⟩, q⟩)
theorem jv_neg {Q : D → List Ent → Prop} (h : JV X B a G fun d1 G1 => ∃ i, d1 = .int i ∧ Q (.int (-i)) G1) : JV X B (.UnaryOp .USub a pos) G Q := fun t s z F H VQ hl c q =>
  tS_of (pe_un un_neg pe_sem) (h t s z F H _ hl c fun v F' H' d G' c' ⟨i, e, hq⟩ => by
    subst e
    cases c'.top
    exact ⟨i, rfl, q _ F' H' _ G' (c'.pop.fz (.int _)) hq⟩)
/-! ### comparisons -/
/-- a comparison of two values, as a value and as a test -/
def RelB (X : Cx) (r : R2) (d1 d2 : D) (kk : Bool) : Prop := ∀ v u H VQ, DP X.K H v d1 → DP X.K H u d2 → VQ (V.bl kk) H → r v u H VQ
theorem jv_cmp {op : CmpOp} {r : R2} {Q : D → List Ent → Prop} (ho : OpR X (compareOp op) r) (hm : behindInMarks op b = false)
    (h : JV X B a G fun d1 G1 => JV X B b G1 fun d2 G2 => ∃ kk, RelB X r d1 d2 kk ∧ Q (.bl kk) G2) : JV X B (.Compare a [op] [b] pos) G Q := fun t s z F H VQ hl c q =>
  tS_of (pe_cmpR ho pe_sem pe_sem hm) (run2 h hl c fun v u F' H' d1 d2 G' c' ⟨kk, hr, hq⟩ => hr v u H' VQ c'.pop.topH c'.topH (q _ F' H' _ G' (c'.pop.pop.fz (.bl kk)) hq))
theorem jt_cmp {op : CmpOp} {r : R2} {Q : Bool → List Ent → Prop} (ho : OpR X (compareOp op) r) (hm : behindInMarks op b = false)
    (h : JV X B a G fun d1 G1 => JV X B b G1 fun d2 G2 => ∃ kk, RelB X r d1 d2 kk ∧ Q kk G2) : JT X B (.Compare a [op] [b] pos) G Q := fun t s z F H TQ hl c q =>
  tT_of (pt_cmpR ho pe_sem pe_sem hm) (run2 h hl c fun v u F' H' d1 d2 G' c' ⟨kk, hr, hq⟩ => hr v u H' _ c'.pop.topH c'.topH ⟨kk, rfl, q kk F' H' G' c'.pop.pop hq⟩)
theorem relB_lt {i j : Int} : RelB X (rI0 fun i j => .bl (decide (i < j))) (.int i) (.int j) (decide (i < j)) := fun v u H VQ h1 h2 q => by cases h1; cases h2; exact ⟨i, j, rfl, rfl, q⟩
theorem relB_le {i j : Int} : RelB X (rI0 fun i j => .bl (decide (i ≤ j))) (.int i) (.int j) (decide (i ≤ j)) := fun v u H VQ h1 h2 q => by cases h1; cases h2; exact ⟨i, j, rfl, rfl, q⟩
theorem relB_gt {i j : Int} : RelB X (rI0 fun i j => .bl (decide (j < i))) (.int i) (.int j) (decide (j < i)) := fun v u H VQ h1 h2 q => by cases h1; cases h2; exact ⟨i, j, rfl, rfl, q⟩
theorem relB_ge {i j : Int} : RelB X (rI0 fun i j => .bl (decide (j ≤ i))) (.int i) (.int j) (decide (j ≤ i)) := fun v u H VQ h1 h2 q => by cases h1; cases h2; exact ⟨i, j, rfl, rfl, q⟩
theorem relB_eq {d e : D} {n m : Nat} (f : Flat n d) (f' : Flat m e) (hn : n ≤ 64 := by decide) (hm : m ≤ 64 := by decide) : RelB X (rEqD X.K) d e (deq d e) := fun v u H VQ h1 h2 q => ⟨_, _, DP.dp d v h1 f, DP.dp e u h2 f', f.shaped hn, f'.shaped hm, q⟩
theorem relB_ne {d e : D} {n m : Nat} (f : Flat n d) (f' : Flat m e) (hn : n ≤ 64 := by decide) (hm : m ≤ 64 := by decide) : RelB X (rNeD X.K) d e (!deq d e) := fun v u H VQ h1 h2 q => ⟨_, _, DP.dp d v h1 f, DP.dp e u h2 f', f.shaped hn, f'.shaped hm, q⟩
def D.nn : D → Bool
  | .non => false
  | .raw _ => false
  | _ => true
theorem relB_isN {d : D} (hd : d.nn = true) : RelB X (fun x y H Q => y = .non ∧ Q (.bl (decide (x = .non))) H) d .non false := fun v u H VQ h1 h2 q => by
  cases h2
  refine ⟨rfl, ?_⟩
  cases h1 <;> first | exact q | (simp [D.nn] at hd)
theorem relB_isN1 : RelB X (fun x y H Q => y = .non ∧ Q (.bl (decide (x = .non))) H) .non .non true := fun v u H VQ h1 h2 q => by
  cases h2; cases h1; exact ⟨rfl, q⟩
theorem relB_notN {d : D} (hd : d.nn = true) : RelB X (fun x y H Q => y = .non ∧ Q (.bl (!decide (x = .non))) H) d .non true := fun v u H VQ h1 h2 q => by
  cases h2
  refine ⟨rfl, ?_⟩
  cases h1 <;> first | exact q | (simp [D.nn] at hd)
theorem relB_notN1 : RelB X (fun x y H Q => y = .non ∧ Q (.bl (!decide (x = .non))) H) .non .non false := fun v u H VQ h1 h2 q => by
  cases h2; cases h1; exact ⟨rfl, q⟩
/-! ints in tests -/
theorem jt_lt {Q : Bool → List Ent → Prop} (h : JV X B a G fun d1 G1 => JV X B b G1 fun d2 G2 => ∃ i j, d1 = .int i ∧ d2 = .int j ∧ Q (decide (i < j)) G2) : JT X B (.Compare a [.Lt] [b] pos) G Q :=
  jt_cmp op_lt (nomark _) (JV.imp h fun _ _ h => JV.imp h fun _ _ ⟨i, j, e1, e2, q⟩ => ⟨_, by rw [e1, e2]; exact relB_lt, q⟩)
theorem jt_le {Q : Bool → List Ent → Prop} (h : JV X B a G fun d1 G1 => JV X B b G1 fun d2 G2 => ∃ i j, d1 = .int i ∧ d2 = .int j ∧ Q (decide (i ≤ j)) G2) : JT X B (.Compare a [.LtE] [b] pos) G Q :=
  jt_cmp op_le (nomark _) (JV.imp h fun _ _ h => JV.imp h fun _ _ ⟨i, j, e1, e2, q⟩ => ⟨_, by rw [e1, e2]; exact relB_le, q⟩)
theorem jt_gt {Q : Bool → List Ent → Prop} (h : JV X B a G fun d1 G1 => JV X B b G1 fun d2 G2 => ∃ i j, d1 = .int i ∧ d2 = .int j ∧ Q (decide (j < i)) G2) : JT X B (.Compare a [.Gt] [b] pos) G Q :=
  jt_cmp op_gt (nomark _) (JV.imp h fun _ _ h => JV.imp h fun _ _ ⟨i, j, e1, e2, q⟩ => ⟨_, by rw [e1, e2]; exact relB_gt, q⟩)
theorem jt_ge {Q : Bool → List Ent → Prop} (h : JV X B a G fun d1 G1 => JV X B b G1 fun d2 G2 => ∃ i j, d1 = .int i ∧ d2 = .int j ∧ Q (decide (j ≤ i)) G2) : JT X B (.Compare a [.GtE] [b] pos) G Q :=
  jt_cmp op_ge (nomark _) (JV.imp h fun _ _ h => JV.imp h fun _ _ ⟨i, j, e1, e2, q⟩ => ⟨_, by rw [e1, e2]; exact relB_ge, q⟩)
theorem jv_le {Q : D → List Ent → Prop} (h : JV X B a G fun d1 G1 => JV X B b G1 fun d2 G2 => ∃ i j, d1 = .int i ∧ d2 = .int j ∧ Q (.bl (decide (i ≤ j))) G2) : JV X B (.Compare a [.LtE] [b] pos) G Q :=
  jv_cmp op_le (nomark _) (JV.imp h fun _ _ h => JV.imp h fun _ _ ⟨i, j, e1, e2, q⟩ => ⟨_, by rw [e1, e2]; exact relB_le, q⟩)
theorem jv_ge {Q : D → List Ent → Prop} (h : JV X B a G fun d1 G1 => JV X B b G1 fun d2 G2 => ∃ i j, d1 = .int i ∧ d2 = .int j ∧ Q (.bl (decide (j ≤ i))) G2) : JV X B (.Compare a [.GtE] [b] pos) G Q :=
  jv_cmp op_ge (nomark _) (JV.imp h fun _ _ h => JV.imp h fun _ _ ⟨i, j, e1, e2, q⟩ => ⟨_, by rw [e1, e2]; exact relB_ge, q⟩)
theorem jv_lt {Q : D → List Ent → Prop} (h : JV X B a G fun d1 G1 => JV X B b G1 fun d2 G2 => ∃ i j, d1 = .int i ∧ d2 = .int j ∧ Q (.bl (decide (i < j))) G2) : JV X B (.Compare a [.Lt] [b] pos) G Q :=
  jv_cmp op_lt (nomark _) (JV.imp h fun _ _ h => JV.imp h fun _ _ ⟨i, j, e1, e2, q⟩ => ⟨_, by rw [e1, e2]; exact relB_lt, q⟩)
theorem jv_gt {Q : D → List Ent → Prop} (h : JV X B a G fun d1 G1 => JV X B b G1 fun d2 G2 => ∃ i j, d1 = .int i ∧ d2 = .int j ∧ Q (.bl (decide (j < i))) G2) : JV X B (.Compare a [.Gt] [b] pos) G Q :=
  jv_cmp op_gt (nomark _) (JV.imp h fun _ _ h => JV.imp h fun _ _ ⟨i, j, e1, e2, q⟩ => ⟨_, by rw [e1, e2]; exact relB_gt, q⟩)
/-! == and != of data -/
theorem jt_eq (cj : CJ P w K mg base S k X B E) {Q : Bool → List Ent → Prop} (h : JV X B a G fun d1 G1 => JV X B b G1 fun d2 G2 => (∃ n, Flat n d1 ∧ n ≤ 64) ∧ (∃ m, Flat m d2 ∧ m ≤ 64) ∧ Q (deq d1 d2) G2) : JT X B (.Compare a [.Eq] [b] pos) G Q :=
  jt_cmp (op_eqD cj.hr.units) (nomark _) (JV.imp h fun _ _ h => JV.imp h fun _ _ ⟨⟨n, f, hn⟩, ⟨m, f', hm⟩, q⟩ => ⟨_, relB_eq f f' hn hm, q⟩)
theorem jt_ne (cj : CJ P w K mg base S k X B E) {Q : Bool → List Ent → Prop} (h : JV X B a G fun d1 G1 => JV X B b G1 fun d2 G2 => (∃ n, Flat n d1 ∧ n ≤ 64) ∧ (∃ m, Flat m d2 ∧ m ≤ 64) ∧ Q (!deq d1 d2) G2) : JT X B (.Compare a [.NotEq] [b] pos) G Q :=
  jt_cmp (op_neD cj.hr.units) (nomark _) (JV.imp h fun _ _ h => JV.imp h fun _ _ ⟨⟨n, f, hn⟩, ⟨m, f', hm⟩, q⟩ => ⟨_, relB_ne f f' hn hm, q⟩)
theorem jv_eq (cj : CJ P w K mg base S k X B E) {Q : D → List Ent → Prop} (h : JV X B a G fun d1 G1 => JV X B b G1 fun d2 G2 => (∃ n, Flat n d1 ∧ n ≤ 64) ∧ (∃ m, Flat m d2 ∧ m ≤ 64) ∧ Q (.bl (deq d1 d2)) G2) : JV X B (.Compare a [.Eq] [b] pos) G Q :=
  jv_cmp (op_eqD cj.hr.units) (nomark _) (JV.imp h fun _ _ h => JV.imp h fun _ _ ⟨⟨n, f, hn⟩, ⟨m, f', hm⟩, q⟩ => ⟨_, relB_eq f f' hn hm, q⟩)
theorem jv_ne (cj : CJ P w K mg base S k X B E) {Q : D → List Ent → Prop} (h : JV X B a G fun d1 G1 => JV X B b G1 fun d2 G2 => (∃ n, Flat n d1 ∧ n ≤ 64) ∧ (∃ m, Flat m d2 ∧ m ≤ 64) ∧ Q (.bl (!deq d1 d2)) G2) : JV X B (.Compare a [.NotEq] [b] pos) G Q :=
  jv_cmp (op_neD cj.hr.units) (nomark _) (JV.imp h fun _ _ h => JV.imp h fun _ _ ⟨⟨n, f, hn⟩, ⟨m, f', hm⟩, q⟩ => ⟨_, relB_ne f f' hn hm, q⟩)
/-! ints alone -/
theorem deq_int (i j : Int) : deq (.int i) (.int j) = decide (i = j) := by
  rw [Bool.eq_iff_iff]; simp [deq, D.py, PyData.eqv]
theorem jt_eqi (cj : CJ P w K mg base S k X B E) {Q : Bool → List Ent → Prop} (h : JV X B a G fun d1 G1 => JV X B b G1 fun d2 G2 => ∃ i j, d1 = .int i ∧ d2 = .int j ∧ Q (decide (i = j)) G2) : JT X B (.Compare a [.Eq] [b] pos) G Q :=
  jt_eq cj (JV.imp h fun _ _ h => JV.imp h fun _ _ ⟨i, j, e1, e2, q⟩ => ⟨⟨0, by rw [e1]; exact .int i, by decide⟩, ⟨0, by rw [e2]; exact .int j, by decide⟩, by rw [e1, e2, deq_int]; exact q⟩)
theorem jt_nei (cj : CJ P w K mg base S k X B E) {Q : Bool → List Ent → Prop} (h : JV X B a G fun d1 G1 => JV X B b G1 fun d2 G2 => ∃ i j, d1 = .int i ∧ d2 = .int j ∧ Q (!decide (i = j)) G2) : JT X B (.Compare a [.NotEq] [b] pos) G Q :=
  jt_ne cj (JV.imp h fun _ _ h => JV.imp h fun _ _ ⟨i, j, e1, e2, q⟩ => ⟨⟨0, by rw [e1]; exact .int i, by decide⟩, ⟨0, by rw [e2]; exact .int j, by decide⟩, by rw [e1, e2, deq_int]; exact q⟩)
theorem jv_eqi (cj : CJ P w K mg base S k X B E) {Q : D → List Ent → Prop} (h : JV X B a G fun d1 G1 => JV X B b G1 fun d2 G2 => ∃ i j, d1 = .int i ∧ d2 = .int j ∧ Q (.bl (decide (i = j))) G2) : JV X B (.Compare a [.Eq] [b] pos) G Q :=
  jv_eq cj (JV.imp h fun _ _ h => JV.imp h fun _ _ ⟨i, j, e1, e2, q⟩ => ⟨⟨0, by rw [e1]; exact .int i, by decide⟩, ⟨0, by rw [e2]; exact .int j, by decide⟩, by rw [e1, e2, deq_int]; exact q⟩)
/-! ### None -/
theorem jt_isN {Q : Bool → List Ent → Prop} (h : JV X B a G fun d1 G1 => JV X B b G1 fun d2 G2 => d2 = .non ∧ ((d1 = .non ∧ Q true G2) ∨ (d1.nn = true ∧ Q false G2))) : JT X B (.Compare a [.Is] [b] pos) G Q :=
  jt_cmp op_isN (nomark _) (JV.imp h fun d1 _ h => JV.imp h fun _ _ ⟨e, q⟩ => by
    subst e
    rcases q with ⟨e, q⟩ | ⟨e, q⟩
    · subst e; exact ⟨true, relB_isN1, q⟩
    · exact ⟨false, relB_isN e, q⟩)
theorem jv_isN {Q : D → List Ent → Prop} (h : JV X B a G fun d1 G1 => JV X B b G1 fun d2 G2 => d2 = .non ∧ ((d1 = .non ∧ Q (.bl true) G2) ∨ (d1.nn = true ∧ Q (.bl false) G2))) : JV X B (.Compare a [.Is] [b] pos) G Q :=
  jv_cmp op_isN (nomark _) (JV.imp h fun d1 _ h => JV.imp h fun _ _ ⟨e, q⟩ => by
    subst e
    rcases q with ⟨e, q⟩ | ⟨e, q⟩
    · subst e; exact ⟨true, relB_isN1, q⟩
    · exact ⟨false, relB_isN e, q⟩)
theorem jt_notN {Q : Bool → List Ent → Prop} (h : JV X B a G fun d1 G1 => JV X B b G1 fun d2 G2 => d2 = .non ∧ ((d1 = .non ∧ Q false G2) ∨ (d1.nn = true ∧ Q true G2))) : JT X B (.Compare a [.IsNot] [b] pos) G Q :=
  jt_cmp op_notN (nomark _) (JV.imp h fun d1 _ h => JV.imp h fun _ _ ⟨e, q⟩ => by
    subst e
    rcases q with ⟨e, q⟩ | ⟨e, q⟩
    · subst e; exact ⟨false, relB_notN1, q⟩
    · exact ⟨true, relB_notN e, q⟩)
/-! ### truth -/
theorem jt_val {Q : Bool → List Ent → Prop} (h : JV X B e G fun d G' => ∃ kk, d = .bl kk ∧ Q kk G') (he : ∀ whole, isTrue e X.env whole = (do let v ← whole; standAt e.pos; holding [v] (truthy v)) := by intro _; rfl) : JT X B e G Q := fun t s z F H TQ hl c q =>
  tT_of (pt_val pe_sem he) (h t s z F H _ hl c fun v F' H' d G' c' ⟨kk, e, hq⟩ => by
    subst e
    cases c'.top
    exact ⟨kk, rfl, q kk F' H' G' c'.pop hq⟩)
theorem jt_not {Q : Bool → List Ent → Prop} (h : JT X B a G fun kk G' => Q (!kk) G') : JT X B (.UnaryOp .Not a pos) G Q := fun t s z F H TQ hl c q =>
  tT_of (pt_not pt_sem) (h t s z F H _ hl c fun kk F' H' G' c' hq => q _ F' H' G' c' hq)
theorem jw_and1 {Q : Bool → List Ent → Prop} (h : JT X B a G Q) : JW X B (.BoolOp .And [a] pos) G Q := fun t s z F H TQ hl c q => tW_of (pw_and1 pt_sem) (h t s z F H TQ hl c q)
theorem jw_or1 {Q : Bool → List Ent → Prop} (h : JT X B a G Q) : JW X B (.BoolOp .Or [a] pos) G Q := fun t s z F H TQ hl c q => tW_of (pw_or1 pt_sem) (h t s z F H TQ hl c q)
theorem jw_and {rest : List Expr} {Q : Bool → List Ent → Prop} (h : JT X B a G fun kk G' => (kk = true → JW X B (.BoolOp .And (b :: rest) pos) G' Q) ∧ (kk = false → Q false G')) : JW X B (.BoolOp .And (a :: b :: rest) pos) G Q := fun t s z F H TQ hl c q =>
  tW_of (pw_and pt_sem pw_sem) (h t s z F H _ hl c fun kk F' H' G' c' hq => by
    cases kk with
    | true => exact hq.1 rfl t s z F' H' TQ hl c' q
    | false => exact q false F' H' G' c' (hq.2 rfl))
theorem jw_or {rest : List Expr} {Q : Bool → List Ent → Prop} (h : JT X B a G fun kk G' => (kk = false → JW X B (.BoolOp .Or (b :: rest) pos) G' Q) ∧ (kk = true → Q true G')) : JW X B (.BoolOp .Or (a :: b :: rest) pos) G Q := fun t s z F H TQ hl c q =>
  tW_of (pw_or pt_sem pw_sem) (h t s z F H _ hl c fun kk F' H' G' c' hq => by
    cases kk with
    | false => exact hq.1 rfl t s z F' H' TQ hl c' q
    | true => exact q true F' H' G' c' (hq.2 rfl))
/-- as values: bools -/
theorem jv_one {op} {Q : D → List Ent → Prop} (h : JV X B a G Q) : JV X B (.BoolOp op [a] pos) G Q := fun t s z F H VQ hl c q => tS_of (pe_one pe_sem) (h t s z F H VQ hl c q)
theorem jv_and {rest : List Expr} {Q : D → List Ent → Prop} (h : JV X B a G fun d G' => ∃ kk, d = .bl kk ∧ (kk = true → JV X B (.BoolOp .And (b :: rest) pos) G' Q) ∧ (kk = false → Q (.bl false) G')) : JV X B (.BoolOp .And (a :: b :: rest) pos) G Q := fun t s z F H VQ hl c q =>
  tS_of (pe_and pe_sem pe_sem) (h t s z F H _ hl c fun v F' H' d G' c' ⟨kk, e, h1, h2⟩ => by
    subst e
    cases c'.top
    refine ⟨kk, rfl, ?_⟩
    cases kk with
    | true => rw [if_pos rfl]; exact h1 rfl t s z F' H' VQ hl c'.pop q
    | false => rw [if_neg Bool.false_ne_true]; exact q _ F' H' _ G' c' (h2 rfl))
theorem jv_or {rest : List Expr} {Q : D → List Ent → Prop} (h : JV X B a G fun d G' => ∃ kk, d = .bl kk ∧ (kk = false → JV X B (.BoolOp .Or (b :: rest) pos) G' Q) ∧ (kk = true → Q (.bl true) G')) : JV X B (.BoolOp .Or (a :: b :: rest) pos) G Q := fun t s z F H VQ hl c q =>
  tS_of (pe_or pe_sem pe_sem) (h t s z F H _ hl c fun v F' H' d G' c' ⟨kk, e, h1, h2⟩ => by
    subst e
    cases c'.top
    refine ⟨kk, rfl, ?_⟩
    cases kk with
    | false => rw [if_neg Bool.false_ne_true]; exact h1 rfl t s z F' H' VQ hl c'.pop q
    | true => rw [if_pos rfl]; exact q _ F' H' _ G' c' (h2 rfl))
theorem jv_not {Q : D → List Ent → Prop} (h : JV X B a G fun d G' => ∃ kk, d = .bl kk ∧ Q (.bl (!kk)) G') : JV X B (.UnaryOp .Not a pos) G Q := fun t s z F H VQ hl c q =>
  tS_of (pe_not pe_sem) (h t s z F H _ hl c fun v F' H' d G' c' ⟨kk, e, hq⟩ => by
    subst e
    cases c'.top
    exact ⟨kk, rfl, q _ F' H' _ G' (c'.pop.fz (.bl _)) hq⟩)
theorem je_if {c : Expr} {Q : Ent → List Ent → Prop} (h : JT X B c G fun kk G' => (kk = true → JE X B a G' Q) ∧ (kk = false → JE X B b G' Q)) : JE X B (.IfExp c a b pos) G Q := fun t s z F H VQ hl cf q =>
  tS_of (pe_ifExp pt_sem pe_sem pe_sem) (h t s z F H _ hl cf fun kk F' H' G' c' hq => by
    cases kk with
    | true => exact hq.1 rfl t s z F' H' VQ hl c' q
    | false => exact hq.2 rfl t s z F' H' VQ hl c' q)
theorem jv_if {c : Expr} {Q : D → List Ent → Prop} (h : JT X B c G fun kk G' => (kk = true → JV X B a G' Q) ∧ (kk = false → JV X B b G' Q)) : JV X B (.IfExp c a b pos) G Q := fun t s z F H VQ hl cf q =>
  tS_of (pe_ifExp pt_sem pe_sem pe_sem) (h t s z F H _ hl cf fun kk F' H' G' c' hq => by
    cases kk with
    | true => exact hq.1 rfl t s z F' H' VQ hl c' q
    | false => exact hq.2 rfl t s z F' H' VQ hl c' q)
/-- a < b < c -/
theorem jv_chain {op op' : CmpOp} {r r' : R2} {cc : Expr} {Q : D → List Ent → Prop} (ho : OpR X (compareOp op) r) (ho' : OpR X (compareOp op') r')
    (h : JV X B a G fun d1 G1 => JV X B b G1 fun d2 G2 => ∃ kk, RelB X r d1 d2 kk ∧ (kk = true → JV X B cc G2 fun d3 G3 => ∃ k2, RelB X r' d2 d3 k2 ∧ Q (.bl k2) G3) ∧ (kk = false → Q (.bl false) G2))
    (h2 : behindInMarks op' cc = false := by exact nomark _) : JV X B (.Compare a [op, op'] [b, cc] pos) G Q := fun t s z F H VQ hl c q =>
  tS_of (pe_chain ho ho' pe_sem pe_sem pe_sem h2) (run2 h hl c fun v u F' H' d1 d2 G' c' ⟨kk, hr, ht, hf⟩ => hr v u H' _ c'.pop.topH c'.topH ⟨kk, rfl, by
    cases kk with
    | true =>
      rw [if_pos rfl]
      refine ht rfl (some u :: some v :: t) s (.fz d2 :: .fz d1 :: z) F' H' _ (by simp [hl]) c' fun y F2 H2 d3 G3 c3 ⟨k2, hr2, hq⟩ => ?_
      exact hr2 u y H2 VQ c3.pop.topH c3.topH (q _ F2 H2 _ G3 (c3.pop.pop.pop.fz (.bl k2)) hq)
    | false =>
      rw [if_neg Bool.false_ne_true]
      exact q _ F' H' _ G' (c'.pop.pop.fz (.bl false)) (hf rfl)⟩)
theorem jt_chain {op op' : CmpOp} {r r' : R2} {cc : Expr} {Q : Bool → List Ent → Prop} (ho : OpR X (compareOp op) r) (ho' : OpR X (compareOp op') r')
    (h : JV X B a G fun d1 G1 => JV X B b G1 fun d2 G2 => ∃ kk, RelB X r d1 d2 kk ∧ (kk = true → JV X B cc G2 fun d3 G3 => ∃ k2, RelB X r' d2 d3 k2 ∧ Q k2 G3) ∧ (kk = false → Q false G2))
    (h2 : behindInMarks op' cc = false := by exact nomark _) : JT X B (.Compare a [op, op'] [b, cc] pos) G Q := fun t s z F H TQ hl c q =>
  tT_of (pt_chain ho ho' pe_sem pe_sem pe_sem h2) (run2 h hl c fun v u F' H' d1 d2 G' c' ⟨kk, hr, ht, hf⟩ => hr v u H' _ c'.pop.topH c'.topH ⟨kk, rfl, by
    cases kk with
    | true =>
      rw [if_pos rfl]
      refine ht rfl (some u :: some v :: t) s (.fz d2 :: .fz d1 :: z) F' H' _ (by simp [hl]) c' fun y F2 H2 d3 G3 c3 ⟨k2, hr2, hq⟩ => ?_
      exact hr2 u y H2 _ c3.pop.topH c3.topH ⟨k2, rfl, q k2 F2 H2 G3 c3.pop.pop.pop hq⟩
    | false =>
      rw [if_neg Bool.false_ne_true]
      exact ⟨false, rfl, q false F' H' G' c'.pop.pop (hf rfl)⟩⟩)
end
end J

namespace J
open PySem PySem.Spec L2

/-! ## owned slots -/
def upE : Ent → Ow → Ent
  | .ow _, o => .ow o
  | .bw m _, o => .bw m o
  | e, _ => e
def setOw : List Ent → Nat → Ow → List Ent
  | [], _, _ => []
  | e :: g, 0, o => upE e o :: g
  | e :: g, n + 1, o => e :: setOw g n o
theorem setOw_ow : ∀ {G : List Ent} {i : Nat} {o o' : Ow}, G[i]? = some (.ow o) → setOw G i o' = G.set i (.ow o')
  | [], _, _, _, h => by simp at h
  | e :: g, 0, _, _, h => by simp at h; subst h; rfl
  | e :: g, n + 1, o, o', h => by
    show e :: setOw g n o' = e :: g.set n (.ow o')
    rw [setOw_ow (o := o) (by simpa using h)]
theorem setOw_bw : ∀ {G : List Ent} {i k : Nat} {o o' : Ow}, G[i]? = some (.bw k o) → setOw G i o' = G.set i (.bw k o')
  | [], _, _, _, _, h => by simp at h
  | e :: g, 0, _, _, _, h => by simp at h; subst h; rfl
  | e :: g, n + 1, k, o, o', h => by
    show e :: setOw g n o' = e :: g.set n (.bw k o')
    rw [setOw_bw (k := k) (o := o) (by simpa using h)]
theorem setOw_len : ∀ (G : List Ent) (i : Nat) (o : Ow), (setOw G i o).length = G.length
  | [], _, _ => rfl
  | _ :: _, 0, _ => rfl
  | e :: g, n + 1, o => by show (setOw g n o).length + 1 = g.length + 1; rw [setOw_len]
theorem Conf.slot {K : PySem.W.Frag} {B : Bs} {F H : Hp} {t s : St} {z G : List Ent} {i : Nat} {o : Ow} (hl : t.length = z.length) (c : Conf K B (t ++ s) F H (z ++ G)) (h : entOw G[i]? = some o) :
    ∃ a, s[i]? = some (some (.ref a)) ∧ OwAt K F H a o ∧ F a = none ∧ ∀ ho o', OwAt K F (upd H a ho) a o' → Conf K B (t ++ s) F (upd H a ho) (z ++ setOw G i o') := by
  rcases entOw_cases h with e | ⟨m, e⟩
  · have hg : (z ++ G)[t.length + i]? = some (.ow o) := by rw [hl, get_app]; exact e
    obtain ⟨v, h1, a, rfl, ow, _⟩ := c.at hg
    refine ⟨a, by rw [← h1, get_app], ow, c.own a (oads_at h1 hg a (by simp [oad])), fun ho o' q => ?_⟩
    have := c.write hg h1 q
    rw [hl, set_app, ← setOw_ow e] at this
    exact this
  · have hg : (z ++ G)[t.length + i]? = some (.bw m o) := by rw [hl, get_app]; exact e
    obtain ⟨v, h1, a, rfl, ow, _⟩ := c.at hg
    refine ⟨a, by rw [← h1, get_app], ow, c.own a (oads_at h1 hg a (by simp [oad])), fun ho o' q => ?_⟩
    have := c.writeB hg h1 q
    rw [hl, set_app, ← setOw_bw e] at this
    exact this

theorem Conf.newL {K : PySem.W.Frag} {B : Bs} {F H : Hp} {s : St} {g : List Ent} {p : Addr} {vs : List V} {ds : List D} (c : Conf K B s F H g) (np : H p = none) (dp : DPs K F vs ds) : Conf K B (some (.ref p) :: s) F (upd H p (.lst vs)) (.ow (.lst ds) :: g) :=
  c.new (ho := .lst vs) (o := .lst ds) np ⟨vs, upd_same, dp⟩
theorem Conf.newT {K : PySem.W.Frag} {B : Bs} {F H : Hp} {s : St} {g : List Ent} {p : Addr} {vs : List V} {ds : List D} (c : Conf K B s F H g) (np : H p = none) (dp : DPs K F vs ds) : Conf K B (some (.ref p) :: s) (upd F p (.tup vs)) (upd H p (.tup vs)) (.fz (.tup ds) :: g) :=
  (c.alloc np).fz (.tup (.inl (.inl upd_same)) (DP.monoL (same_upd (c.fresh np)) _ _ dp))
section
variable {P : Program} {w : World} {K : PySem.W.Frag} {mg : Str → Option Value} {base : Heap} {S : Sc} {k : Nat} {X : Cx} {B : Bs} {E : XW} {G : List Ent} {a b e : Expr} {es : List Expr} {pos : Pos} {x : Str}

/-! ### argument lists -/
theorem JA.nil {Q : List Arg → List Ent → Prop} (h : Q [] G) : JA X B [] G Q := fun t s z F H AQ hl c q => tAr_of pa_nil (q [] [] F H G c .nil h)
theorem JA.cons {Q : List Arg → List Ent → Prop} (h : JV X B e G fun d G1 => JA X B es G1 fun as G2 => Q (.v d :: as) G2) (hs : starEach (e :: es) X.env = (false, eval e X.env) :: starEach es X.env := by rfl) : JA X B (e :: es) G Q := fun t s z F H AQ hl c q =>
  tAr_of (pa_cons pe_sem pa_sem hs) (h t s z F H _ hl c fun v F' H' d G' c' h2 => h2 (some v :: t) s (.fz d :: z) F' H' _ (by simp [hl]) c' fun vs as F2 H2 G2 c2 ab hq => by
    refine q (v :: vs) (.v d :: as) F2 H2 G2 ?_ (.cons trivial ab) hq
    rw [List.map_cons, List.map_cons, List.reverse_cons, List.reverse_cons, List.append_assoc, List.append_assoc]
    exact c2)
theorem JA.lend (cj : CJ P w K mg base S k X B E) (i : Nat) {Q : List Arg → List Ent → Prop} (h : JA X B es G fun as G2 => Q (.b i :: as) G2) (hN : S.N[i]? = some x := by rfl) (hv : i ∈ S.vi := by decide) (hg : (entOw G[i]?).isSome = true := by rfl)
    (hs : starEach (.Name x pos :: es) X.env = (false, eval (.Name x pos) X.env) :: starEach es X.env := by rfl) : JA X B (.Name x pos :: es) G Q := fun t s z F H AQ hl c q => by
  have hn := okName_of (Sc.vis cj.ok hv hN).1
  refine tAr_of (pa_cons (pe_var (cj.xN hN) (cj.vis hv hN) hn.1 hn.2.1) pa_sem hs) ?_
  obtain ⟨o, ho⟩ := Option.isSome_iff_exists.mp hg
  obtain ⟨y, e1, _⟩ := c.slot hl ho
  refine ⟨.ref y, e1, h (some (.ref y) :: t) s (.no :: z) F H _ (by simp [hl]) (c.push trivial (oad_no _)) fun vs as F2 H2 G2 c2 ab hq => ?_⟩
  refine q (.ref y :: vs) (.b i :: as) F2 H2 G2 ?_ (.cons e1 ab) hq
  rw [List.map_cons, List.map_cons, List.reverse_cons, List.reverse_cons, List.append_assoc, List.append_assoc]
  exact c2
/-- the arguments' data -/
theorem args_dp {K : PySem.W.Frag} {B : Bs} {F H : Hp} {u : St} {g : List Ent} {vs : List V} {ds : List D} (hlen : vs.length = ds.length) (c : Conf K B ((vs.map some).reverse ++ u) F H (((List.map Arg.v ds).map Arg.ent).reverse ++ g)) : DPs K F vs ds ∧ Conf K B u F H g := by
  have hl2 : ((vs.map some).reverse).length = (((List.map Arg.v ds).map Arg.ent).reverse).length := by simp [hlen]
  obtain ⟨ea, eb⟩ := psplit hl2 c.env
  have ea : Paired (EntOk K B F H) (vs.map some) ((List.map Arg.v ds).map Arg.ent) := by
    have := prev ea
    rwa [List.reverse_reverse, List.reverse_reverse] at this
  refine ⟨?_, ?_⟩
  · have go : ∀ {vs : List V} {ds : List D}, Paired (EntOk K B F H) (vs.map some) ((List.map Arg.v ds).map Arg.ent) → DPs K F vs ds := by
      intro vs
      induction vs with
      | nil => intro ds h; cases ds with
        | nil => exact .nil
        | cons _ _ => cases h
      | cons v vs ih =>
        intro ds h
        cases ds with
        | nil => cases h
        | cons d ds =>
          cases h with
          | cons q t =>
            obtain ⟨y, e, p⟩ := q
            cases e
            exact .cons p (ih t)
    exact go ea
  · have dropN : ∀ (n : Nat) (x : St) (y : List Ent), x.length = n → y.length = n → Conf K B (x ++ u) F H (y ++ g) → Conf K B u F H g := by
      intro n
      induction n with
      | zero => intro x y hx hy c; cases x <;> cases y <;> simp_all
      | succ n ih =>
        intro x y hx hy c
        cases x with
        | nil => simp at hx
        | cons a x => cases y with
          | nil => simp at hy
          | cons b y => exact ih x y (by simpa using hx) (by simpa using hy) c.pop
    exact dropN _ _ _ rfl hl2.symm c
/-- arguments, all of them frozen -/
def JD (X : Cx) (B : Bs) (es : List Expr) (G : List Ent) (Q : List D → List Ent → Prop) : Prop := JA X B es G fun as G' => ∃ ds : List D, as = List.map Arg.v ds ∧ Q ds G'
theorem runD {Q : List D → List Ent → Prop} (h : JD X B es G Q) {t s : St} {z : List Ent} {F H : Hp} {AQ : List V → Hp → Prop} (hl : t.length = z.length) (c : Conf X.K B (t ++ s) F H (z ++ G))
    (q : ∀ vs ds F' H' G', DPs X.K F' vs ds → Conf X.K B (t ++ s) F' H' (z ++ G') → Q ds G' → AQ vs H') : tAr X es s H AQ :=
  h t s z F H _ hl c fun vs as F' H' G' c' ab ⟨ds, e, hq⟩ => by
    subst e
    obtain ⟨h1, h2⟩ := args_dp (by have := ab.length; simpa using this) c'
    exact q vs ds F' H' G' h1 h2 hq
theorem JD.nil {Q : List D → List Ent → Prop} (h : Q [] G) : JD X B [] G Q := JA.nil ⟨[], rfl, h⟩
theorem JA.imp {Q Q' : List Arg → List Ent → Prop} (h : JA X B es G Q) (i : ∀ d G', Q d G' → Q' d G') : JA X B es G Q' := fun t s z F H VQ hl c k =>
  h t s z F H VQ hl c fun vs as F' H' G' c' ab q => k vs as F' H' G' c' ab (i as G' q)
theorem JD.cons {Q : List D → List Ent → Prop} (h : JV X B e G fun d G1 => JD X B es G1 fun ds G2 => Q (d :: ds) G2) (hs : starEach (e :: es) X.env = (false, eval e X.env) :: starEach es X.env := by rfl) : JD X B (e :: es) G Q :=
  JA.cons (JV.imp h fun d G1 h => JA.imp h fun as G2 ⟨ds, e, q⟩ => ⟨d :: ds, by rw [e]; rfl, q⟩) hs

/-! ### displays -/
theorem jv_tup {x1} {Q : D → List Ent → Prop} (h : JD X B es G fun ds G' => ds.length ≤ sizeLine ∧ Q (.tup ds) G') : JV X B (.Tuple es x1 pos) G Q := fun t s z F H VQ hl c q =>
  tS_of (pe_tup pa_sem) (runD h hl c fun vs ds F' H' G' dp c' ⟨hz, hq⟩ => ⟨by rw [dp.length]; exact hz, fun p np => by
    exact q (.ref p) _ _ _ G' (c'.newT np dp) hq⟩)
theorem je_lst {Q : Ent → List Ent → Prop} (h : JD X B es G fun ds G' => ds.length ≤ sizeLine ∧ Q (.ow (.lst ds)) G') : JE X B (.List es pos) G Q := fun t s z F H VQ hl c q =>
  tS_of (pe_lst pa_sem) (runD h hl c fun vs ds F' H' G' dp c' ⟨hz, hq⟩ => ⟨by rw [dp.length]; exact hz, fun p np =>
    q (.ref p) F' _ _ G' (c'.newL np dp) trivial hq⟩)
/-! ### places -/
theorem atI_paired {α β : Type} {R : α → β → Prop} {l : List α} {m : List β} (h : Paired R l m) {i : Int} {v : β} (e : atI m i = some v) : ∃ u, atI l i = some u ∧ R u v := by
  unfold atI at e ⊢
  rw [h.length]
  cases q : ixN m.length i with
  | none => rw [q] at e; cases e
  | some j =>
    rw [q] at e
    obtain ⟨u, h1, h2⟩ := pget h e
    exact ⟨u, h1, h2⟩
inductive SeqD (ds : List D) : D → Prop
  | lst : SeqD ds (.lst ds)
  | tup : SeqD ds (.tup ds)
  | kls : SeqD ds (.kls ds)
  | tp : SeqD ds (.tp ds)
theorem jv_ix {Q : D → List Ent → Prop} (h : JV X B a G fun d1 G1 => JV X B b G1 fun d2 G2 => ∃ ds i d, SeqD ds d1 ∧ d2 = .int i ∧ atI ds i = some d ∧ Q d G2) (hs : PlainIx b := by exact fun _ _ => rfl) : JV X B (.Subscript a b pos) G Q := fun t s z F H VQ hl c q =>
  tS_of (pe_ix ix_seq pe_sem pe_sem hs) (run2 h hl c fun v u F' H' d1 d2 G' c' ⟨ds, i, d, sd, e, ha, hq⟩ => by
    subst e
    cases c'.top
    have dp := c'.pop.top
    have sm := c'.fh
    cases sd with
    | lst => cases dp with
      | lst h1 h2 =>
        obtain ⟨y, h3, h4⟩ := atI_paired h2 ha
        exact .inl ⟨_, _, i, y, rfl, rfl, .of (sm _ _ h1), h3, q y F' H' d G' (c'.pop.pop.fz h4) hq⟩
    | tup => cases dp with
      | tup h1 h2 =>
        obtain ⟨y, h3, h4⟩ := atI_paired h2 ha
        exact .inr (.inl ⟨_, _, i, y, rfl, rfl, sameT sm h1, h3, q y F' H' d G' (c'.pop.pop.fz h4) hq⟩)
    | kls => cases dp with
      | kls h1 h2 =>
        obtain ⟨y, h3, h4⟩ := atI_paired h2 ha
        exact .inl ⟨_, _, i, y, rfl, rfl, sm.seq h1, h3, q y F' H' d G' (c'.pop.pop.fz h4) hq⟩
    | tp => cases dp with
      | tp h1 h2 =>
        obtain ⟨y, h3, h4⟩ := atI_paired h2 ha
        exact .inr (.inl ⟨_, _, i, y, rfl, rfl, .inl (.inl (sm _ _ h1)), h3, q y F' H' d G' (c'.pop.pop.fz h4) hq⟩))
/-- xs[i], xs an owned list at a slot -/
theorem jv_ixO (cj : CJ P w K mg base S k X B E) (i : Nat) {xp : Pos} {Q : D → List Ent → Prop} (h : JV X B b G fun d2 G2 => ∃ ds j d, entOw G2[i]? = some (.lst ds) ∧ d2 = .int j ∧ atI ds j = some d ∧ Q d G2) (hN : S.N[i]? = some x := by rfl) (hv : i ∈ S.vi := by decide) (hg : (entOw G[i]?).isSome = true := by rfl) (hs : PlainIx b := by exact fun _ _ => rfl) :
    JV X B (.Subscript (.Name x xp) b pos) G Q := fun t s z F H VQ hl c q => by
  have hn := okName_of (Sc.vis cj.ok hv hN).1
  refine tS_of (pe_ix ix_list (pe_var (cj.xN hN) (cj.vis hv hN) hn.1 hn.2.1) pe_sem hs) ?_
  obtain ⟨o, ho⟩ := Option.isSome_iff_exists.mp hg
  obtain ⟨y, e1, _⟩ := c.slot hl ho
  refine ⟨.ref y, e1, h t s z F H _ hl c fun u F' H' d2 G2 c2 ⟨ds, j, d, h1, h2, h3, h4⟩ => ?_⟩
  subst h2
  cases c2.top
  obtain ⟨y', e1', ⟨xs, o1, o2⟩, _⟩ := c2.pop.slot hl h1
  rw [e1] at e1'
  cases e1'
  obtain ⟨v, h5, h6⟩ := atI_paired o2 h3
  exact ⟨y, xs, j, v, rfl, rfl, .of o1, h5, q v F' H' d G2 (c2.pop.fz h6) h4⟩
/-! ### fields of an instance -/
theorem lookup_paired {K : PySem.W.Frag} {F : Hp} {f : Str} {d : D} : ∀ {fs : List (Str × V)} {ns : List Str} {ds : List D}, ns = fs.map (·.1) → DPs K F (fs.map (·.2)) ds → (ns.zip ds).lookup f = some d → ∃ v, fs.lookup f = some v ∧ DP K F v d
  | [], ns, ds, e, h, q => by subst e; cases h; simp at q
  | (g, v) :: fs, ns, ds, e, h, q => by
    subst e
    cases h with
    | cons r t =>
      rw [List.map_cons, List.zip_cons_cons, List.lookup_cons] at q
      rw [List.lookup_cons]
      cases hb : f == g with
      | true =>
        rw [hb] at q
        simp at q
        subst q
        exact ⟨v, rfl, r⟩
      | false =>
        rw [hb] at q
        exact lookup_paired rfl t q
theorem jv_fld {f : Str} {Q : D → List Ent → Prop} (h : JV X B e G fun d1 G1 => ∃ C ns ds d, d1 = .ins C ns ds ∧ Cls X.K C ∧ NoAttr X.K C f ∧ (ns.zip ds).lookup f = some d ∧ Q d G1) (hb : attributeBase e f X.env (eval e X.env) = eval e X.env := by rfl) : JV X B (.Attribute e f pos) G Q := fun t s z F H VQ hl c q =>
  tS_of (pe_fld pe_sem hb) (h t s z F H _ hl c fun v F' H' d G' c' ⟨C, ns, ds, d2, e1, cl, na, lk, hq⟩ => by
    subst e1
    have sm := c'.fh
    cases c'.top with
    | ins h1 h2 h3 h4 =>
      obtain ⟨y, h5, h6⟩ := lookup_paired h3 h4 lk
      exact ⟨_, C, _, _, y, rfl, sm _ _ h1, cl, na, h5, q y F' H' d2 G' (c'.pop.fz h6) hq⟩)
/-! ### x + y -/
theorem je_cat {Q : Ent → List Ent → Prop} (h : JV X B a G fun d1 G1 => JV X B b G1 fun d2 G2 => ∃ ds es, d1 = .lst ds ∧ d2 = .lst es ∧ ds.length + es.length ≤ sizeLine ∧ Q (.ow (.lst (ds ++ es))) G2) : JE X B (.BinOp a .Add b pos) G Q := fun t s z F H VQ hl c q =>
  tS_of (pe_op op_cat pe_sem pe_sem) (run2 h hl c fun v u F' H' d1 d2 G' c' ⟨ds, es, e1, e2, hz, hq⟩ => by
    subst e1 e2
    have sm := c'.fh
    cases c'.top with
    | lst h1 h2 => cases c'.pop.top with
      | lst h3 h4 =>
        refine ⟨_, _, _, _, rfl, rfl, sm _ _ h3, sm _ _ h1, by rw [h4.length, h2.length]; exact hz, fun p np => ?_⟩
        exact q (.ref p) F' _ _ G' (c'.pop.pop.newL np (papp h4 h2)) trivial hq)
theorem jv_catT {Q : D → List Ent → Prop} (h : JV X B a G fun d1 G1 => JV X B b G1 fun d2 G2 => ∃ ds es, d1 = .tup ds ∧ d2 = .tup es ∧ ds.length + es.length ≤ sizeLine ∧ Q (.tup (ds ++ es)) G2) : JV X B (.BinOp a .Add b pos) G Q := fun t s z F H VQ hl c q =>
  tS_of (pe_op op_catA pe_sem pe_sem) (run2 h hl c fun v u F' H' d1 d2 G' c' ⟨ds, es, e1, e2, hz, hq⟩ => by
    subst e1 e2
    have sm := c'.fh
    cases c'.top with
    | tup h1 h2 => cases c'.pop.top with
      | tup h3 h4 =>
        refine ⟨_, _, _, _, rfl, rfl, sameT sm h3, sameT sm h1, by rw [h4.length, h2.length]; exact hz, fun ex => ?_, fun _ ey => ?_, fun _ _ p np => ?_⟩
        · subst ex
          cases h4
          exact q _ F' H' _ G' (c'.pop.pop.fz (.tup h1 h2)) hq
        · subst ey
          cases h2
          rw [List.append_nil] at hq
          exact q _ F' H' _ G' (c'.pop.pop.fz (.tup h3 h4)) hq
        · exact q (.ref p) _ _ _ G' (c'.pop.pop.newT np (papp h4 h2)) hq)
theorem je_rep {Q : Ent → List Ent → Prop} (h : JV X B a G fun d1 G1 => JV X B b G1 fun d2 G2 => ∃ ds n, d1 = .lst ds ∧ d2 = .int n ∧ -(2 ^ 63) ≤ n ∧ n < 2 ^ 63 ∧ ds.length * n.toNat ≤ sizeLine ∧ Q (.ow (.lst (List.replicate n.toNat ds).flatten)) G2) : JE X B (.BinOp a .Mult b pos) G Q := fun t s z F H VQ hl c q =>
  tS_of (pe_op op_rep pe_sem pe_sem) (run2 h hl c fun v u F' H' d1 d2 G' c' ⟨ds, n, e1, e2, h1, h2, hz, hq⟩ => by
    subst e1 e2
    have sm := c'.fh
    cases c'.top
    cases c'.pop.top with
    | lst h3 h4 =>
      refine ⟨_, n, _, rfl, rfl, sm _ _ h3, h1, h2, by rw [h4.length]; exact hz, fun p np => ?_⟩
      exact q (.ref p) F' _ _ G' (c'.pop.pop.newL np (pflat (prep h4 _))) trivial hq)
/-! ### slices -/
/-- an end of a slice -/
def JO (X : Cx) (B : Bs) (o : Option Expr) (G : List Ent) (Q : Option Int → List Ent → Prop) : Prop :=
  match o with
  | none => Q none G
  | some e => JV X B e G fun d G' => ∃ i, d = .int i ∧ Q (some i) G'
def tOs (X : Cx) : Option Expr → TO
  | none => tNoPart
  | some e => tPart (tS X e)
theorem po_sem (o : Option Expr) : PO X o (tOs X o) := by
  cases o with
  | none => exact po_none
  | some e => exact po_some pe_sem
theorem runO {o : Option Expr} {Q : Option Int → List Ent → Prop} (h : JO X B o G Q) {t s : St} {z : List Ent} {F H : Hp} {OQ : Option Int → Hp → Prop} (hl : t.length = z.length) (c : Conf X.K B (t ++ s) F H (z ++ G))
    (q : ∀ i F' H' G', Conf X.K B (t ++ s) F' H' (z ++ G') → Q i G' → OQ i H') : tOs X o s H OQ := by
  cases o with
  | none => exact q none F H G c h
  | some e =>
    have h : JV X B e G fun d G' => ∃ i, d = .int i ∧ Q (some i) G' := h
    exact h t s z F H _ hl c fun v F' H' d G' c' ⟨i, e, hq⟩ => by
      subst e
      cases c'.top
      exact ⟨i, rfl, q (some i) F' H' G' c'.pop hq⟩
def cutD (xs : List D) (lo hi : Option Int) : List D := (xs.drop (HT.sIx xs.length 0 lo)).take (HT.sIx xs.length xs.length hi - HT.sIx xs.length 0 lo)
theorem cut_paired {R : V → D → Prop} {l : List V} {m : List D} (h : Paired R l m) (lo hi : Option Int) : Paired R (cutV l lo hi) (cutD m lo hi) := by
  unfold cutV cutD
  rw [h.length]
  exact ptake _ (pdrop _ h)
theorem je_slice {lo hi : Option Expr} {p2 : Pos} {Q : Ent → List Ent → Prop} (h : JV X B e G fun d G1 => JO X B lo G1 fun i G2 => JO X B hi G2 fun j G3 => ∃ ds, (d = .lst ds ∨ d = .kls ds) ∧ Q (.ow (.lst (cutD ds i j))) G3) : JE X B (.Subscript e (.Slice lo hi none p2) pos) G Q := fun t s z F H VQ hl c q =>
  tS_of (pe_slice sl_list pe_sem (po_sem lo) (po_sem hi)) (h t s z F H _ hl c fun v F1 H1 d G1 c1 h1 => runO h1 (t := some v :: t) (z := .fz d :: z) (by simp [hl]) c1 fun i F2 H2 G2 c2 h2 => runO h2 (t := some v :: t) (z := .fz d :: z) (by simp [hl]) c2 fun j F3 H3 G3 c3 ⟨ds, e, hq⟩ => by
    have sm := c3.fh
    rcases e with e | e
    · subst e
      cases c3.top with
      | lst h3 h4 => exact ⟨_, _, rfl, .of (sm _ _ h3), fun p np => q (.ref p) F3 _ _ G3 (c3.pop.newL np (cut_paired h4 i j)) trivial hq⟩
    · subst e
      cases c3.top with
      | kls h3 h4 => exact ⟨_, _, rfl, sm.seq h3, fun p np => q (.ref p) F3 _ _ G3 (c3.pop.newL np (cut_paired h4 i j)) trivial hq⟩)
theorem cut_whole {xs : List D} {lo hi : Option Int} (h : HT.sIx xs.length 0 lo = 0 ∧ HT.sIx xs.length xs.length hi = xs.length) : cutD xs lo hi = xs := by
  unfold cutD
  rw [h.1, h.2]
  simp
theorem jv_sliceT {lo hi : Option Expr} {p2 : Pos} {Q : D → List Ent → Prop} (h : JV X B e G fun d G1 => JO X B lo G1 fun i G2 => JO X B hi G2 fun j G3 => ∃ ds, d = .tup ds ∧ Q (.tup (cutD ds i j)) G3) : JV X B (.Subscript e (.Slice lo hi none p2) pos) G Q := fun t s z F H VQ hl c q =>
  tS_of (pe_slice sl_tupA pe_sem (po_sem lo) (po_sem hi)) (h t s z F H _ hl c fun v F1 H1 d G1 c1 h1 => runO h1 (t := some v :: t) (z := .fz d :: z) (by simp [hl]) c1 fun i F2 H2 G2 c2 h2 => runO h2 (t := some v :: t) (z := .fz d :: z) (by simp [hl]) c2 fun j F3 H3 G3 c3 ⟨ds, e, hq⟩ => by
    subst e
    have sm := c3.fh
    cases c3.top with
    | tup h3 h4 =>
      refine ⟨_, _, rfl, sameT sm h3, fun hw => ?_, fun _ p np => ?_⟩
      · rw [h4.length] at hw
        rw [cut_whole hw] at hq
        exact q _ F3 H3 _ G3 (c3.pop.fz (.tup h3 h4)) hq
      · exact q (.ref p) _ _ _ G3 (c3.pop.newT np (cut_paired h4 i j)) hq)
end
end J

namespace J
open PySem PySem.Spec L2

/-! ## sorted lists of ints -/
def insI (x : Int) : List Int → List Int
  | [] => [x]
  | y :: r => if x ≤ y then x :: y :: r else y :: insI x r
def isort : List Int → List Int
  | [] => []
  | x :: r => insI x (isort r)
theorem insI_perm (x : Int) : ∀ l : List Int, (insI x l).Perm (x :: l)
  | [] => List.Perm.refl _
  | y :: r => by
    unfold insI
    split
    · exact List.Perm.refl _
    · exact ((insI_perm x r).cons y).trans (List.Perm.swap x y r)
theorem isort_perm : ∀ l : List Int, (isort l).Perm l
  | [] => List.Perm.refl _
  | x :: r => (insI_perm x (isort r)).trans ((isort_perm r).cons x)
theorem insI_sorted (x : Int) : ∀ l : List Int, l.Pairwise (· ≤ ·) → (insI x l).Pairwise (· ≤ ·)
  | [], _ => by simp [insI]
  | y :: r, h => by
    obtain ⟨h1, h2⟩ := List.pairwise_cons.mp h
    unfold insI
    split
    · rename_i hx
      exact List.pairwise_cons.mpr ⟨fun z hz => by
        rcases List.mem_cons.mp hz with e | hz
        · subst e; exact hx
        · exact Int.le_trans hx (h1 z hz), h⟩
    · rename_i hx
      refine List.pairwise_cons.mpr ⟨fun z hz => ?_, insI_sorted x r h2⟩
      rcases List.mem_cons.mp ((insI_perm x r).mem_iff.mp hz) with e | hz
      · subst e; omega
      · exact h1 z hz
theorem isort_sorted : ∀ l : List Int, (isort l).Pairwise (· ≤ ·)
  | [] => List.Pairwise.nil
  | x :: r => insI_sorted x _ (isort_sorted r)
theorem sorted_unique : ∀ {l m : List Int}, l.Perm m → l.Pairwise (· ≤ ·) → m.Pairwise (· ≤ ·) → l = m
  | [], m, p, _, _ => by have := p.length_eq; cases m with
    | nil => rfl
    | cons _ _ => simp at this
  | x :: l, [], p, _, _ => by have := p.length_eq; simp at this
  | x :: l, y :: m, p, h1, h2 => by
    obtain ⟨a1, a2⟩ := List.pairwise_cons.mp h1
    obtain ⟨b1, b2⟩ := List.pairwise_cons.mp h2
    have e : x = y := by
      have hx : x ∈ y :: m := p.mem_iff.mp List.mem_cons_self
      have hy : y ∈ x :: l := p.mem_iff.mpr List.mem_cons_self
      rcases List.mem_cons.mp hx with e | hx
      · exact e
      · rcases List.mem_cons.mp hy with e | hy
        · exact e.symm
        · have := b1 x hx
          have := a1 y hy
          omega
    subst e
    rw [sorted_unique (p.cons_inv) a2 b2]
theorem isort_of {l m : List Int} (p : l.Perm m) (h : l.Pairwise (· ≤ ·)) : l = isort m := sorted_unique (p.trans (isort_perm m).symm) h (isort_sorted m)
theorem isort_self {l : List Int} (h : l.Pairwise (· ≤ ·)) : isort l = l := (isort_of (List.Perm.refl l) h).symm

theorem ints_of_dps {K : PySem.W.Frag} {F : Hp} : ∀ {xs : List V} {ns : List Int}, DPs K F xs (ns.map D.int) → xs = ns.map V.int
  | _, [], h => by cases h; rfl
  | _, n :: ns, h => by
    cases h with
    | cons r t =>
      cases r
      rw [ints_of_dps t]; rfl
theorem dps_ints {K : PySem.W.Frag} {F : Hp} : ∀ (ns : List Int), DPs K F (ns.map V.int) (ns.map D.int)
  | [] => .nil
  | n :: ns => .cons (.int n) (dps_ints ns)

section
variable {P : Program} {w : World} {K : PySem.W.Frag} {mg : Str → Option Value} {base : Heap} {S : Sc} {k : Nat} {X : Cx} {B : Bs} {E : XW} {G : List Ent} {a b e o : Expr} {es : List Expr} {pos p apos : Pos} {x : Str}

/-! ### built-in functions -/
theorem CJ.mgx (cj : CJ P w K mg base S k X B E) {u : Option Value} (hm : mg x = u) : X.mg x = u := by rw [cj.hmg]; exact hm
/-- one that gives a scalar -/
theorem jv_callB (cj : CJ P w K mg base S k X B E) (j : Nat) {id : String} {r : List V → Hp → VK → Prop} {Q : D → List Ent → Prop} (hc : CallR X (.builtin id) r) (hm : mg x = none) (hv : bootBuiltins x = some (.builtin id))
    (h : JD X B (e :: es) G fun ds G' => ∃ v d, Sca v d ∧ (∀ vs H VQ, DPs X.K H vs ds → VQ v H → r vs H VQ) ∧ Q d G') (hj : S.gl[j]? = some x := by rfl)
    (he : starEach (e :: es) X.env = (false, eval e X.env) :: starEach es X.env := by rfl) (hpl : (backTo pos (starEach es X.env)).any (·.1) = false := by rfl) : JV X B (.Call (.Name x p) (e :: es) [] pos) G Q := fun t s z F H VQ hl c q =>
  tS_of (pe_callB hc (cj.gl hj) (cj.mgx hm) hv pa_sem (cj.nnm hj) (cj.dbg hj) he hpl) (runD h hl c fun vs ds F' H' G' dp c' ⟨v, d, sc, hr, hq⟩ => hr vs H' VQ (DP.monoL c'.fh _ _ dp) (q v F' H' d G' (c'.fz sc.dp) hq))
theorem jv_callTy (cj : CJ P w K mg base S k X B E) (j : Nat) {T : String} {r : List V → Hp → VK → Prop} {Q : D → List Ent → Prop} (hc : CallR X (.type T) r) (hm : mg x = none) (hv : bootBuiltins x = some (.type T))
    (h : JD X B (e :: es) G fun ds G' => ∃ v d, Sca v d ∧ (∀ vs H VQ, DPs X.K H vs ds → VQ v H → r vs H VQ) ∧ Q d G') (hj : S.gl[j]? = some x := by rfl)
    (he : starEach (e :: es) X.env = (false, eval e X.env) :: starEach es X.env := by rfl) (hpl : (backTo pos (starEach es X.env)).any (·.1) = false := by rfl) : JV X B (.Call (.Name x p) (e :: es) [] pos) G Q := fun t s z F H VQ hl c q =>
  tS_of (pe_callTy hc (cj.gl hj) (cj.mgx hm) hv pa_sem (cj.nnm hj) (cj.dbg hj) he hpl) (runD h hl c fun vs ds F' H' G' dp c' ⟨v, d, sc, hr, hq⟩ => hr vs H' VQ (DP.monoL c'.fh _ _ dp) (q v F' H' d G' (c'.fz sc.dp) hq))
/-- len of what is frozen -/
theorem jv_len (cj : CJ P w K mg base S k X B E) (j : Nat) {Q : D → List Ent → Prop} (hm : mg "len" = none) (h : JV X B e G fun d G' => ∃ ds, SeqD ds d ∧ Q (.int ds.length) G') (hj : S.gl[j]? = some "len" := by rfl)
    (he : starEach [e] X.env = (false, eval e X.env) :: starEach [] X.env := by rfl) (hpl : (backTo pos (starEach [] X.env)).any (·.1) = false := by rfl) : JV X B (.Call (.Name "len" p) [e] [] pos) G Q :=
  jv_callB cj j call_len hm PySem.boot_len (JD.cons (JV.imp h fun d G' ⟨ds, sd, q⟩ => JD.nil ⟨_, _, .int ds.length, fun vs H VQ dp hq => by
    cases dp with
    | cons r t =>
      cases t
      cases sd with
      | lst => cases r with
        | lst h1 h2 => exact ⟨_, _, rfl, .inl ⟨_, .of h1, by rw [h2.length]⟩, hq⟩
      | tup => cases r with
        | tup h1 h2 => exact ⟨_, _, rfl, .inr ⟨_, h1, by rw [h2.length]⟩, hq⟩
      | kls => cases r with
        | kls h1 h2 => exact ⟨_, _, rfl, .inl ⟨_, h1, by rw [h2.length]⟩, hq⟩
      | tp => cases r with
        | tp h1 h2 => exact ⟨_, _, rfl, .inr ⟨_, .inl (.inl h1), by rw [h2.length]⟩, hq⟩, q⟩) he) hj he hpl
theorem jv_lenS (cj : CJ P w K mg base S k X B E) (j : Nat) {Q : D → List Ent → Prop} (hm : mg "len" = none) (h : JV X B e G fun d G' => ∃ y, d = .str y ∧ y.length ≤ sizeLine ∧ Q (.int y.length) G') (hj : S.gl[j]? = some "len" := by rfl)
    (he : starEach [e] X.env = (false, eval e X.env) :: starEach [] X.env := by rfl) (hpl : (backTo pos (starEach [] X.env)).any (·.1) = false := by rfl) : JV X B (.Call (.Name "len" p) [e] [] pos) G Q :=
  jv_callB cj j call_len_str hm PySem.boot_len (JD.cons (JV.imp h fun d G' ⟨y, sd, hz, q⟩ => JD.nil ⟨_, _, .int y.length, fun vs H VQ dp hq => by
    subst sd
    cases dp with
    | cons r t =>
      cases t
      cases r
      exact ⟨_, rfl, hz, hq⟩, q⟩) he) hj he hpl
/-- len of an owned list at a slot -/
theorem jv_lenO (cj : CJ P w K mg base S k X B E) (j i : Nat) {ds : List D} {xp : Pos} {Q : D → List Ent → Prop} (hm : mg "len" = none) (h : Q (.int ds.length) G) (hg : entOw G[i]? = some (.lst ds) := by rfl) (hj : S.gl[j]? = some "len" := by rfl) (hN : S.N[i]? = some x := by rfl) (hv : i ∈ S.vi := by decide)
    (he : starEach [.Name x xp] X.env = (false, eval (.Name x xp) X.env) :: starEach [] X.env := by rfl) (hpl : (backTo pos (starEach [] X.env)).any (·.1) = false := by rfl) : JV X B (.Call (.Name "len" p) [.Name x xp] [] pos) G Q := fun t s z F H VQ hl c q => by
  have hn := okName_of (Sc.vis cj.ok hv hN).1
  obtain ⟨y, e1, ⟨xs, h1, h2⟩, _⟩ := c.slot hl hg
  refine tS_of (pe_callB call_len (cj.gl hj) (cj.mgx hm) PySem.boot_len (pa_cons (pe_var (cj.xN hN) (cj.vis hv hN) hn.1 hn.2.1) pa_nil he) (cj.nnm hj) (cj.dbg hj) he hpl) ?_
  exact ⟨.ref y, e1, _, _, rfl, .inl ⟨_, .of h1, by rw [h2.length]⟩, q _ F H _ G (c.fz (.int _)) h⟩
theorem jv_abs (cj : CJ P w K mg base S k X B E) (j : Nat) {Q : D → List Ent → Prop} (hm : mg "abs" = none) (h : JV X B e G fun d G' => ∃ i, d = .int i ∧ Q (.int (if i < 0 then -i else i)) G') (hj : S.gl[j]? = some "abs" := by rfl)
    (he : starEach [e] X.env = (false, eval e X.env) :: starEach [] X.env := by rfl) (hpl : (backTo pos (starEach [] X.env)).any (·.1) = false := by rfl) : JV X B (.Call (.Name "abs" p) [e] [] pos) G Q :=
  jv_callB cj j call_abs hm (by decide +kernel) (JD.cons (JV.imp h fun d G' ⟨i, ed, q⟩ => JD.nil ⟨_, _, .int _, fun vs H VQ dp hq => by
    subst ed
    cases dp with
    | cons r t => cases t; cases r; exact ⟨i, rfl, hq⟩, q⟩) he) hj he hpl
theorem jv_max2 (cj : CJ P w K mg base S k X B E) (j : Nat) {Q : D → List Ent → Prop} (hm : mg "max" = none) (h : JV X B a G fun d1 G1 => JV X B b G1 fun d2 G2 => ∃ m n, d1 = .int m ∧ d2 = .int n ∧ Q (.int (if n > m then n else m)) G2) (hj : S.gl[j]? = some "max" := by rfl)
    (he : starEach [a, b] X.env = (false, eval a X.env) :: starEach [b] X.env := by rfl) (he2 : starEach [b] X.env = (false, eval b X.env) :: starEach [] X.env := by rfl) (hpl : (backTo pos (starEach [b] X.env)).any (·.1) = false := by rfl) : JV X B (.Call (.Name "max" p) [a, b] [] pos) G Q :=
  jv_callB cj j (call_max2 cj.calm) hm (by decide +kernel) (JD.cons (JV.imp h fun d1 G1 h => JD.cons (JV.imp h fun d2 G2 ⟨m, n, e1, e2, q⟩ => JD.nil ⟨_, _, .int _, fun vs H VQ dp hq => by
    subst e1 e2
    cases dp with
    | cons r t => cases t with
      | cons r2 t => cases t; cases r; cases r2; exact ⟨m, n, rfl, hq⟩, q⟩) he2) he) hj he hpl
theorem jv_min2 (cj : CJ P w K mg base S k X B E) (j : Nat) {Q : D → List Ent → Prop} (hm : mg "min" = none) (h : JV X B a G fun d1 G1 => JV X B b G1 fun d2 G2 => ∃ m n, d1 = .int m ∧ d2 = .int n ∧ Q (.int (if n < m then n else m)) G2) (hj : S.gl[j]? = some "min" := by rfl)
    (he : starEach [a, b] X.env = (false, eval a X.env) :: starEach [b] X.env := by rfl) (he2 : starEach [b] X.env = (false, eval b X.env) :: starEach [] X.env := by rfl) (hpl : (backTo pos (starEach [b] X.env)).any (·.1) = false := by rfl) : JV X B (.Call (.Name "min" p) [a, b] [] pos) G Q :=
  jv_callB cj j (call_min2 cj.calm) hm (by decide +kernel) (JD.cons (JV.imp h fun d1 G1 h => JD.cons (JV.imp h fun d2 G2 ⟨m, n, e1, e2, q⟩ => JD.nil ⟨_, _, .int _, fun vs H VQ dp hq => by
    subst e1 e2
    cases dp with
    | cons r t => cases t with
      | cons r2 t => cases t; cases r; cases r2; exact ⟨m, n, rfl, hq⟩, q⟩) he2) he) hj he hpl
/-- int of a bool -/
theorem jv_intB (cj : CJ P w K mg base S k X B E) (j : Nat) {Q : D → List Ent → Prop} (hm : mg "int" = none) (h : JV X B e G fun d G' => ∃ y, d = .bl y ∧ Q (.int (if y then 1 else 0)) G') (hj : S.gl[j]? = some "int" := by rfl)
    (he : starEach [e] X.env = (false, eval e X.env) :: starEach [] X.env := by rfl) (hpl : (backTo pos (starEach [] X.env)).any (·.1) = false := by rfl) : JV X B (.Call (.Name "int" p) [e] [] pos) G Q :=
  jv_callTy cj j call_int1 hm (by decide +kernel) (JD.cons (JV.imp h fun d G' ⟨i, ed, q⟩ => JD.nil ⟨_, _, .int _, fun vs H VQ dp hq => by
    subst ed
    cases dp with
    | cons r t => cases t; cases r; exact .inr ⟨i, rfl, hq⟩, q⟩) he) hj he hpl
theorem jv_strI (cj : CJ P w K mg base S k X B E) (j : Nat) {Q : D → List Ent → Prop} (hm : mg "str" = none) (h : JV X B e G fun d G' => ∃ i, d = .int i ∧ i.natAbs.log2 < 1920 ∧ Q (.str (toString i)) G') (hj : S.gl[j]? = some "str" := by rfl)
    (he : starEach [e] X.env = (false, eval e X.env) :: starEach [] X.env := by rfl) (hpl : (backTo pos (starEach [] X.env)).any (·.1) = false := by rfl) : JV X B (.Call (.Name "str" p) [e] [] pos) G Q :=
  jv_callTy cj j call_str_int hm (by decide +kernel) (JD.cons (JV.imp h fun d G' ⟨i, ed, hz, q⟩ => JD.nil ⟨_, _, .str _, fun vs H VQ dp hq => by
    subst ed
    cases dp with
    | cons r t => cases t; cases r; exact ⟨i, rfl, hz, hq⟩, q⟩) he) hj he hpl
theorem jv_sum (cj : CJ P w K mg base S k X B E) (j : Nat) {Q : D → List Ent → Prop} (hm : mg "sum" = none) (h : JV X B e G fun d G' => ∃ ns : List Int, d = .lst (ns.map .int) ∧ Q (.int ns.sum) G') (hj : S.gl[j]? = some "sum" := by rfl)
    (he : starEach [e] X.env = (false, eval e X.env) :: starEach [] X.env := by rfl) (hpl : (backTo pos (starEach [] X.env)).any (·.1) = false := by rfl) : JV X B (.Call (.Name "sum" p) [e] [] pos) G Q :=
  jv_callB cj j (cr_sum cj.calm) hm (by decide +kernel) (JD.cons (JV.imp h fun d G' ⟨ns, ed, q⟩ => JD.nil ⟨_, _, .int _, fun vs H VQ dp hq => by
    subst ed
    cases dp with
    | cons r t =>
      cases t
      cases r with
      | lst h1 h2 =>
        rw [ints_of_dps h2] at h1
        exact ⟨_, ns, rfl, .of h1, hq⟩, q⟩) he) hj he hpl
/-- min, max of a list of ints -/
theorem jv_minL (cj : CJ P w K mg base S k X B E) (j : Nat) {Q : D → List Ent → Prop} (hm : mg "min" = none) (h : JV X B e G fun d G' => ∃ (ns : List Int) (m : Int), d = .lst (ns.map .int) ∧ m ∈ ns ∧ (∀ y ∈ ns, m ≤ y) ∧ Q (.int m) G') (hj : S.gl[j]? = some "min" := by rfl)
    (he : starEach [e] X.env = (false, eval e X.env) :: starEach [] X.env := by rfl) (hpl : (backTo pos (starEach [] X.env)).any (·.1) = false := by rfl) : JV X B (.Call (.Name "min" p) [e] [] pos) G Q :=
  jv_callB cj j (cr_min cj.calm) hm (by decide +kernel) (JD.cons (JV.imp h fun d G' ⟨ns, m, ed, h1, h2, q⟩ => JD.nil ⟨_, _, .int m, fun vs H VQ dp hq => by
    subst ed
    cases dp with
    | cons r t =>
      cases t
      cases r with
      | lst h3 h4 =>
        rw [ints_of_dps h4] at h3
        refine ⟨_, ns, rfl, .of h3, List.length_pos_of_mem h1, fun m' a1 a2 => ?_⟩
        have e1 := h2 m' a1
        have e2 := a2 m h1
        have : m' = m := by omega
        subst this; exact hq, q⟩) he) hj he hpl
/-! ### those that make a list -/
/-- sorted(list of ints) -/
theorem je_sorted (cj : CJ P w K mg base S k X B E) (j : Nat) {Q : Ent → List Ent → Prop} (hm : mg "sorted" = none) (h : JV X B e G fun d G' => ∃ ns : List Int, d = .lst (ns.map .int) ∧ ns.length < 64 ∧ Q (.ow (.lst ((isort ns).map .int))) G') (hj : S.gl[j]? = some "sorted" := by rfl)
    (he : starEach [e] X.env = (false, eval e X.env) :: starEach [] X.env := by rfl) (hpl : (backTo pos (starEach [] X.env)).any (·.1) = false := by rfl) : JE X B (.Call (.Name "sorted" p) [e] [] pos) G Q := fun t s z F H VQ hl c q =>
  tS_of (pe_callB cr_sorted (cj.gl hj) (cj.mgx hm) (by decide +kernel) (pa_cons pe_sem pa_nil he) (cj.nnm hj) (cj.dbg hj) he hpl) (h t s z F H _ hl c fun v F' H' d G' c' ⟨ns, ed, hz, hq⟩ => by
    subst ed
    have sm := c'.fh
    cases c'.top with
    | lst h1 h2 =>
      rw [ints_of_dps h2] at h1
      refine ⟨_, ns, rfl, .of (sm _ _ h1), hz, fun ns' p' pm st np => ?_⟩
      rw [isort_of pm st]
      exact q _ F' _ _ G' (c'.pop.newL np (dps_ints _)) trivial hq)
/-- list(x) of a list or a tuple -/
theorem je_listOf (cj : CJ P w K mg base S k X B E) (j : Nat) {Q : Ent → List Ent → Prop} (hm : mg "list" = none) (h : JV X B e G fun d G' => ∃ ds, SeqD ds d ∧ Q (.ow (.lst ds)) G') (hj : S.gl[j]? = some "list" := by rfl)
    (he : starEach [e] X.env = (false, eval e X.env) :: starEach [] X.env := by rfl) (hpl : (backTo pos (starEach [] X.env)).any (·.1) = false := by rfl) : JE X B (.Call (.Name "list" p) [e] [] pos) G Q := fun t s z F H VQ hl c q =>
  tS_of (pe_callTy call_list_of (cj.gl hj) (cj.mgx hm) (by decide +kernel) (pa_cons pe_sem pa_nil he) (cj.nnm hj) (cj.dbg hj) he hpl) (h t s z F H _ hl c fun v F' H' d G' c' ⟨ds, sd, hq⟩ => by
    have sm := c'.fh
    cases sd with
    | lst => cases c'.top with
      | lst h1 h2 => exact ⟨_, _, rfl, .inl (.of (sm _ _ h1)), fun p' np => q _ F' _ _ G' (c'.pop.newL np h2) trivial hq⟩
    | tup => cases c'.top with
      | tup h1 h2 => exact ⟨_, _, rfl, .inr (sameT sm h1), fun p' np => q _ F' _ _ G' (c'.pop.newL np h2) trivial hq⟩
    | kls => cases c'.top with
      | kls h1 h2 => exact ⟨_, _, rfl, .inl (sm.seq h1), fun p' np => q _ F' _ _ G' (c'.pop.newL np h2) trivial hq⟩
    | tp => cases c'.top with
      | tp h1 h2 => exact ⟨_, _, rfl, .inr (.inl (.inl (sm _ _ h1))), fun p' np => q _ F' _ _ G' (c'.pop.newL np h2) trivial hq⟩)
/-- list(x) of an owned list at a slot -/
theorem je_listO (cj : CJ P w K mg base S k X B E) (j i : Nat) {ds : List D} {xp : Pos} {Q : Ent → List Ent → Prop} (hm : mg "list" = none) (h : Q (.ow (.lst ds)) G) (hg : entOw G[i]? = some (.lst ds) := by rfl) (hj : S.gl[j]? = some "list" := by rfl) (hN : S.N[i]? = some x := by rfl) (hv : i ∈ S.vi := by decide)
    (he : starEach [.Name x xp] X.env = (false, eval (.Name x xp) X.env) :: starEach [] X.env := by rfl) (hpl : (backTo pos (starEach [] X.env)).any (·.1) = false := by rfl) : JE X B (.Call (.Name "list" p) [.Name x xp] [] pos) G Q := fun t s z F H VQ hl c q => by
  have hn := okName_of (Sc.vis cj.ok hv hN).1
  obtain ⟨y, e1, ⟨xs, h1, h2⟩, _⟩ := c.slot hl hg
  refine tS_of (pe_callTy call_list_of (cj.gl hj) (cj.mgx hm) (by decide +kernel) (pa_cons (pe_var (cj.xN hN) (cj.vis hv hN) hn.1 hn.2.1) pa_nil he) (cj.nnm hj) (cj.dbg hj) he hpl) ?_
  exact ⟨.ref y, e1, _, _, rfl, .inl (.of h1), fun p' np => q _ F _ _ G (c.newL np h2) trivial h⟩
/-- tuple(x) -/
theorem jv_tupleOf (cj : CJ P w K mg base S k X B E) (j : Nat) {Q : D → List Ent → Prop} (hm : mg "tuple" = none) (h : JV X B e G fun d G' => ∃ ds, SeqD ds d ∧ Q (.tup ds) G') (hj : S.gl[j]? = some "tuple" := by rfl)
    (he : starEach [e] X.env = (false, eval e X.env) :: starEach [] X.env := by rfl) (hpl : (backTo pos (starEach [] X.env)).any (·.1) = false := by rfl) : JV X B (.Call (.Name "tuple" p) [e] [] pos) G Q := fun t s z F H VQ hl c q =>
  tS_of (pe_callTy call_tuple_of (cj.gl hj) (cj.mgx hm) (by decide +kernel) (pa_cons pe_sem pa_nil he) (cj.nnm hj) (cj.dbg hj) he hpl) (h t s z F H _ hl c fun v F' H' d G' c' ⟨ds, sd, hq⟩ => by
    have sm := c'.fh
    cases sd with
    | lst => cases c'.top with
      | lst h1 h2 => exact ⟨_, _, rfl, .inl ⟨.of (sm _ _ h1), fun p' np => q _ _ _ _ G' (c'.pop.newT np h2) hq⟩⟩
    | tup => cases c'.top with
      | tup h1 h2 => exact ⟨_, _, rfl, .inr ⟨sameT sm h1, q _ F' H' _ G' (c'.pop.fz (.tup h1 h2)) hq⟩⟩
    | kls => cases c'.top with
      | kls h1 h2 => exact ⟨_, _, rfl, .inl ⟨sm.seq h1, fun p' np => q _ _ _ _ G' (c'.pop.newT np h2) hq⟩⟩
    | tp => cases c'.top with
      | tp h1 h2 => exact ⟨_, _, rfl, .inr ⟨.inl (.inl (sm _ _ h1)), q _ F' H' _ G' (c'.pop.fz (.tup (.inl (.inl h1)) h2)) hq⟩⟩)
/-- list(range(n)), tuple(range(n)) -/
def rgI (a b : Int) : List Int := (List.range (b - a).toNat).map fun i => a + (i : Nat)
theorem rgV_eq (a b : Int) : rgV a b = (rgI a b).map V.int := by unfold rgV rgI; rw [List.map_map]; rfl
theorem je_listRg (cj : CJ P w K mg base S k X B E) (j j2 : Nat) {p2 q2 : Pos} {Q : Ent → List Ent → Prop} (hm : mg "list" = none) (hm2 : mg "range" = none) (h : JV X B e G fun d G' => ∃ n : Int, d = .int n ∧ RgOk 0 n ∧ Q (.ow (.lst ((rgI 0 n).map .int))) G') (hj : S.gl[j]? = some "list" := by rfl) (hj2 : S.gl[j2]? = some "range" := by rfl)
    (na : starEach [e] X.env = (false, eval e X.env) :: starEach [] X.env := by rfl) : JE X B (.Call (.Name "list" p) [.Call (.Name "range" p2) [e] [] q2] [] pos) G Q := fun t s z F H VQ hl c q =>
  tS_of (pe_listRg cj.calm (cj.gl hj) (cj.mgx hm) (prg_1 (cj.gl hj2) (cj.mgx hm2) pe_sem na)) (h t s z F H _ hl c fun v F' H' d G' c' ⟨n, ed, hr, hq⟩ => by
    subst ed
    cases c'.top
    refine ⟨n, rfl, hr, fun p' np => ?_⟩
    rw [rgV_eq]
    exact q _ F' _ _ G' (c'.pop.newL np (dps_ints _)) trivial hq)
theorem jv_tupRg (cj : CJ P w K mg base S k X B E) (j j2 : Nat) {p2 q2 : Pos} {Q : D → List Ent → Prop} (hm : mg "tuple" = none) (hm2 : mg "range" = none) (h : JV X B e G fun d G' => ∃ n : Int, d = .int n ∧ RgOk 0 n ∧ Q (.tup ((rgI 0 n).map .int)) G') (hj : S.gl[j]? = some "tuple" := by rfl) (hj2 : S.gl[j2]? = some "range" := by rfl)
    (na : starEach [e] X.env = (false, eval e X.env) :: starEach [] X.env := by rfl) : JV X B (.Call (.Name "tuple" p) [.Call (.Name "range" p2) [e] [] q2] [] pos) G Q := fun t s z F H VQ hl c q =>
  tS_of (pe_tupRg cj.calm (cj.gl hj) (cj.mgx hm) (prg_1 (cj.gl hj2) (cj.mgx hm2) pe_sem na)) (h t s z F H _ hl c fun v F' H' d G' c' ⟨n, ed, hr, hq⟩ => by
    subst ed
    cases c'.top
    refine ⟨n, rfl, hr, fun p' np => ?_⟩
    rw [rgV_eq]
    exact q _ _ _ _ G' (c'.pop.newT np (dps_ints _)) hq)
/-! ### methods of owned lists -/
/-- xs.append(e) as a statement -/
theorem js_append (cj : CJ P w K mg base S k X B E) (i : Nat) {cp xp sp : Pos} {Dd : Dn} (h : JV X B e G fun d G' => ∃ ds, entOw G'[i]? = some (.lst ds) ∧ ds.length < sizeLine ∧ Dd.nx (setOw G' i (.lst (ds ++ [d])))) (hg : (entOw G[i]?).isSome = true := by rfl) (hN : S.N[i]? = some x := by rfl) (hv : i ∈ S.vi := by decide)
    (hls : ∃ ds, entOw G[i]? = some (.lst ds) := by exact ⟨_, rfl⟩)
    (hbase : attributeBase (.Name x xp) "append" X.env (eval (.Name x xp) X.env) = eval (.Name x xp) X.env := by rfl)
    (hfew : ((backTo cp (starEach [e] X.env)).all (fun x => !x.1) && (backToKw cp (keywordEach [] X.env)).all (fun x => x.1.isSome) && decide (([e] : List Expr).length + ([] : List Keyword).length + (if ([] : List Keyword).isEmpty then 0 else 1) < 30)) = true := by rfl)
    (hline : (apos.endLine == cp.line) = true := by rfl) (hs : starEach [e] X.env = (false, eval e X.env) :: starEach [] X.env := by rfl) (hplain : (backTo cp (starEach [] X.env)).any (·.1) = false := by rfl) (hsw : swapsWith (.Call (.Attribute (.Name x xp) "append" apos) [e] [] cp) none sp.line X.env = pure false := by rfl) :
    JS X B (.Expr (.Call (.Attribute (.Name x xp) "append" apos) [e] [] cp) sp) G Dd := fun t s z F H De hl c kk => by
  have hn := okName_of (Sc.vis cj.ok hv hN).1
  refine tSt_of (ps_expr (pe_bm PySem.F.plainAttrs_list PySem.F.slot_list_append PySem.F.type_list_append mt_append (pe_var (cj.xN hN) (cj.vis hv hN) hn.1 hn.2.1) (pa_cons pe_sem pa_nil hs) hbase hfew hline hs hplain) hsw) ?_
  obtain ⟨d0, h0⟩ := hls
  obtain ⟨y, e1, ⟨xs0, h1, _⟩, _⟩ := c.slot hl h0
  refine ⟨.ref y, e1, .inl ⟨rfl, _, .of h1⟩, h t s z F H _ hl c fun v F' H' d G' c' ⟨ds, g2, hz, hq⟩ => ?_⟩
  obtain ⟨y2, e2, ⟨xs, h2, h3⟩, hF, wr⟩ := c'.pop.slot hl g2
  rw [e1] at e2
  cases e2
  refine ⟨y, xs, v, rfl, rfl, h2, by rw [h3.length]; exact hz, ?_⟩
  exact kk.nx s F' _ _ rfl (wr (.lst (xs ++ [v])) (.lst (ds ++ [d])) ⟨_, upd_same, papp h3 (.cons c'.top .nil)⟩) hq
/-- xs.pop() -/
theorem jv_pop (cj : CJ P w K mg base S k X B E) (i : Nat) {ds : List D} {d : D} {cp xp : Pos} {Q : D → List Ent → Prop} (hd : entOw G[i]? = some (.lst (ds ++ [d]))) (h : Q d (setOw G i (.lst ds))) (hN : S.N[i]? = some x := by rfl) (hv : i ∈ S.vi := by decide)
    (hbase : attributeBase (.Name x xp) "pop" X.env (eval (.Name x xp) X.env) = eval (.Name x xp) X.env := by rfl) (hline : (apos.endLine == cp.line) = true := by rfl) : JV X B (.Call (.Attribute (.Name x xp) "pop" apos) [] [] cp) G Q := fun t s z F H VQ hl c q => by
  have hn := okName_of (Sc.vis cj.ok hv hN).1
  refine tS_of (pe_bm0 PySem.F.plainAttrs_list PySem.F.slot_list_pop PySem.F.type_list_pop mt_pop (pe_var (cj.xN hN) (cj.vis hv hN) hn.1 hn.2.1) hbase hline) ?_
  obtain ⟨y, e1, ⟨xs, h1, h2⟩, hF, wr⟩ := c.slot hl hd
  have hlen := h2.length
  obtain ⟨v, h3, h4⟩ := pget h2 (i := xs.length - 1) (b := d) (by rw [hlen]; simp)
  refine ⟨.ref y, e1, .inl ⟨rfl, _, .of h1⟩, y, xs, v, rfl, rfl, h1, h3, ?_⟩
  have h5 := ppop h2
  rw [List.dropLast_concat] at h5
  exact q v F _ d _ ((wr (.lst xs.dropLast) (.lst ds) ⟨_, upd_same, h5⟩).fz h4) h
/-- xs.pop(e) -/
theorem jv_popAt (cj : CJ P w K mg base S k X B E) (i : Nat) {cp xp : Pos} {Q : D → List Ent → Prop} (h : JV X B e G fun d2 G' => ∃ ds j d, entOw G'[i]? = some (.lst ds) ∧ d2 = .int j ∧ 0 ≤ j ∧ j < 2 ^ 63 ∧ ds[j.toNat]? = some d ∧ Q d (setOw G' i (.lst (ds.eraseIdx j.toNat)))) (hls : ∃ ds, entOw G[i]? = some (.lst ds) := by exact ⟨_, rfl⟩) (hN : S.N[i]? = some x := by rfl) (hv : i ∈ S.vi := by decide)
    (hbase : attributeBase (.Name x xp) "pop" X.env (eval (.Name x xp) X.env) = eval (.Name x xp) X.env := by rfl)
    (hfew : ((backTo cp (starEach [e] X.env)).all (fun x => !x.1) && (backToKw cp (keywordEach [] X.env)).all (fun x => x.1.isSome) && decide (([e] : List Expr).length + ([] : List Keyword).length + (if ([] : List Keyword).isEmpty then 0 else 1) < 30)) = true := by rfl)
    (hline : (apos.endLine == cp.line) = true := by rfl) (hs : starEach [e] X.env = (false, eval e X.env) :: starEach [] X.env := by rfl) (hplain : (backTo cp (starEach [] X.env)).any (·.1) = false := by rfl) : JV X B (.Call (.Attribute (.Name x xp) "pop" apos) [e] [] cp) G Q := fun t s z F H VQ hl c q => by
  have hn := okName_of (Sc.vis cj.ok hv hN).1
  refine tS_of (pe_bm PySem.F.plainAttrs_list PySem.F.slot_list_pop PySem.F.type_list_pop mt_popAt (pe_var (cj.xN hN) (cj.vis hv hN) hn.1 hn.2.1) (pa_cons pe_sem pa_nil hs) hbase hfew hline hs hplain) ?_
  obtain ⟨d0, h0⟩ := hls
  obtain ⟨y, e1, ⟨xs0, h1, _⟩, _⟩ := c.slot hl h0
  refine ⟨.ref y, e1, .inl ⟨rfl, _, .of h1⟩, h t s z F H _ hl c fun v F' H' d2 G' c' ⟨ds, j, d, g2, e3, j0, j1, hd, hq⟩ => ?_⟩
  subst e3
  cases c'.top
  obtain ⟨y2, e2, ⟨xs, h2, h3⟩, hF, wr⟩ := c'.pop.slot hl g2
  rw [e1] at e2
  cases e2
  obtain ⟨u, h4, h5⟩ := pget h3 hd
  have hlt : j.toNat < xs.length := (List.getElem?_eq_some_iff.mp h4).1
  refine ⟨y, xs, j, j.toNat, u, rfl, rfl, h2, by omega, j1, ?_, h4, ?_⟩
  · have : ixN xs.length j = some j.toNat := by unfold ixN; rw [if_pos j0, if_pos (by omega)]
    exact (ixN_seq this).1
  · exact q u F' _ d _ ((wr (.lst (xs.eraseIdx j.toNat)) (.lst (ds.eraseIdx j.toNat)) ⟨_, upd_same, perase _ h3⟩).fz h5) hq
/-- xs.extend(e): e a list -/
theorem js_extend (cj : CJ P w K mg base S k X B E) (i : Nat) {cp xp sp : Pos} {Dd : Dn} (h : JV X B e G fun d G' => ∃ ds es', entOw G'[i]? = some (.lst ds) ∧ d = .lst es' ∧ ds.length + es'.length ≤ sizeLine ∧ Dd.nx (setOw G' i (.lst (ds ++ es')))) (hN : S.N[i]? = some x := by rfl) (hv : i ∈ S.vi := by decide)
    (hls : ∃ ds, entOw G[i]? = some (.lst ds) := by exact ⟨_, rfl⟩)
    (hbase : attributeBase (.Name x xp) "extend" X.env (eval (.Name x xp) X.env) = eval (.Name x xp) X.env := by rfl)
    (hfew : ((backTo cp (starEach [e] X.env)).all (fun x => !x.1) && (backToKw cp (keywordEach [] X.env)).all (fun x => x.1.isSome) && decide (([e] : List Expr).length + ([] : List Keyword).length + (if ([] : List Keyword).isEmpty then 0 else 1) < 30)) = true := by rfl)
    (hline : (apos.endLine == cp.line) = true := by rfl) (hs : starEach [e] X.env = (false, eval e X.env) :: starEach [] X.env := by rfl) (hplain : (backTo cp (starEach [] X.env)).any (·.1) = false := by rfl) (hsw : swapsWith (.Call (.Attribute (.Name x xp) "extend" apos) [e] [] cp) none sp.line X.env = pure false := by rfl) :
    JS X B (.Expr (.Call (.Attribute (.Name x xp) "extend" apos) [e] [] cp) sp) G Dd := fun t s z F H De hl c kk => by
  have hn := okName_of (Sc.vis cj.ok hv hN).1
  refine tSt_of (ps_expr (pe_bm PySem.F.plainAttrs_list PySem.F.slot_list_extend PySem.F.type_list_extend mt_extend (pe_var (cj.xN hN) (cj.vis hv hN) hn.1 hn.2.1) (pa_cons pe_sem pa_nil hs) hbase hfew hline hs hplain) hsw) ?_
  obtain ⟨d0, h0⟩ := hls
  obtain ⟨y, e1, ⟨xs0, h1, _⟩, _⟩ := c.slot hl h0
  refine ⟨.ref y, e1, .inl ⟨rfl, _, .of h1⟩, h t s z F H _ hl c fun v F' H' d G' c' ⟨ds, es', g2, ed, hz, hq⟩ => ?_⟩
  subst ed
  have sm := c'.fh
  obtain ⟨y2, e2, ⟨xs, h2, h3⟩, hF, wr⟩ := c'.pop.slot hl g2
  rw [e1] at e2
  cases e2
  cases c'.top with
  | lst h4 h5 =>
    refine ⟨y, _, xs, _, rfl, rfl, h2, sm _ _ h4, by rw [h3.length, h5.length]; exact hz, ?_⟩
    exact kk.nx s F' _ _ rfl (wr (.lst (xs ++ _)) (.lst (ds ++ es')) ⟨_, upd_same, papp h3 h5⟩) hq
/-- xs.reverse(), xs.clear() -/
theorem js_reverse (cj : CJ P w K mg base S k X B E) (i : Nat) {ds : List D} {cp xp sp : Pos} {Dd : Dn} (hd : entOw G[i]? = some (.lst ds)) (h : Dd.nx (setOw G i (.lst ds.reverse))) (hN : S.N[i]? = some x := by rfl) (hv : i ∈ S.vi := by decide)
    (hbase : attributeBase (.Name x xp) "reverse" X.env (eval (.Name x xp) X.env) = eval (.Name x xp) X.env := by rfl) (hline : (apos.endLine == cp.line) = true := by rfl) (hsw : swapsWith (.Call (.Attribute (.Name x xp) "reverse" apos) [] [] cp) none sp.line X.env = pure false := by rfl) :
    JS X B (.Expr (.Call (.Attribute (.Name x xp) "reverse" apos) [] [] cp) sp) G Dd := fun t s z F H De hl c kk => by
  have hn := okName_of (Sc.vis cj.ok hv hN).1
  refine tSt_of (ps_expr (pe_bm0 PySem.F.plainAttrs_list PySem.F.slot_list_reverse PySem.F.type_list_reverse mt_reverse (pe_var (cj.xN hN) (cj.vis hv hN) hn.1 hn.2.1) hbase hline) hsw) ?_
  obtain ⟨y, e1, ⟨xs, h1, h2⟩, hF, wr⟩ := c.slot hl hd
  refine ⟨.ref y, e1, .inl ⟨rfl, _, .of h1⟩, y, xs, rfl, rfl, h1, ?_⟩
  exact kk.nx s F _ _ rfl (wr (.lst xs.reverse) (.lst ds.reverse) ⟨_, upd_same, prev h2⟩) h
theorem js_clear (cj : CJ P w K mg base S k X B E) (i : Nat) {ds : List D} {cp xp sp : Pos} {Dd : Dn} (hd : entOw G[i]? = some (.lst ds)) (h : Dd.nx (setOw G i (.lst []))) (hN : S.N[i]? = some x := by rfl) (hv : i ∈ S.vi := by decide)
    (hbase : attributeBase (.Name x xp) "clear" X.env (eval (.Name x xp) X.env) = eval (.Name x xp) X.env := by rfl) (hline : (apos.endLine == cp.line) = true := by rfl) (hsw : swapsWith (.Call (.Attribute (.Name x xp) "clear" apos) [] [] cp) none sp.line X.env = pure false := by rfl) :
    JS X B (.Expr (.Call (.Attribute (.Name x xp) "clear" apos) [] [] cp) sp) G Dd := fun t s z F H De hl c kk => by
  have hn := okName_of (Sc.vis cj.ok hv hN).1
  refine tSt_of (ps_expr (pe_bm0 PySem.F.plainAttrs_list PySem.F.slot_list_clear PySem.F.type_list_clear mt_clear (pe_var (cj.xN hN) (cj.vis hv hN) hn.1 hn.2.1) hbase hline) hsw) ?_
  obtain ⟨y, e1, ⟨xs, h1, h2⟩, hF, wr⟩ := c.slot hl hd
  refine ⟨.ref y, e1, .inl ⟨rfl, _, .of h1⟩, y, xs, rfl, rfl, h1, ?_⟩
  exact kk.nx s F _ _ rfl (wr (.lst []) (.lst []) ⟨_, upd_same, .nil⟩) h
/-! ### stores -/
/-- xs[b] = e, xs an owned list at a slot -/
theorem js_setix (cj : CJ P w K mg base S k X B E) (i : Nat) {xp tp sp : Pos} {Dd : Dn} (h : JV X B e G fun d G1 => JV X B b G1 fun d2 G2 => ∃ ds j m, entOw G2[i]? = some (.lst ds) ∧ d2 = .int j ∧ ixN ds.length j = some m ∧ Dd.nx (setOw G2 i (.lst (ds.set m d)))) (hN : S.N[i]? = some x := by rfl) (hv : i ∈ S.vi := by decide) (hls : (entOw G[i]?).isSome = true := by rfl)
    (ha : ∀ v, assign (.Subscript (.Name x xp) b tp) X.env v = (do
      let ov ← holding [v] (eval (.Name x xp) X.env)
      let iv ← holding [v, ov] (eval b X.env)
      standAt tp
      holding [v, ov, iv] (setItem ov iv v)
      release [v, ov, iv] []) := by intro _; rfl)
    (hs : swapsWithSole [.Subscript (.Name x xp) b tp] e sp.line X.env = pure false := by rfl) (hw : swappedStores [.Subscript (.Name x xp) b tp] e X.env = pure none := by rfl)
    (h1 : (assignEach [.Subscript (.Name x xp) b tp] X.env).map (·.2) = [assign (.Subscript (.Name x xp) b tp) X.env] := by rfl) : JS X B (.Assign [.Subscript (.Name x xp) b tp] e sp) G Dd := fun t s z F H De hl c kk => by
  have hn := okName_of (Sc.vis cj.ok hv hN).1
  refine tSt_of (ps_asg pe_sem (pg_sub (pe_var (cj.xN hN) (cj.vis hv hN) hn.1 hn.2.1) pe_sem set_list ha) hs hw h1) ?_
  obtain ⟨o0, h0⟩ := Option.isSome_iff_exists.mp hls
  obtain ⟨y, e1, _⟩ := c.slot hl h0
  refine h t s z F H _ hl c fun v F' H' d G1 c1 h2 => ⟨.ref y, e1, h2 (some v :: t) s (.fz d :: z) F' H' _ (by simp [hl]) c1 fun u F2 H2 d2 G2 c2 ⟨ds, j, m, g2, ed, hm, hq⟩ => ?_⟩
  subst ed
  cases c2.top
  obtain ⟨y2, e2, ⟨xs, h3, h4⟩, hF, wr⟩ := c2.pop.pop.slot hl g2
  rw [e1] at e2
  cases e2
  refine ⟨y, xs, j, m, rfl, rfl, h3, by rw [h4.length]; exact hm, ?_⟩
  exact kk.nx s F2 _ _ rfl (wr (.lst (xs.set m v)) (.lst (ds.set m d)) ⟨_, upd_same, pset c2.pop.top m h4⟩) hq
/-! ### targets -/
theorem JG.name (cj : CJ P w K mg base S k X B E) (i : Nat) {r : Ent} {Q : List Ent → Prop} (h : Q (G.set i r)) (hN : S.N[i]? = some x := by rfl) (hv : i ∈ S.li := by decide) : JG X B S.li (.Name x pos) r G Q := fun t s z F H v GQ hl c ir q =>
  tGt_of (pg_name cj.nd (cj.xN hN) (cj.loc hv hN) (cj.fn' hv hN)) (q _ F H _ (by simp) (fun j hj => List.getElem?_set_ne fun e => hj (by rw [← e]; exact hv)) (c.store hl) h)
def JGs (X : Cx) (B : Bs) (L : List Nat) : List Expr → List D → List Ent → (List Ent → Prop) → Prop
  | [], [], G, Q => Q G
  | e :: es, d :: ds, G, Q => ((assignEach (e :: es) X.env).map (·.2) = assign e X.env :: (assignEach es X.env).map (·.2)) ∧ JG X B L e (.fz d) G fun G' => JGs X B L es ds G' Q
  | [], _ :: _, _, _ => False
  | _ :: _, [], _, _ => False
theorem JGs.nil {L : List Nat} {Q : List Ent → Prop} (h : Q G) : JGs X B L [] [] G Q := h
theorem JGs.cons {L : List Nat} {d : D} {ds : List D} {Q : List Ent → Prop} (h : JG X B L e (.fz d) G fun G' => JGs X B L es ds G' Q) (hs : (assignEach (e :: es) X.env).map (·.2) = assign e X.env :: (assignEach es X.env).map (·.2) := by rfl) : JGs X B L (e :: es) (d :: ds) G Q := ⟨hs, h⟩
theorem JG.tup (cj : CJ P w K mg base S k X B E) {L : List Nat} {kk : Nat} {ds : List D} {Q : List Ent → Prop} (h : JGs X B L es ds G Q) (hn : (assignEach es X.env).length = ds.length := by rfl) (hst : (assignEach es X.env).findIdx? (·.1) = none := by rfl) : JG X B L (.Tuple es kk pos) (.fz (.tup ds)) G Q := fun t s z F H v GQ hl c ir q => by
  have go : ∀ {es : List Expr} {ds : List D} {G : List Ent} {Q : List Ent → Prop}, JGs X B L es ds G Q → ∃ tg : TGs, PGs X es tg ∧ ∀ (xs : List V) (t s : St) (z : List Ent) (F H : Hp) (GQ : St → Hp → Prop), t.length = z.length → DPs X.K F xs ds → Conf X.K B (t ++ s) F H (z ++ G) →
      (∀ s' F' H' G', s'.length = s.length → (∀ i : Nat, i ∉ L → s'[i]? = s[i]?) → Conf X.K B (t ++ s') F' H' (z ++ G') → Q G' → GQ s' H') → tg xs s H GQ := by
    intro es
    induction es with
    | nil =>
      intro ds G Q h
      cases ds with
      | cons _ _ => exact False.elim h
      | nil => exact ⟨_, pgs_nil, fun xs t s z F H GQ hl dp c q => by cases dp; exact ⟨rfl, q s F H _ rfl (fun _ _ => rfl) c h⟩⟩
    | cons e es ih =>
      intro ds G Q h
      cases ds with
      | nil => exact False.elim h
      | cons d ds =>
        obtain ⟨hs, h⟩ := h
        refine ⟨_, pgs_cons pg_sem (t := tGt X e) (u := fun vs s H GQ => ∀ pins sh us, Inv X pins s H sh → Vals vs us → wpAny (model X.prog X.w) X.A (assignInOrder ((assignEach es X.env).map (·.2)) us) (fun _ s' => ∃ s2 H', Inv X pins s2 H' s' ∧ GQ s2 H') X.xe sh) ⟨fun pins s σ H vs us Q I r h => h pins s us I r⟩ hs, fun xs t s z F H GQ hl dp c q => ?_⟩
        cases dp with
        | @cons x _ xs _ r tl =>
          refine ⟨_, _, rfl, h (xs.reverse.map some ++ t) s (ds.reverse.map Ent.fz ++ z) F H x _ (by simp [hl, tl.length]) ?_ trivial fun s' F' H' G' hs' ho c' hq => ?_⟩
          · -- the rest of the items waits below
            have rest : ∀ {xs : List V} {ds : List D} {u : St} {g : List Ent}, DPs X.K F xs ds → Conf X.K B u F H g → Conf X.K B (xs.map some ++ u) F H (ds.map Ent.fz ++ g) := by
              intro xs ds u g dp
              induction dp with
              | nil => intro c; exact c
              | cons r _ ih => intro c; exact (ih c).fz r
            have := rest (prev tl) c
            rw [List.append_assoc, List.append_assoc]
            exact this.fz r
          · obtain ⟨tg, p, run⟩ := ih hq
            intro pins sh us I rv
            refine p.run pins sh s' H' xs us GQ I rv ?_
            have c'' : Conf X.K B (xs.reverse.map some ++ (t ++ s')) F' H' (ds.reverse.map Ent.fz ++ (z ++ G')) := by rw [← List.append_assoc, ← List.append_assoc]; exact c'
            have back : ∀ {xs : List V} {ds : List D} {u : St} {g : List Ent}, xs.length = ds.length → Conf X.K B (xs.map some ++ u) F' H' (ds.map Ent.fz ++ g) → DPs X.K F' xs ds ∧ Conf X.K B u F' H' g := by
              intro xs
              induction xs with
              | nil => intro ds u g hl c; cases ds with
                | nil => exact ⟨.nil, c⟩
                | cons _ _ => simp at hl
              | cons v xs ih => intro ds u g hl c; cases ds with
                | nil => simp at hl
                | cons d ds =>
                  obtain ⟨h1, h2⟩ := ih (by simpa using hl) c.pop
                  exact ⟨.cons c.top h1, h2⟩
            obtain ⟨b1, b2⟩ := back (by simp [tl.length]) c''
            have b1 := prev b1
            rw [List.reverse_reverse, List.reverse_reverse] at b1
            exact run xs t s' z F' H' GQ hl b1 b2 fun s2 F2 H2 G2 hs2 ho2 c2 hq2 => q s2 F2 H2 G2 (hs2.trans hs') (fun j hj => (ho2 j hj).trans (ho j hj)) c2 hq2
  obtain ⟨tg, pg, run⟩ := go h
  have sm := c.fh
  cases c.top with
  | tup h1 h2 =>
    refine tGt_of (pg_tup cj.calm pg (hn := rfl) hst) ⟨_, _, rfl, sameT sm h1, by rw [h2.length]; exact hn.symm, ?_⟩
    exact run _ t s z F H GQ hl h2 c.pop q
/-- name = value -/
theorem js_set (cj : CJ P w K mg base S k X B E) (i : Nat) {tp sp : Pos} {Dd : Dn} (h : JE X B e G fun r G' => Dd.nx (G'.set i r)) (hN : S.N[i]? = some x := by rfl) (hv : i ∈ S.li := by decide)
    (hs : swapsWith e (some (.Name x tp)) sp.line X.env = pure false := by rfl) : JS X B (.Assign [.Name x tp] e sp) G Dd := fun t s z F H De hl c kk =>
  tSt_of (ps_set cj.nd (cj.xN hN) (cj.loc hv hN) pe_sem hs (cj.fn' hv hN)) (h t s z F H _ hl c fun v F' H' r G' c' ir hq => kk.nx _ F' H' _ (by simp) (c'.store hl) hq)
/-- a, b = e1, e2 with plain local names -/
theorem js_par (cj : CJ P w K mg base S k X B E) (i j : Nat) {y : Str} {px py pt sp : Pos} {kt k2 pt2} {Dd : Dn} (h : JV X B a G fun d1 G1 => JV X B b G1 fun d2 G2 => Dd.nx ((G2.set i (.fz d1)).set j (.fz d2)))
    (hx : S.sc.names.lookup x = some .local) (hy : S.sc.names.lookup y = some .local) (hN : S.N[i]? = some x := by rfl) (hN2 : S.N[j]? = some y := by rfl) (hv : i ∈ S.li := by decide) (hv2 : j ∈ S.li := by decide) (hij : i ≠ j := by decide)
    (hps : PS X (.Assign [.Tuple [.Name x px, .Name y py] kt pt] (.Tuple [a, b] k2 pt2) sp) (tPar i j (tAr X [a, b]))) (hs : starEach [a, b] X.env = (false, eval a X.env) :: starEach [b] X.env := by rfl) (hs2 : starEach [b] X.env = (false, eval b X.env) :: starEach [] X.env := by rfl) :
    JS X B (.Assign [.Tuple [.Name x px, .Name y py] kt pt] (.Tuple [a, b] k2 pt2) sp) G Dd := fun t s z F H De hl c kk => by
  refine tSt_of hps ?_
  have h' : JD X B [a, b] G fun ds G2 => ∃ d1 d2, ds = [d1, d2] ∧ Dd.nx ((G2.set i (.fz d1)).set j (.fz d2)) := JD.cons (JV.imp h fun d1 G1 h => JD.cons (JV.imp h fun d2 G2 q => JD.nil ⟨d1, d2, rfl, q⟩) hs2) hs
  refine runD h' hl c fun vs ds F' H' G' dp c' ⟨d1, d2, ed, hq⟩ => ?_
  subst ed
  cases dp with
  | @cons v _ _ _ r1 tl => cases tl with
    | @cons u _ _ _ r2 tl =>
      cases tl
      refine ⟨v, u, rfl, kk.nx _ F' H' _ (by simp) ?_ hq⟩
      have c1 := (c'.fz r1).store (i := i) hl
      exact (c1.fz r2).store (i := j) hl
end
end J

namespace J
open PySem PySem.Spec L2

/-! ## what is walked -/
structure WalkD (X : Cx) (B : Bs) (J : It) (n : Nat) (hv : St) (he : List Ent) (item : Nat → D → Prop) : Prop where
  goes : ∀ i u F H g, i < n → Conf X.K B (hv ++ u) F H (he ++ g) → J.go i H
  stops : ∀ u F H g, Conf X.K B (hv ++ u) F H (he ++ g) → J.stop n H
  yields : ∀ i x u F H g H', i < n → Conf X.K B (hv ++ u) F H (he ++ g) → J.yld i H x H' → ∃ F' d, item i d ∧ Conf X.K B (some x :: (hv ++ u)) F' H' (.fz d :: (he ++ g))
def JI (X : Cx) (B : Bs) (tg iter : Expr) (G : List Ent) (Q : Nat → (Nat → D → Prop) → List Ent → Prop) : Prop :=
  ∀ (t s : St) (z : List Ent) (F H : Hp) (R : It → Hp → Prop), t.length = z.length → Conf X.K B (t ++ s) F H (z ++ G) →
    (∀ J n hv he item F' H' G', hv.length = he.length → WalkD X B J n hv he item → Conf X.K B (hv ++ (t ++ s)) F' H' (he ++ (z ++ G')) → Q n item G' → R J H') → tIt X tg iter s H R

section
variable {P : Program} {w : World} {K : PySem.W.Frag} {mg : Str → Option Value} {base : Heap} {S : Sc} {k : Nat} {X : Cx} {B : Bs} {E : XW} {G : List Ent} {a b e tg : Expr} {es : List Expr} {pos p tpos : Pos} {x : Str}
theorem walkD_list {l : Addr} {xs : List V} {ds : List D} {d : D} (sd : ∀ F, DP X.K F (.ref l) d → SqL X.K F l xs ∧ DPs X.K F xs ds) : WalkD X B (Itl X.K l) ds.length [some (.ref l)] [.fz d] (fun i d => ds[i]? = some d) where
  goes := fun i u F H g hi c => by
    have c : Conf X.K B (some (.ref l) :: u) F H (.fz d :: g) := c
    obtain ⟨h1, h2⟩ := sd F c.top
    obtain ⟨v, h3, _⟩ := pget h2 (List.getElem?_eq_getElem hi)
    exact ⟨xs, v, c.fh.seq h1, h3⟩
  stops := fun u F H g c => by
    have c : Conf X.K B (some (.ref l) :: u) F H (.fz d :: g) := c
    obtain ⟨h1, h2⟩ := sd F c.top
    exact ⟨xs, c.fh.seq h1, by rw [h2.length]; exact Nat.le_refl _⟩
  yields := fun i x u F H g H' hi c y => by
    have c : Conf X.K B (some (.ref l) :: u) F H (.fz d :: g) := c
    obtain ⟨h1, h2⟩ := sd F c.top
    obtain ⟨e, y⟩ := y
    subst e
    obtain ⟨v, h3, h4⟩ := pget h2 (List.getElem?_eq_getElem hi)
    have := y xs (c.fh.seq h1)
    rw [h3] at this; cases this
    exact ⟨F, ds[i], List.getElem?_eq_getElem hi, c.fz h4⟩
theorem walkD_tup {l : Addr} {xs : List V} {ds : List D} {d : D} (sd : ∀ F, DP X.K F (.ref l) d → SqT X.K F l xs ∧ DPs X.K F xs ds) : WalkD X B (Itt X.K l) ds.length [some (.ref l)] [.fz d] (fun i d => ds[i]? = some d) where
  goes := fun i u F H g hi c => by
    have c : Conf X.K B (some (.ref l) :: u) F H (.fz d :: g) := c
    obtain ⟨h1, h2⟩ := sd F c.top
    obtain ⟨v, h3, _⟩ := pget h2 (List.getElem?_eq_getElem hi)
    exact ⟨xs, v, sameT c.fh h1, h3⟩
  stops := fun u F H g c => by
    have c : Conf X.K B (some (.ref l) :: u) F H (.fz d :: g) := c
    obtain ⟨h1, h2⟩ := sd F c.top
    exact ⟨xs, sameT c.fh h1, by rw [h2.length]; exact Nat.le_refl _⟩
  yields := fun i x u F H g H' hi c y => by
    have c : Conf X.K B (some (.ref l) :: u) F H (.fz d :: g) := c
    obtain ⟨h1, h2⟩ := sd F c.top
    obtain ⟨e, y⟩ := y
    subst e
    obtain ⟨v, h3, h4⟩ := pget h2 (List.getElem?_eq_getElem hi)
    have := y xs (sameT c.fh h1)
    rw [h3] at this; cases this
    exact ⟨F, ds[i], List.getElem?_eq_getElem hi, c.fz h4⟩
theorem walkD_range {lo : Int} {n : Nat} : WalkD X B (Itr lo n) n [] [] (fun i d => d = .int (lo + (i : Nat))) where
  goes := fun i u F H g hi c => hi
  stops := fun u F H g c => Nat.le_refl _
  yields := fun i x u F H g H' hi c y => by
    obtain ⟨e, y⟩ := y
    subst e y
    exact ⟨F, _, rfl, c.fz (.int _)⟩
/-! the values of what is held do not change: the list that is walked -/
theorem DP.lst_at {K : PySem.W.Frag} {F F' : Hp} {l : Addr} {ds : List D} (h : DP K F (.ref l) (.lst ds)) : ∃ xs, F l = some (.lst xs) ∧ DPs K F xs ds := by
  cases h with | lst h1 h2 => exact ⟨_, h1, h2⟩
/-- over a frozen list: what is held tells the list, whatever the frozen heap has grown to -/
theorem ji_seq {Q : Nat → (Nat → D → Prop) → List Ent → Prop} (h : JV X B e G fun d G' => ∃ ds, (d = .lst ds ∨ d = .kls ds) ∧ Q ds.length (fun i d => ds[i]? = some d) G') : JI X B tg e G Q := fun t s z F H R hl c q =>
  tIt_of (pi_list pe_sem) (h t s z F H _ hl c fun v F' H' d G' c' ⟨ds, ed, hq⟩ => by
    have sm := c'.fh
    obtain ⟨l, xs, ev, h1, h2⟩ : ∃ l xs, v = .ref l ∧ SqL X.K F' l xs ∧ DPs X.K F' xs ds := by
      rcases ed with ed | ed
      · subst ed; cases c'.top with | lst h1 h2 => exact ⟨_, _, rfl, .of h1, h2⟩
      · subst ed; cases c'.top with | kls h1 h2 => exact ⟨_, _, rfl, h1, h2⟩
    subst ev
    refine ⟨l, rfl, ⟨xs, sm.seq h1⟩, ?_⟩
    -- what is held: the list, and that its items are as they were
    refine q (Itl X.K l) ds.length [some (.ref l)] [.fz d] (fun i d => ds[i]? = some d) F' H' G' rfl ⟨fun i u F2 H2 g hi c2 => ?_, fun u F2 H2 g c2 => ?_, fun i x u F2 H2 g H3 hi c2 y => ?_⟩ c' hq
    all_goals
      have c2 : Conf X.K B (some (.ref l) :: u) F2 H2 (.fz d :: g) := c2
      have sm2 := c2.fh
      obtain ⟨ys, h3, h4⟩ : ∃ ys, SqL X.K F2 l ys ∧ DPs X.K F2 ys ds := by
        rcases ed with ed | ed
        · subst ed; cases c2.top with | lst h1 h2 => exact ⟨_, .of h1, h2⟩
        · subst ed; cases c2.top with | kls h1 h2 => exact ⟨_, h1, h2⟩
    · obtain ⟨v, h5, _⟩ := pget h4 (List.getElem?_eq_getElem hi)
      exact ⟨ys, v, sm2.seq h3, h5⟩
    · exact ⟨ys, sm2.seq h3, by rw [h4.length]; exact Nat.le_refl _⟩
    · obtain ⟨e, y⟩ := y
      subst e
      obtain ⟨v, h5, h6⟩ := pget h4 (List.getElem?_eq_getElem hi)
      have := y ys (sm2.seq h3)
      rw [h5] at this; cases this
      exact ⟨F2, ds[i], List.getElem?_eq_getElem hi, c2.fz h6⟩)
theorem ji_tup {Q : Nat → (Nat → D → Prop) → List Ent → Prop} (h : JV X B e G fun d G' => ∃ ds, d = .tup ds ∧ Q ds.length (fun i d => ds[i]? = some d) G') : JI X B tg e G Q := fun t s z F H R hl c q =>
  tIt_of (pi_tup pe_sem) (h t s z F H _ hl c fun v F' H' d G' c' ⟨ds, ed, hq⟩ => by
    subst ed
    have sm := c'.fh
    cases c'.top with
    | @tup l xs _ h1 h2 =>
      refine ⟨l, rfl, ⟨xs, sameT sm h1⟩, ?_⟩
      refine q (Itt X.K l) ds.length [some (.ref l)] [.fz (.tup ds)] (fun i d => ds[i]? = some d) F' H' G' rfl ⟨fun i u F2 H2 g hi c2 => ?_, fun u F2 H2 g c2 => ?_, fun i x u F2 H2 g H3 hi c2 y => ?_⟩ c' hq
      all_goals
        have c2 : Conf X.K B (some (.ref l) :: u) F2 H2 (.fz (.tup ds) :: g) := c2
        have sm2 := c2.fh
        obtain ⟨ys, h3, h4⟩ : ∃ ys, SqT X.K F2 l ys ∧ DPs X.K F2 ys ds := by
          cases c2.top with | tup h1 h2 => exact ⟨_, h1, h2⟩
      · obtain ⟨v, h5, _⟩ := pget h4 (List.getElem?_eq_getElem hi)
        exact ⟨ys, v, sameT sm2 h3, h5⟩
      · exact ⟨ys, sameT sm2 h3, by rw [h4.length]; exact Nat.le_refl _⟩
      · obtain ⟨e, y⟩ := y
        subst e
        obtain ⟨v, h5, h6⟩ := pget h4 (List.getElem?_eq_getElem hi)
        have := y ys (sameT sm2 h3)
        rw [h5] at this; cases this
        exact ⟨F2, ds[i], List.getElem?_eq_getElem hi, c2.fz h6⟩)
theorem ji_range1 (cj : CJ P w K mg base S k X B E) (j : Nat) {Q : Nat → (Nat → D → Prop) → List Ent → Prop} (hm : mg "range" = none) (h : JV X B a G fun d G' => ∃ n : Int, d = .int n ∧ -(2 ^ 62) ≤ n ∧ n < 2 ^ 62 ∧ Q n.toNat (fun i d => d = .int (0 + (i : Nat))) G') (hj : S.gl[j]? = some "range" := by rfl)
    (hs : starEach [a] X.env = [(false, eval a X.env)] := by rfl) : JI X B tg (.Call (.Name "range" p) [a] [] pos) G Q := fun t s z F H R hl c q =>
  tIt_of (pi_range1 (cj.gl hj) (cj.mgx hm) (pa_cons pe_sem pa_nil hs) hs) (h t s z F H _ hl c fun v F' H' d G' c' ⟨n, ed, h1, h2, hq⟩ => by
    subst ed
    cases c'.top
    exact ⟨n, rfl, h1, h2, q _ _ [] [] _ F' H' G' rfl walkD_range c'.pop hq⟩)
theorem ji_range2 (cj : CJ P w K mg base S k X B E) (j : Nat) {Q : Nat → (Nat → D → Prop) → List Ent → Prop} (hm : mg "range" = none) (h : JV X B a G fun d1 G1 => JV X B b G1 fun d2 G2 => ∃ m n : Int, d1 = .int m ∧ d2 = .int n ∧ (-(2 ^ 62) ≤ m ∧ m < 2 ^ 62 ∧ -(2 ^ 62) ≤ n ∧ n < 2 ^ 62) ∧ Q (n - m).toNat (fun i d => d = .int (m + (i : Nat))) G2) (hj : S.gl[j]? = some "range" := by rfl)
    (hs : starEach [a, b] X.env = [(false, eval a X.env), (false, eval b X.env)] := by rfl) (hs2 : starEach [b] X.env = [(false, eval b X.env)] := by rfl) : JI X B tg (.Call (.Name "range" p) [a, b] [] pos) G Q := fun t s z F H R hl c q =>
  tIt_of (pi_range2 (cj.gl hj) (cj.mgx hm) (pa_cons pe_sem (pa_cons pe_sem pa_nil hs2) (by rw [hs, hs2])) hs hs2) (run2 h hl c fun v u F' H' d1 d2 G' c' ⟨m, n, e1, e2, hb, hq⟩ => by
    subst e1 e2
    cases c'.top
    cases c'.pop.top
    exact ⟨m, n, rfl, hb, q _ _ [] [] _ F' H' G' rfl walkD_range c'.pop.pop hq⟩)
theorem ji_rev (cj : CJ P w K mg base S k X B E) (j : Nat) {Q : Nat → (Nat → D → Prop) → List Ent → Prop} (hm : mg "reversed" = none) (h : JV X B e G fun d G' => ∃ ds, d = .lst ds ∧ Q ds.length (fun i d => ds[ds.length - 1 - i]? = some d) G') (hj : S.gl[j]? = some "reversed" := by rfl)
    (hs : starEach [e] X.env = [(false, eval e X.env)] := by rfl) : JI X B tg (.Call (.Name "reversed" p) [e] [] pos) G Q := fun t s z F H R hl c q =>
  tIt_of (pi_reversed (cj.gl hj) (cj.mgx hm) (pa_cons pe_sem pa_nil hs) hs) (h t s z F H _ hl c fun v F' H' d G' c' ⟨ds, ed, hq⟩ => by
    subst ed
    have sm := c'.fh
    cases c'.top with
    | @lst l xs _ h1 h2 =>
      refine ⟨l, xs, rfl, .of (sm _ _ h1), ?_⟩
      have hlen := h2.length
      refine q (Itv X.K l xs.length) ds.length [some (.ref l)] [.fz (.lst ds)] (fun i d => ds[ds.length - 1 - i]? = some d) F' H' G' rfl ⟨fun i u F2 H2 g hi c2 => ?_, fun u F2 H2 g c2 => ?_, fun i x u F2 H2 g H3 hi c2 y => ?_⟩ c' hq
      all_goals
        have c2 : Conf X.K B (some (.ref l) :: u) F2 H2 (.fz (.lst ds) :: g) := c2
        have sm2 := c2.fh
        obtain ⟨ys, h3, h4⟩ : ∃ ys, SqL X.K F2 l ys ∧ DPs X.K F2 ys ds := by
          cases c2.top with | lst h1 h2 => exact ⟨_, .of h1, h2⟩
        have hlen2 := h4.length
      · have e : xs.length = ys.length := by omega
        have := (walk_rev (K := X.K) (a := l) (xs := ys)).goes i H2 (by omega) (sm2.seq h3)
        rw [e]; exact this
      · have e : xs.length = ys.length := by omega
        have := (walk_rev (K := X.K) (a := l) (xs := ys)).stops H2 (sm2.seq h3)
        rw [e, ← hlen2]; exact this
      · have e : xs.length = ys.length := by omega
        rw [e] at y
        obtain ⟨e1, e2⟩ := (walk_rev (K := X.K) (a := l) (xs := ys)).yields i H2 x H3 (by omega) (sm2.seq h3) y
        subst e1
        obtain ⟨dd, h5, h6⟩ := pgetL h4 e2
        refine ⟨F2, dd, ?_, c2.fz h6⟩
        rw [← hlen2]; exact h5)
/-- enumerate(list): pairs -/
theorem ji_enum (cj : CJ P w K mg base S k X B E) (j : Nat) {elts : List Expr} {kk : Nat} {Q : Nat → (Nat → D → Prop) → List Ent → Prop} (hm : mg "enumerate" = none) (h : JV X B e G fun d G' => ∃ ds, d = .lst ds ∧ Q ds.length (fun i d => ∃ y, ds[i]? = some y ∧ d = .tup [.int (i : Nat), y]) G') (hj : S.gl[j]? = some "enumerate" := by rfl)
    (hs : starEach [e] X.env = [(false, eval e X.env)] := by rfl) : JI X B (.Tuple elts kk tpos) (.Call (.Name "enumerate" p) [e] [] pos) G Q := fun t s z F H R hl c q =>
  tIt_of (pi_enum (cj.gl hj) (cj.mgx hm) (pa_cons pe_sem pa_nil hs) hs) (h t s z F H _ hl c fun v F' H' d G' c' ⟨ds, ed, hq⟩ => by
    subst ed
    have sm := c'.fh
    cases c'.top with
    | @lst l xs _ h1 h2 =>
      refine ⟨l, xs, rfl, .of (sm _ _ h1), ?_⟩
      refine q (Ite X.K l) ds.length [some (.ref l)] [.fz (.lst ds)] _ F' H' G' rfl ⟨fun i u F2 H2 g hi c2 => ?_, fun u F2 H2 g c2 => ?_, fun i x u F2 H2 g H3 hi c2 y => ?_⟩ c' hq
      all_goals
        have c2 : Conf X.K B (some (.ref l) :: u) F2 H2 (.fz (.lst ds) :: g) := c2
        have sm2 := c2.fh
        obtain ⟨ys, h3, h4⟩ : ∃ ys, SqL X.K F2 l ys ∧ DPs X.K F2 ys ds := by
          cases c2.top with | lst h1 h2 => exact ⟨_, .of h1, h2⟩
        have hlen2 := h4.length
      · exact (walk_enum (K := X.K) (a := l) (xs := ys)).goes i H2 (by omega) (sm2.seq h3)
      · have := (walk_enum (K := X.K) (a := l) (xs := ys)).stops H2 (sm2.seq h3)
        rw [← hlen2]; exact this
      · obtain ⟨T, x1, x2, e1, nT, e2, f1, f2⟩ := (walk_enum (K := X.K) (a := l) (xs := ys)).yields i H2 x H3 (by omega) (sm2.seq h3) y
        subst e1 e2
        cases f1
        obtain ⟨dd, h5, h6⟩ := pgetL h4 f2
        exact ⟨_, _, ⟨dd, h5, rfl⟩, c2.newT nT (.cons (.int _) (.cons h6 .nil))⟩)
/-- zip of two frozen lists -/
theorem ji_zip (cj : CJ P w K mg base S k X B E) (j : Nat) {elts : List Expr} {kk : Nat} {Q : Nat → (Nat → D → Prop) → List Ent → Prop} (hm : mg "zip" = none) (h : JV X B a G fun d1 G1 => JV X B b G1 fun d2 G2 => ∃ ds es, d1 = .lst ds ∧ d2 = .lst es ∧ Q (min ds.length es.length) (fun i d => ∃ y z, ds[i]? = some y ∧ es[i]? = some z ∧ d = .tup [y, z]) G2) (hj : S.gl[j]? = some "zip" := by rfl)
    (hs : starEach [a, b] X.env = (false, eval a X.env) :: starEach [b] X.env := by rfl) (hs2 : starEach [b] X.env = (false, eval b X.env) :: starEach [] X.env := by rfl) (hpl : (backTo pos (starEach [b] X.env)).any (·.1) = false := by rfl) : JI X B (.Tuple elts kk tpos) (.Call (.Name "zip" p) [a, b] [] pos) G Q := fun t s z F H R hl c q =>
  tIt_of (pi_zip (cj.gl hj) (cj.mgx hm) (pa_cons pe_sem (pa_cons pe_sem pa_nil hs2) hs) hs hpl) (run2 h hl c fun v u F' H' d1 d2 G' c' ⟨ds, es, e1, e2, hq⟩ => by
    subst e1 e2
    have sm := c'.fh
    cases c'.top with
    | @lst l2 xs2 _ h1 h2 => cases c'.pop.top with
      | @lst l1 xs1 _ h3 h4 =>
        refine ⟨l1, l2, xs1, xs2, rfl, .of (sm _ _ h3), .of (sm _ _ h1), ?_⟩
        refine q (Itz X.K l1 l2) (min ds.length es.length) [some (.ref l2), some (.ref l1)] [.fz (.lst es), .fz (.lst ds)] _ F' H' G' rfl ⟨fun i u F2 H2 g hi c2 => ?_, fun u F2 H2 g c2 => ?_, fun i x u F2 H2 g H3 hi c2 y => ?_⟩ c' hq
        all_goals
          have c2 : Conf X.K B (some (.ref l2) :: some (.ref l1) :: u) F2 H2 (.fz (.lst es) :: .fz (.lst ds) :: g) := c2
          have sm2 := c2.fh
          obtain ⟨ys2, h5, h6⟩ : ∃ ys, SqL X.K F2 l2 ys ∧ DPs X.K F2 ys es := by
            cases c2.top with | lst h1 h2 => exact ⟨_, .of h1, h2⟩
          obtain ⟨ys1, h7, h8⟩ : ∃ ys, SqL X.K F2 l1 ys ∧ DPs X.K F2 ys ds := by
            cases c2.pop.top with | lst h1 h2 => exact ⟨_, .of h1, h2⟩
          have len1 := h6.length
          have len2 := h8.length
          have wz := walk_zip (K := X.K) (a := l1) (b := l2) (xs := ys1) (ys := ys2) rfl
          rw [len1, len2] at wz
        · exact wz.goes i H2 hi ⟨sm2.seq h7, sm2.seq h5⟩
        · exact wz.stops H2 ⟨sm2.seq h7, sm2.seq h5⟩
        · obtain ⟨T, x1, x2, e1, nT, e2, f1, f2⟩ := wz.yields i H2 x H3 hi ⟨sm2.seq h7, sm2.seq h5⟩ y
          subst e1 e2
          obtain ⟨dd1, g1, g2⟩ := pgetL h8 f1
          obtain ⟨dd2, g3, g4⟩ := pgetL h6 f2
          exact ⟨_, _, ⟨dd1, dd2, g1, g3, rfl⟩, c2.newT nT (.cons g2 (.cons g4 .nil))⟩)
/-- a text, sign by sign -/
theorem ji_str {Q : Nat → (Nat → D → Prop) → List Ent → Prop} (h : JV X B e G fun d G' => ∃ y : Str, d = .str y ∧ Q y.cps.size (fun i d => ∃ c, y.cps[i]? = some c ∧ d = .str ⟨#[c]⟩) G') : JI X B tg e G Q := fun t s z F H R hl c q =>
  tIt_of (pi_str pe_sem) (h t s z F H _ hl c fun v F' H' d G' c' ⟨y, ed, hq⟩ => by
    subst ed
    cases c'.top
    exact ⟨y, rfl, q (Its y) _ [] [] _ F' H' G' rfl ⟨fun i u F H g hi c => hi, fun u F H g c => Nat.le_refl _, fun i x u F H g H' hi c yy => by
      obtain ⟨e, cc, h1, h2⟩ := yy
      subst e h2
      exact ⟨F, _, ⟨cc, h1, rfl⟩, c.fz (.str _)⟩⟩ c'.pop hq⟩)

/-! ## for -/
theorem js_for (cj : CJ P w K mg base S k X B E) {iter : Expr} {body : List Stmt} {Dd : Dn}
    (h : JI X B tg iter G fun n item G1 => ∃ I : Nat → List Ent → Prop, I 0 G1 ∧ (∀ i d G2, i < n → item i d → I i G2 → JG X B S.li tg (.fz d) G2 fun G3 => JSs X B body G3 { Dd with nx := I (i + 1), ct := I (i + 1), bk := Dd.nx }) ∧ (∀ G2, I n G2 → Dd.nx G2))
    (hs : ∀ x, foldedSetIterable iter X.env x = pure x := by intro _; rfl) : JS X B (.For tg iter body [] pos) G Dd := fun t s z F H De hl c kk =>
  tSt_of (ps_for cj.po cj.calm pi_sem pg_sem pss_sem hs) (h t s z F H _ hl c fun Jt n hv he item F' H' G' hl' wd c' ⟨I, i0, step, fin⟩ => by
    refine ⟨fun i m s' H' => m = n - i ∧ i ≤ n ∧ s'.length = s.length ∧ ∃ F G, Conf X.K B (hv ++ (t ++ s')) F H' (he ++ (z ++ G)) ∧ I i G, ⟨n, by simp, Nat.zero_le _, rfl, F', G', c', i0⟩, ?_⟩
    have drop : ∀ {hv : St} {he : List Ent} {u : St} {g : List Ent} {F H : Hp}, hv.length = he.length → Conf X.K B (hv ++ u) F H (he ++ g) → Conf X.K B u F H g := by
      intro hv
      induction hv with
      | nil => intro he u g F H hl c; cases he with
        | nil => exact c
        | cons _ _ => simp at hl
      | cons v hv ih => intro he u g F H hl c; cases he with
        | nil => simp at hl
        | cons e he => exact ih (by simpa using hl) c.pop
    rintro i m s1 H1 ⟨rfl, hi, hs1, F1, G1, c1, ii⟩
    by_cases hlt : i < n
    · refine .inr ⟨wd.goes i _ F1 H1 _ hlt c1, fun s' H' => s'.length = s.length ∧ ∃ F G, Conf X.K B (hv ++ (t ++ s')) F H' (he ++ (z ++ G)) ∧ I (i + 1) G, fun s' H' ⟨h1, F, G, h2, h3⟩ => ⟨n - (i + 1), by omega, rfl, hlt, h1, F, G, h2, h3⟩, fun x H2 y => ?_⟩
      obtain ⟨F2, d, hd, c2⟩ := wd.yields i x _ F1 H1 _ H2 hlt c1 y
      refine step i d G1 hlt hd ii (hv ++ t) s1 (he ++ z) F2 H2 x _ (by simp [hl', hl]) (by simpa [List.append_assoc] using c2) trivial fun s3 F3 H3 G3 hs3 _ c3 q3 => ?_
      refine q3 (hv ++ t) s3 (he ++ z) F3 H3 _ (by simp [hl', hl]) c3 ⟨fun s' F' H' G' e c' q => ⟨by rw [e, hs3, hs1], F', G', by simpa [List.append_assoc] using c', q⟩, fun v s' F' H' r G' c' ir q => ?_, fun s' F' H' G' e c' q => ?_, fun s' F' H' G' e c' q => ⟨by rw [e, hs3, hs1], F', G', by simpa [List.append_assoc] using c', q⟩⟩
      · -- a return: what is held goes
        refine kk.rt v s' F' H' r G' ?_ ir q
        have c'' : Conf X.K B (some v :: (hv ++ (t ++ s'))) F' H' (r :: (he ++ (z ++ G'))) := by simpa [List.append_assoc] using c'
        have sub : ∀ {hv : St} {he : List Ent} {u : St} {g : List Ent}, hv.length = he.length → Conf X.K B (some v :: (hv ++ u)) F' H' (r :: (he ++ g)) → Conf X.K B (some v :: u) F' H' (r :: g) := by
          intro hv
          induction hv with
          | nil => intro he u g hl c; cases he with
            | nil => exact c
            | cons _ _ => simp at hl
          | cons y hv ih => intro he u g hl c; cases he with
            | nil => simp at hl
            | cons e he =>
              refine ih (he := he) (by simpa using hl) ?_
              have nd := List.nodup_append.mp (show (oad (some v) r ++ (oad y e ++ oads (hv ++ u) (he ++ g))).Nodup from c.nd)
              have nd2 := List.nodup_append.mp nd.2.1
              cases c.env with
              | cons q1 tl => cases tl with
                | cons q2 tl => exact ⟨c.fh, c.ff, c.keep, c.there, c.old, .cons q1 tl, by
                    show (oad (some v) r ++ oads (hv ++ u) (he ++ g)).Nodup
                    exact List.nodup_append.mpr ⟨nd.1, nd2.2.1, fun a ha b hb => nd.2.2 a ha b (List.mem_append_right _ hb)⟩, fun a ha => c.own a (by
                      show a ∈ oad (some v) r ++ (oad y e ++ oads (hv ++ u) (he ++ g))
                      rcases List.mem_append.mp (show a ∈ oad (some v) r ++ oads (hv ++ u) (he ++ g) from ha) with z | z
                      · exact List.mem_append_left _ z
                      · exact List.mem_append_right _ (List.mem_append_right _ z))⟩
        exact sub hl' c''
      · refine kk.nx s' F' H' G' (by rw [e, hs3, hs1]) ?_ q
        have c'' : Conf X.K B (hv ++ (t ++ s')) F' H' (he ++ (z ++ G')) := by simpa [List.append_assoc] using c'
        exact drop hl' c''
    · have e : i = n := by omega
      subst e
      exact .inl ⟨wd.stops _ F1 H1 _ c1, kk.nx s1 F1 H1 G1 hs1 (drop hl' c1) (fin G1 ii)⟩)

/-! ## list comprehensions -/
def wipeE (G : List Ent) : List Nat → List Ent
  | [] => G
  | v :: vs => (wipeE G vs).set v .no
theorem Conf.wipe1 {K : PySem.W.Frag} {B : Bs} {F H : Hp} {t s : St} {z G : List Ent} (hl : t.length = z.length) (c : Conf K B (t ++ s) F H (z ++ G)) (i : Nat) (v : Option V) : Conf K B (t ++ s.set i v) F H (z ++ G.set i .no) :=
  (c.push (v := v) (e := .no) trivial (oad_no _)).store hl
theorem Conf.wipe {K : PySem.W.Frag} {B : Bs} {F H : Hp} {t s : St} {z G : List Ent} (hl : t.length = z.length) (c : Conf K B (t ++ s) F H (z ++ G)) : ∀ vs : List Nat, Conf K B (t ++ L2.wipe s vs) F H (z ++ wipeE G vs)
  | [] => c
  | v :: vs => (Conf.wipe hl c vs).wipe1 hl v none
/-- other values in slots of which nothing is told -/
theorem Conf.slots {K : PySem.W.Frag} {B : Bs} {F H : Hp} : ∀ {s s' : St} {g : List Ent}, s.length = s'.length → (∀ i : Nat, s[i]? = s'[i]? ∨ g[i]? = some .no) → Conf K B s F H g → Conf K B s' F H g := by
  intro s s' g hl h c
  have go : ∀ {s s' : St} {g : List Ent}, s.length = s'.length → (∀ i : Nat, s[i]? = s'[i]? ∨ g[i]? = some .no) → Paired (EntOk K B F H) s g → Paired (EntOk K B F H) s' g ∧ oads s' g = oads s g := by
    intro s
    induction s with
    | nil => intro s' g hl h p; cases s' with
      | nil => exact ⟨p, rfl⟩
      | cons _ _ => simp at hl
    | cons v s ih =>
      intro s' g hl h p
      cases s' with
      | nil => simp at hl
      | cons v' s' =>
        cases p with
        | @cons _ e _ g r tl =>
          obtain ⟨h1, h2⟩ := ih (by simpa using hl) (fun i => by simpa using h (i + 1)) tl
          rcases h 0 with q | q
          · simp at q; subst q
            exact ⟨.cons r h1, by show oad v e ++ oads s' g = oad v e ++ oads s g; rw [h2]⟩
          · simp at q; subst q
            exact ⟨.cons trivial h1, by show oad v' .no ++ oads s' g = oad v .no ++ oads s g; rw [h2, oad_no, oad_no]⟩
  obtain ⟨h1, h2⟩ := go hl h c.env
  exact ⟨c.fh, c.ff, c.keep, c.there, c.old, h1, by rw [h2]; exact c.nd, by rw [h2]; exact c.own⟩
theorem wipe_none {s : St} : ∀ {vs : List Nat} {i : Nat}, i ∈ vs → i < s.length → (L2.wipe s vs)[i]? = some none
  | [], _, h, _ => by cases h
  | v :: vs, i, h, hi => by
    unfold L2.wipe
    by_cases e : v = i
    · subst e; rw [List.getElem?_set_self (by rw [wipe_length]; exact hi)]
    · rw [List.getElem?_set_ne e]
      exact wipe_none ((List.mem_cons.mp h).resolve_left fun z => e z.symm) hi
theorem wipe_out' {s : St} : ∀ {vs : List Nat} {i : Nat}, i ∉ vs → (L2.wipe s vs)[i]? = s[i]?
  | [], _, _ => rfl
  | v :: vs, i, h => by
    unfold L2.wipe
    rw [List.getElem?_set_ne fun z => h (by rw [z]; exact List.mem_cons_self)]
    exact wipe_out' fun z => h (List.mem_cons_of_mem _ z)
theorem wipeE_no {G : List Ent} : ∀ {vs : List Nat} {i : Nat}, i ∈ vs → i < G.length → (wipeE G vs)[i]? = some .no
  | [], _, h, _ => by cases h
  | v :: vs, i, h, hi => by
    have hlen : ∀ vs : List Nat, (wipeE G vs).length = G.length := by
      intro vs; induction vs with
      | nil => rfl
      | cons v vs ih => show ((wipeE G vs).set v .no).length = _; rw [List.length_set, ih]
    unfold wipeE
    by_cases e : v = i
    · subst e; rw [List.getElem?_set_self (by rw [hlen]; exact hi)]
    · rw [List.getElem?_set_ne e]
      exact wipeE_no ((List.mem_cons.mp h).resolve_left fun z => e z.symm) hi
theorem wipeE_len (G : List Ent) : ∀ vs : List Nat, (wipeE G vs).length = G.length
  | [] => rfl
  | v :: vs => by show ((wipeE G vs).set v .no).length = _; rw [List.length_set, wipeE_len G vs]

/-- the tests of a clause -/
def tPs (X : Cx) (ifs : List Expr) : TT := fun s H Q => ∀ pins sh, Inv X pins s H sh →
  wpAny (model X.prog X.w) X.A (forIn ifs true fun c r => if r = true then do let ok ← isTrue c X.env (eval c X.env); pure (ForInStep.yield ok) else pure (ForInStep.yield r)) (TP X pins s Q) X.xe sh
def JTs (X : Cx) (B : Bs) (ifs : List Expr) (G : List Ent) (Q : Bool → List Ent → Prop) : Prop :=
  ∀ (t s : St) (z : List Ent) (F H : Hp) (TQ : Bool → Hp → Prop), t.length = z.length → Conf X.K B (t ++ s) F H (z ++ G) →
    (∀ b F' H' G', Conf X.K B (t ++ s) F' H' (z ++ G') → Q b G' → TQ b H') → tPs X ifs s H TQ
theorem JTs.nil {Q : Bool → List Ent → Prop} (h : Q true G) : JTs X B [] G Q := fun t s z F H TQ hl c q => fun pins sh I => (pts_nil (X := X)).run pins sh s H TQ I (q true F H G c h)
theorem JTs.one {c : Expr} {Q : Bool → List Ent → Prop} (h : JT X B c G Q) : JTs X B [c] G Q := fun t s z F H TQ hl cf q => fun pins sh I => (pts_one pt_sem).run pins sh s H TQ I (h t s z F H TQ hl cf q)

/-- the block's own context -/
theorem CJ.blk (cj : CJ P w K mg base S k X B E) {S' : Sc} {scope : Scope} (hN : S'.N = S.N) (hsc : S'.sc = relS scope S.sc) (hok : S'.ok = true) (hfn : (S'.li.all fun i => match S'.N[i]? with
    | some x => (scope.names.lookup x == some .cell) || (S'.sc.names.lookup x == some .local)
    | none => true) = true) (s0 : Shared) (H0 : Hp) (C : Addr) (cl : List (Str × Addr)) (fp : List Addr) : CJ P w K mg base S' k (X.blk s0 H0 scope (compEnvC scope cl C X.env) fp) B XW.non where
  hprog := cj.hprog
  hw := cj.hw
  hK := cj.hK
  hmg := cj.hmg
  hbase := cj.hbase
  hN := cj.hN.trans hN.symm
  hsc := by
    show (compEnvC scope cl C X.env).scope = S'.sc
    rw [hsc, ← cj.hsc]; rfl
  ok := hok
  fn := fun i x hi hx => by
    have := List.all_eq_true.mp hfn i hi
    rw [hx] at this
    simp only [Bool.or_eq_true, beq_iff_eq] at this
    rcases this with h | h
    · exact .inl (by show (scope.names.lookup x == some .cell) = true; rw [h]; rfl)
    · exact .inr h
  calm := cj.calm
  hr := cj.hr
  po := PassesOwn.never
  tk := takes0
  ind := fun _ _ _ _ _ h => h
  lk := fun _ _ _ _ _ _ _ _ _ _ _ h => h.elim
theorem Conf.rot {K : PySem.W.Frag} {B : Bs} {F H : Hp} {a b c : St} {a' b' c' : List Ent} (h1 : a.length = a'.length) (h2 : b.length = b'.length) (cf : Conf K B (a ++ (b ++ c)) F H (a' ++ (b' ++ c'))) : Conf K B (b ++ (a ++ c)) F H (b' ++ (a' ++ c')) := by
  obtain ⟨e1, e2⟩ := psplit h1 cf.env
  obtain ⟨e3, e4⟩ := psplit h2 e2
  have nd := cf.nd
  have own := cf.own
  rw [oads_app h1, oads_app h2] at nd own
  have pm : (oads a a' ++ (oads b b' ++ oads c c')).Perm (oads b b' ++ (oads a a' ++ oads c c')) := by
    rw [← List.append_assoc, ← List.append_assoc]
    exact List.Perm.append_right _ List.perm_append_comm
  refine ⟨cf.fh, cf.ff, cf.keep, cf.there, cf.old, papp e3 (papp e1 e4), ?_, fun x hx => ?_⟩
  · rw [oads_app h2, oads_app h1]
    exact pm.nodup_iff.mp nd
  · rw [oads_app h2, oads_app h1] at hx
    exact own x (pm.mem_iff.mpr hx)
theorem wipe_same {s s' : St} {vs : List Nat} (hl : s'.length = s.length) (h : ∀ i : Nat, i ∉ vs → s'[i]? = (L2.wipe s vs)[i]?) : L2.wipe s' vs = L2.wipe s vs := by
  apply List.ext_getElem?
  intro i
  by_cases hi : i ∈ vs
  · by_cases hlt : i < s.length
    · rw [wipe_none hi hlt, wipe_none hi (by omega)]
    · rw [List.getElem?_eq_none (by rw [wipe_length]; omega), List.getElem?_eq_none (by rw [wipe_length]; omega)]
  · rw [wipe_out' hi, h i hi]
/-- the readings of a comprehension's parts, in whatever block -/
def gB (X : Cx) (scope : Scope) (tg : Expr) : TG := fun v s H Q => ∀ s0 H0 C cl fp, tGt (X.blk s0 H0 scope (compEnvC scope cl C X.env) fp) tg v s H Q
def pB (X : Cx) (scope : Scope) (ifs : List Expr) : TT := fun s H Q => ∀ s0 H0 C cl fp, tPs (X.blk s0 H0 scope (compEnvC scope cl C X.env) fp) ifs s H Q
def eB (X : Cx) (scope : Scope) (e : Expr) : TE := fun s H Q => ∀ s0 H0 C cl fp, tS (X.blk s0 H0 scope (compEnvC scope cl C X.env) fp) e s H Q
/-- one turn of it -/
def JTurn (CJX : Cx → Prop) (B : Bs) (S' : Sc) (tg elt : Expr) (ifs : List Expr) (d : D) (G : List Ent) (Q : Option D → List Ent → Prop) : Prop :=
  ∀ X1, CJX X1 → JG X1 B S'.li tg (.fz d) G fun G3 => ∀ X2, CJX X2 → JTs X2 B ifs G3 fun b G4 => (b = true → ∀ X3, CJX X3 → JV X3 B elt G4 fun d' G5 => Q (some d') (wipeE G5 S'.li)) ∧ (b = false → Q none (wipeE G4 S'.li))
def ScOk (S S' : Sc) (scope : Scope) : Prop := S'.N = S.N ∧ S'.sc = relS scope S.sc ∧ S'.ok = true ∧ (S'.li.all fun i => match S'.N[i]? with
    | some x => (scope.names.lookup x == some .cell) || (S'.sc.names.lookup x == some .local)
    | none => true) = true
def LcI (n : Nat) (item : Nat → D → Prop) (CJX : Cx → Prop) (B : Bs) (S' : Sc) (tg elt : Expr) (ifs : List Expr) (G : List Ent) (Q : List D → List Ent → Prop) : Prop :=
  n ≤ sizeLine ∧ ∃ I : Nat → List D → List Ent → Prop, I 0 [] (wipeE G S'.li) ∧
    (∀ i d acc G2, i < n → item i d → I i acc G2 → acc.length ≤ i → JTurn CJX B S' tg elt ifs d G2 fun o G5 => match o with
        | some d' => I (i + 1) (acc ++ [d']) G5
        | none => I (i + 1) acc G5) ∧ (∀ acc G2, I n acc G2 → Q acc G2)
theorem lc_run (cj : CJ P w K mg base S k X B E) {elt iter : Expr} {ifs : List Expr} {scope : Scope} (S' : Sc) (so : ScOk S S' scope) {Q : List D → List Ent → Prop}
    (h : JI X B tg iter G fun n item G1 => LcI n item (fun X' => CJ P w K mg base S' k X' B XW.non) B S' tg elt ifs G1 Q) {t s : St} {z : List Ent} {F H : Hp} {VQ : VK} (hl : t.length = z.length) (c : Conf X.K B (t ++ s) F H (z ++ G))
    (q : ∀ p F' H' acc G', Conf X.K B (some (V.ref p) :: (t ++ s)) F' H' (Ent.ow (.lst acc) :: (z ++ G')) → Q acc G' → VQ (V.ref p) H') :
    tLc (tIt X tg iter) (gB X scope tg) (pB X scope ifs) (eB X scope elt) S'.li s H VQ :=
  h t s z F H _ hl c fun Jt n hv he item F1 H1 G1 hlv wd c1 ⟨hn, I, i0, step, fin⟩ => fun D hD => by
    obtain ⟨hN, hsc, hok, hfn⟩ := so
    have slen : s.length = G1.length := by
      have := c1.len
      simp only [List.length_append] at this
      omega
    have c2 : Conf X.K B ((hv ++ t) ++ s) F1 H1 ((he ++ z) ++ G1) := by simpa [List.append_assoc] using c1
    have c3 := (c2.wipe (by simp [hl, hlv]) S'.li).newL (vs := []) (ds := []) hD .nil
    have c4 : Conf X.K B (hv ++ ([some (V.ref D)] ++ (t ++ L2.wipe s S'.li))) F1 (upd H1 D (.lst [])) (he ++ ([Ent.ow (.lst [])] ++ (z ++ wipeE G1 S'.li))) := by
      have : Conf X.K B ([some (V.ref D)] ++ (hv ++ (t ++ L2.wipe s S'.li))) F1 (upd H1 D (.lst [])) ([Ent.ow (.lst [])] ++ (he ++ (z ++ wipeE G1 S'.li))) := by simpa [List.append_assoc] using c3
      exact this.rot rfl hlv
    refine ⟨fun i m H => m = n - i ∧ i ≤ n ∧ ∃ F G acc, acc.length ≤ i ∧ G.length = s.length ∧ (∀ j, j ∈ S'.li → j < G.length → G[j]? = some Ent.no) ∧ Conf X.K B (hv ++ ([some (V.ref D)] ++ (t ++ L2.wipe s S'.li))) F H (he ++ ([Ent.ow (.lst acc)] ++ (z ++ G))) ∧ I i acc G,
      ⟨n, by simp, Nat.zero_le _, F1, _, [], Nat.le_refl _, by rw [wipeE_len]; exact slen.symm, fun j hj hlt => wipeE_no hj (by rw [wipeE_len] at hlt; exact hlt), c4, i0⟩, ?_⟩
    rintro i m H2 ⟨rfl, hi, F2, G2, acc, hacc, gl, gno, c5, ii⟩
    by_cases hlt : i < n
    · refine .inr ⟨wd.goes i _ F2 H2 _ hlt c5, fun H => ∃ F G acc, acc.length ≤ i + 1 ∧ G.length = s.length ∧ (∀ j, j ∈ S'.li → j < G.length → G[j]? = some Ent.no) ∧ Conf X.K B (hv ++ ([some (V.ref D)] ++ (t ++ L2.wipe s S'.li))) F H (he ++ ([Ent.ow (.lst acc)] ++ (z ++ G))) ∧ I (i + 1) acc G, fun H' ⟨F, G, acc, a1, a2, a3, a4, a5⟩ => ⟨n - (i + 1), by omega, rfl, hlt, F, G, acc, a1, a2, a3, a4, a5⟩, fun x H3 y => ?_⟩
      obtain ⟨F3, d, hd, c6⟩ := wd.yields i x _ F2 H2 _ H3 hlt c5 y
      have tl : (hv ++ ([some (V.ref D)] ++ t)).length = (he ++ ([Ent.ow (.lst acc)] ++ z)).length := by simp [hlv, hl]
      intro s0 H0 C cl fp
      refine step i d acc G2 hlt hd ii hacc _ (cj.blk hN hsc hok hfn s0 H0 C cl fp) (hv ++ ([some (V.ref D)] ++ t)) (L2.wipe s S'.li) (he ++ ([Ent.ow (.lst acc)] ++ z)) F3 H3 x _ tl (by simpa [List.append_assoc] using c6) trivial fun s4 F4 H4 G4 hs4 ho4 c7 q4 => ?_
      have hs4' : s4.length = s.length := by rw [hs4, wipe_length]
      have ws : L2.wipe s4 S'.li = L2.wipe s S'.li := wipe_same hs4' ho4
      refine ⟨ws, fun s0 H0 C cl fp => ?_⟩
      -- the tests and the element
      refine q4 _ (cj.blk hN hsc hok hfn s0 H0 C cl fp) (hv ++ ([some (V.ref D)] ++ t)) s4 (he ++ ([Ent.ow (.lst acc)] ++ z)) F4 H4 _ tl c7 fun b F5 H5 G5 c8 q5 => ?_
      have fini : ∀ {acc' : List _root_.J.D} {F H : Hp} {G : List Ent}, acc'.length ≤ i + 1 → Conf X.K B ((hv ++ ([some (V.ref D)] ++ t)) ++ s4) F H ((he ++ ([Ent.ow (.lst acc')] ++ z)) ++ G) → I (i + 1) acc' (wipeE G S'.li) →
          ∃ F G acc, acc.length ≤ i + 1 ∧ G.length = s.length ∧ (∀ j, j ∈ S'.li → j < G.length → G[j]? = some Ent.no) ∧ Conf X.K B (hv ++ ([some (V.ref D)] ++ (t ++ L2.wipe s S'.li))) F H (he ++ ([Ent.ow (.lst acc)] ++ (z ++ G))) ∧ I (i + 1) acc G := fun {acc' F H G} ha cc hI => by
        have tl' : (hv ++ ([some (V.ref D)] ++ t)).length = (he ++ ([Ent.ow (.lst acc')] ++ z)).length := by simp [hlv, hl]
        have gl' : s4.length = G.length := by
          have := cc.len
          simp only [List.length_append, List.length_cons, List.length_nil] at this
          omega
        have cw := cc.wipe tl' S'.li
        rw [ws] at cw
        exact ⟨F, wipeE G S'.li, acc', ha, by rw [wipeE_len, ← gl', hs4'], fun j hj hlt => wipeE_no hj (by rw [wipeE_len] at hlt; exact hlt), by simpa [List.append_assoc] using cw, hI⟩
      cases b with
      | false =>
        rw [if_neg Bool.false_ne_true]
        exact fini (by omega) c8 (q5.2 rfl)
      | true =>
        rw [if_pos rfl]
        intro s0 H0 C cl fp
        refine q5.1 rfl _ (cj.blk hN hsc hok hfn s0 H0 C cl fp) (hv ++ ([some (V.ref D)] ++ t)) s4 (he ++ ([Ent.ow (.lst acc)] ++ z)) F5 H5 _ tl c8 fun y F6 H6 d' G6 c9 q6 => ?_
        -- the list stands at D as it was left
        have ig : (he ++ ([Ent.ow (.lst acc)] ++ z) ++ G6)[he.length]? = some (Ent.ow (.lst acc)) := by simp
        have is : (hv ++ ([some (V.ref D)] ++ t) ++ s4)[he.length]? = some (some (V.ref D)) := by rw [← hlv]; simp
        obtain ⟨v, e1, a, e2, ⟨xs, o1, o2⟩, _⟩ := c9.pop.at ig
        have is' := is
        rw [e1] at is'
        cases is'
        cases e2
        refine ⟨xs, o1, by rw [o2.length]; omega, ?_⟩
        have cw := c9.pop.write (i := he.length) (ho := .lst (xs ++ [y])) (o' := .lst (acc ++ [d'])) ig is ⟨_, upd_same, papp o2 (.cons c9.top .nil)⟩
        refine fini (F := F6) (acc' := acc ++ [d']) (by simp; omega) ?_ q6
        have es : (he ++ ([Ent.ow (.lst acc)] ++ z) ++ G6).set he.length (Ent.ow (.lst (acc ++ [d']))) = he ++ ([Ent.ow (.lst (acc ++ [d']))] ++ z) ++ G6 := by simp
        rw [es] at cw
        exact cw
    · have e : i = n := by omega
      subst e
      refine .inl ⟨wd.stops _ F2 H2 _ c5, ?_⟩
      -- the def's own slots are back
      have c6 := c5.rot hlv rfl
      have c7 : Conf X.K B (some (V.ref D) :: (t ++ L2.wipe s S'.li)) F2 H2 (Ent.ow (.lst acc) :: (z ++ G2)) := by
        have dropM : ∀ {hv : St} {he : List Ent} {u : St} {g : List Ent}, hv.length = he.length → Conf X.K B (hv ++ u) F2 H2 (he ++ g) → Conf X.K B u F2 H2 g := by
          intro hv
          induction hv with
          | nil => intro he u g hl c; cases he with
            | nil => exact c
            | cons _ _ => simp at hl
          | cons v hv ih => intro he u g hl c; cases he with
            | nil => simp at hl
            | cons e he => exact ih (by simpa using hl) c.pop
        exact dropM hlv c5
      refine q D F2 H2 acc G2 (c7.slots (by simp [wipe_length]) fun j => ?_) (fin acc G2 ii)
      cases j with
      | zero => exact .inl rfl
      | succ j =>
        show (t ++ L2.wipe s S'.li)[j]? = (t ++ s)[j]? ∨ (z ++ G2)[j]? = some Ent.no
        by_cases hj : j < t.length
        · exact .inl (by rw [List.getElem?_append_left hj, List.getElem?_append_left hj])
        · rw [List.getElem?_append_right (by omega), List.getElem?_append_right (by omega), List.getElem?_append_right (by omega), hl]
          by_cases hm : j - z.length ∈ S'.li
          · by_cases hlt2 : j - z.length < G2.length
            · exact .inr (gno _ hm hlt2)
            · exact .inl (by rw [List.getElem?_eq_none (by rw [wipe_length]; omega), List.getElem?_eq_none (by omega)])
          · exact .inl (wipe_out' hm)
theorem gB_ok {scope : Scope} (s0 : Shared) (H0 : Hp) (C : Addr) (cl : List (Str × Addr)) (fp : List Addr) : PG (X.blk s0 H0 scope (compEnvC scope cl C X.env) fp) tg (gB X scope tg) := ⟨fun pins s _ _ _ u _ I r h => h s0 H0 C cl fp pins s u I r⟩
theorem pB_ok {scope : Scope} {ifs : List Expr} (s0 : Shared) (H0 : Hp) (C : Addr) (cl : List (Str × Addr)) (fp : List Addr) : PTs (X.blk s0 H0 scope (compEnvC scope cl C X.env) fp) ifs (pB X scope ifs) := ⟨fun pins s _ _ _ I h => h s0 H0 C cl fp pins s I⟩
theorem eB_ok {scope : Scope} (s0 : Shared) (H0 : Hp) (C : Addr) (cl : List (Str × Addr)) (fp : List Addr) : PE (X.blk s0 H0 scope (compEnvC scope cl C X.env) fp) e (eB X scope e) := ⟨fun pins s _ _ _ I h => h s0 H0 C cl fp pins s I⟩
/-- a list comprehension as a value -/
theorem je_lc (cj : CJ P w K mg base S k X B E) {elt iter : Expr} {ifs : List Expr} {scope : Scope} (S' : Sc) (own : List (Str × Nat)) {Q : Ent → List Ent → Prop}
    (h : JI X B tg iter G fun n item G1 => LcI n item (fun X' => CJ P w K mg base S' k X' B XW.non) B S' tg elt ifs G1 fun acc G2 => Q (.ow (.lst acc)) G2)
    (so : ScOk S S' scope) (bo : blkC S.N S.sc scope own = true) (ho : own.map (·.2) = S'.li := by rfl) (hs : ∀ x, foldedSetIterable iter X.env x = pure x := by intro _; rfl) :
    JE X B (.ListComp elt [⟨tg, iter, ifs, 0⟩] scope pos) G Q := fun t s z F H VQ hl c q => by
  have bo' : BlkOk X.N X.env.scope scope own := by rw [cj.hN, cj.hsc]; exact blkOk_by bo
  refine tS_of (pe_lc cj.calm cj.nd pi_sem bo' gB_ok pB_ok eB_ok hs) ?_
  rw [ho]
  exact lc_run cj S' so h hl c fun p' F' H' acc G' c' hq => q _ F' H' _ G' c' trivial hq
/-- name = [..] on one line, the name a local -/
theorem js_setLc (cj : CJ P w K mg base S k X B E) (i : Nat) {elt iter : Expr} {ifs : List Expr} {scope : Scope} {py sp : Pos} (S' : Sc) (own : List (Str × Nat)) {Dd : Dn}
    (h : JI X B tg iter G fun n item G1 => LcI n item (fun X' => CJ P w K mg base S' k X' B XW.non) B S' tg elt ifs G1 fun acc G2 => Dd.nx (G2.set i (.ow (.lst acc))))
    (so : ScOk S S' scope) (bo : blkC S.N S.sc scope own = true) (hyl : S.sc.names.lookup x = some .local) (hsw : swapsWith (.ListComp elt [⟨tg, iter, ifs, 0⟩] scope pos) (some (.Name x py)) sp.line X.env = pure true)
    (hN : S.N[i]? = some x := by rfl) (ho : own.map (·.2) = S'.li := by rfl) (hs : ∀ x, foldedSetIterable iter X.env x = pure x := by intro _; rfl) :
    JS X B (.Assign [.Name x py] (.ListComp elt [⟨tg, iter, ifs, 0⟩] scope pos) sp) G Dd := fun t s z F H De hl c kk => by
  have bo' : BlkOk X.N X.env.scope scope own := by rw [cj.hN, cj.hsc]; exact blkOk_by bo
  refine tSt_of (ps_setLc cj.calm cj.nd (cj.xN hN) (by rw [cj.hsc]; exact hyl) hsw pi_sem bo' gB_ok pB_ok eB_ok hs) ?_
  rw [ho]
  exact lc_run cj S' so h hl c fun p' F' H' acc G' c' hq => kk.nx _ F' H' _ (by simp) (c'.store hl) hq
end
end J

namespace J
open PySem PySem.Spec L2
open PyProof.Rows (IntsAre)
/-! a set made of a list of ints: as for a tuple in the library, the walk another -/
section
variable {P : Program} {w : World} {A : Around} {E : Value → Shared → Prop} {s : Shared}
abbrev setO0 (w : World) : Obj := { cls := .type "set", dict := none, data := .set #[] 0 (.fresh 0 0 (!w.params.followText "set-order")) }
set_option maxHeartbeats 3200000 in
theorem call_set_lst {l : Addr} {zs : Array Value} (ns : List Int) {Q : Value → Shared → Prop} (hh : A.handled = none) (hl : s.heap.IsList l zs) (hi : IntsAre zs.toList ns) (hb : ns.length + 1 < scanBound)
    (h : ∀ (h' : Heap) (tk c : Nat), SetR w h' s.heap.objs.size (fun j => decide (j ∈ ns)) c → c ≤ ns.length → (∀ b o, s.heap.get? b = some o → h'.get? b = some o) → Q (.ref s.heap.objs.size) { s with heap := h', toks := tk }) :
    wpAny (model P w) A (call (.type "set") [.ref l]) Q E s := by
  have zsz : zs.size = ns.length := by have q := hi.length; simpa using q
  obtain ⟨c0, t0, mro0⟩ := F.called_set.mro
  have m1 := F.called_set.made
  have m2 := F.called_set.sub
  apply wpAny_call
  apply codeAny_of_tree
  show wpAny _ _ (callAny (.type "set") _) _ _ _
  refine wpAny_pure (And.intro (Code.quiet_builtin _ (by decide +kernel)) (codeAny_builtin F.entry_type_call ?_))
  rw [Around.under_plain (weight_type_call_type "set" [.ref l] []) rfl]
  have m3 := F.called_set.notType
  have m4 := F.called_set.canCreate
  have m5 := F.typeCall_set_1 (.ref l)
  repeat (any_goals (first | assumption | wp_step))
  refine codeAny_mono (code_set_led1 (.ref l) (E := E) (Q₁ := fun ob t₁ => ob = .ref s.heap.objs.size ∧ t₁ = { s with heap := s.heap.push (setO0 w) }) (And.intro rfl rfl)) fun r s₁ hr => ?_
  cases r with
  | error e => exact hr
  | ok fl => cases fl with
    | next => exact hr.elim
    | brk => exact hr.elim
    | cont => exact hr.elim
    | ret ob =>
      obtain ⟨rfl, rfl⟩ := hr
      have gS : (s.heap.push (setO0 w)).get? s.heap.objs.size = some (setO0 w) := Heap.get?_push_size _ rfl
      have gT : Shared.TypeIs { s with heap := s.heap.push (setO0 w) } (.ref s.heap.objs.size) "set" := Exists.intro _ (And.intro gS rfl)
      have m6 := F.called_set.init.lookup
      have m7 := F.called_set.init.bind (.ref s.heap.objs.size)
      repeat (any_goals (first | assumption | wp_step))
      refine codeAny_mono (codeAny_call_builtin (R := wants (fun r t₂ => r = .none ∧ ∃ (h' : Heap) (tk c : Nat), t₂ = { s with heap := h', toks := tk } ∧ SetR w h' s.heap.objs.size (fun j => decide (j ∈ ns)) c ∧ c ≤ ns.length ∧ (∀ b o, s.heap.get? b = some o → h'.get? b = some o)) E)
        F.called_set.init.plain F.entry_set_init (check_set_init_1 gT ?_)) fun r₂ t₂ hr₂ => ?_
      · have hl0 := hl
        obtain ⟨ol, hol, hcl, nl, hdl⟩ := hl
        rcases ol with ⟨oc, odi, oda, osl⟩
        simp only at hcl hdl
        cases hcl
        cases hdl
        have gl : (s.heap.push (setO0 w)).get? l = some { cls := .type "list", dict := odi, data := .seq zs nl, slots := osl } := Heap.get?_push_of_some _ hol
        have m8 := F.sub_list_set
        have m9 := F.sub_list_frozenset
        have mA : (Value.type "list" == Value.type "dict") = false := by decide
        have gl1 : (s.heap.push (setO0 w)).IsList l zs := hl0.push _
        unfold Builtin.«set.__init__» noKeywords Builtin.Frozenset.updateFrom
        generalize hIt : pyIter = It
        wp_walk
        subst hIt
        refine wpAny_pyIter_list gl1 ?_
        refine wpAny_bind (wpAny_runValue ?_)
        have lS : l < s.heap.objs.size := Heap.lt_size hol
        have hd3 : A.in1.in1.in1.handled = none := by simp [hh]
        have sz1 : (s.heap.push (setO0 w)).objs.size = s.heap.objs.size + 1 := Heap.size_push ..
        have neI : l ≠ (s.heap.push (setO0 w)).objs.size := by rw [sz1]; exact Nat.ne_of_lt (Nat.lt_succ_of_lt lS)
        have nfp : s.heap.objs.size ∉ [(s.heap.push (setO0 w)).objs.size, l] := by
          rw [sz1]
          intro z
          rcases List.mem_cons.mp z with z | z
          · exact absurd z (Nat.ne_of_lt (Nat.lt_succ_self _))
          · have z : s.heap.objs.size = l := by simpa using z
            exact absurd z (Nat.ne_of_gt lS)
        have vals : ∀ (i : Nat) (v : Value), zs[i]? = some v → ∃ k t, ns[i]? = some k ∧ v = .int k t := fun i v hv => by
          have hi' : i < ns.length := by rw [← zsz]; exact (Array.getElem?_eq_some_iff.mp hv).1
          obtain ⟨t, e⟩ := PyProof.Rows.IntsAre.int_at hi i v (by rw [Array.getElem?_toList]; exact hv)
          have eg : ns[i]? = some ns[i] := List.getElem?_eq_getElem hi'
          exact ⟨ns[i], t, eg, by rw [e, List.getD_eq_getElem?_getD, eg]; rfl⟩
        refine set_update_ints ((Walks.list hd3 _ l neI zs).toS) s.heap.objs.size nfp ns zsz hb vals (zs.size - 0) 0 _ (by omega) (Nat.zero_le _) ⟨⟨_, Heap.get?_push_size _ rfl, rfl, rfl⟩, gl1.push _⟩ ?z0 ?zR
        case z0 =>
          have hget : ((s.heap.push (setO0 w)).push { cls := .type "list_iterator", data := .fields #[.ref l, .int 0 0] }).get? s.heap.objs.size = some (setO0 w) := Heap.get?_push_of_some _ gS
          exact ⟨0, Nat.le_refl 0, setR_new_at hget⟩
        case zR =>
          intro s' c' hm hc' hS'
          rcases s' with ⟨h', g2, d', tk', os'⟩
          obtain rfl : g2 = s.gens := hm.gens
          obtain rfl : d' = s.drawn := hm.drawn
          obtain rfl : os' = s.os := hm.os
          show wpAny _ _ _ _ _ _
          refine wpAny_pure ?_
          show wpAny _ _ (ret Value.none) _ _ _
          rw [zsz] at hc'
          refine wpAny_pure ⟨rfl, h', tk', c', rfl, hS', hc', fun b o e => hm.heap b o (fun z => ?_) (Heap.get?_push_of_some _ (Heap.get?_push_of_some _ e))⟩
          have lt := Heap.lt_size e
          rcases List.mem_cons.mp z with z | z
          · exact absurd z (Nat.ne_of_lt lt)
          · have z : b = (s.heap.push (setO0 w)).objs.size := by simpa using z
            rw [sz1] at z
            exact absurd z (Nat.ne_of_lt (Nat.lt_succ_of_lt lt))
      · cases r₂ with
        | error e => exact hr₂
        | ok fl₂ => cases fl₂ with
          | next => exact hr₂.elim
          | brk => exact hr₂.elim
          | cont => exact hr₂.elim
          | ret r =>
            obtain ⟨rfl, h', tk, c', rfl, hS', hc', hk'⟩ := hr₂
            repeat (any_goals (first | assumption | wp_step))
            exact h _ _ _ hS' hc' hk'
end
end J

namespace J
open PySem PySem.Spec L2

theorem SpJ.monoE {K : PySem.W.Frag} {U : Spec} {vs : List V} {H : Hp} {Q : VK} {E E' : XK} (h : SpJ K U vs H Q E) (i : ∀ c d H, E c d H → E' c d H) : SpJ K U vs H Q E' := by
  obtain ⟨F, ps, B, R, RX, e0, e1, e2, c, sp, hq, hx⟩ := h
  exact ⟨F, ps, B, R, RX, e0, e1, e2, c, sp, hq, fun x F' H' od c' xo r => i _ _ _ (hx x F' H' od c' xo r)⟩

/-! ## sets of ints -/
def rSetL (K : PySem.W.Frag) (w : World) : List V → Hp → VK → Prop := fun xs H Q => ∃ (l : Addr) (ns : List Int), xs = [.ref l] ∧ (SqL K H l (ns.map V.int) ∨ SqT K H l (ns.map V.int)) ∧ ns.length < 64 ∧
  ∀ p c, H p = none → c ≤ ns.length → Q (.ref p) (upd H p (SetO w p (fun j => decide (j ∈ ns)) c))
section
variable {X : Cx}
theorem cr_setL (hc : X.calm = true) : CallR X (.type "set") (rSetL X.K X.w) := by
  intro pins s σ H xs us Q I r h
  obtain ⟨l, ns, rfl, hl, hf, q⟩ := h
  rw [Vals.ref1 r]
  have hb : ns.length + 1 < scanBound := by unfold scanBound; omega
  have hn : H s.heap.objs.size = none := I.hok.fresh (Nat.le_refl _)
  rcases hl with hl | hl
  · obtain ⟨its, rv, pl, hz⟩ := I.list hl
    refine call_set_lst ns (I.ok.hd hc) pl.isList (by simpa using rv.ints) hb fun h' tk c hS hk k => ?_
    exact ⟨.ref s.heap.objs.size, upd H s.heap.objs.size _, I.laid (t' := tk) k (Nat.le_refl _) (setO_new hS), rfl, q _ c hn hk⟩
  · obtain ⟨its, rv, pl, hz⟩ := I.tuple hl
    refine call_set_tupI ns (I.ok.hd hc) pl (by simpa using rv.ints) hb fun h' tk c hS hk k => ?_
    exact ⟨.ref s.heap.objs.size, upd H s.heap.objs.size _, I.laid (t' := tk) k (Nat.le_refl _) (setO_new hS), rfl, q _ c hn hk⟩
def rLenSet (w : World) : List V → Hp → VK → Prop := fun xs H Q => ∃ (a : Addr) (S : Int → Bool) (n : Nat), xs = [.ref a] ∧ H a = some (SetO w a S n) ∧ n < 64 ∧ ∀ ks : List Int, ks.Nodup → (∀ k, k ∈ ks ↔ S k = true) → ks.length = n → Q (.int n) H
theorem cr_lenSet : CallR X (.builtin "len") (rLenSet X.w) := by
  intro pins s σ H xs us Q I r h
  obtain ⟨a, S, n, rfl, ha, hz, q⟩ := h
  rw [Vals.ref1 r]
  obtain ⟨o, es, ep, t, ho, hex, hd, _, hnd, hS, _, hf, hn, _⟩ := setO_get I ha
  refine PySem.call_len_set ho hex hd hf (by rw [hn]; omega) ⟨.int n, H, I.tok _, ⟨_, by rw [hn]⟩, q _ hnd (fun k => (hS k).symm) (by rw [List.length_map, Array.length_toList, hn])⟩
end

section
variable {P : Program} {w : World} {K : PySem.W.Frag} {mg : Str → Option Value} {base : Heap} {S : Sc} {k : Nat} {X : Cx} {B : Bs} {E : XW} {G : List Ent} {a b e o : Expr} {es : List Expr} {pos p apos : Pos} {x : Str}
inductive IntSeq (ns : List Int) : D → Prop
  | lst : IntSeq ns (.lst (ns.map .int))
  | tup : IntSeq ns (.tup (ns.map .int))
  | tp : IntSeq ns (.tp (ns.map .int))
theorem IntSeq.at {F H : Hp} {ns : List Int} {d : D} {v : V} (i : IntSeq ns d) (sm : Same F H) (h : DP K F v d) : ∃ l, v = .ref l ∧ (SqL K H l (ns.map V.int) ∨ SqT K H l (ns.map V.int)) := by
  cases i with
  | lst => cases h with
    | lst h1 h2 => rw [ints_of_dps h2] at h1; exact ⟨_, rfl, .inl (.of (sm _ _ h1))⟩
  | tup => cases h with
    | tup h1 h2 => rw [ints_of_dps h2] at h1; exact ⟨_, rfl, .inr (sameT sm h1)⟩
  | tp => cases h with
    | tp h1 h2 => rw [ints_of_dps h2] at h1; exact ⟨_, rfl, .inr (.inl (.inl (sm _ _ h1)))⟩
/-- len(set(x)) -/
theorem jv_lenSet (cj : CJ P w K mg base S k X B E) (j j2 : Nat) {p2 q2 : Pos} {Q : D → List Ent → Prop} (hm : mg "len" = none) (hm2 : mg "set" = none)
    (h : JV X B e G fun d G' => ∃ ns : List Int, IntSeq ns d ∧ ns.length < 64 ∧ ∀ ks : List Int, ks.Nodup → (∀ k, k ∈ ks ↔ k ∈ ns) → Q (.int ks.length) G') (hj : S.gl[j]? = some "len" := by rfl) (hj2 : S.gl[j2]? = some "set" := by rfl)
    (he : starEach [e] X.env = (false, eval e X.env) :: starEach [] X.env := by rfl) (hpl : (backTo q2 (starEach [] X.env)).any (·.1) = false := by rfl)
    (he2 : starEach [.Call (.Name "set" p2) [e] [] q2] X.env = (false, eval (.Call (.Name "set" p2) [e] [] q2) X.env) :: starEach [] X.env := by rfl) (hpl2 : (backTo pos (starEach [] X.env)).any (·.1) = false := by rfl) :
    JV X B (.Call (.Name "len" p) [.Call (.Name "set" p2) [e] [] q2] [] pos) G Q := fun t s z F H VQ hl c q =>
  tS_of (pe_callB cr_lenSet (cj.gl hj) (cj.mgx hm) (by decide +kernel) (pa_cons (pe_callTy (cr_setL cj.calm) (cj.gl hj2) (cj.mgx hm2) (by decide +kernel) (pa_cons pe_sem pa_nil he) (cj.nnm hj2) (cj.dbg hj2) he hpl) pa_nil he2) (cj.nnm hj) (cj.dbg hj) he2 hpl2)
    (h t s z F H _ hl c fun v F' H' d G' c' ⟨ns, sd, hz, hq⟩ => by
      obtain ⟨l, ev, hs⟩ := sd.at c'.fh c'.top
      subst ev
      refine ⟨l, ns, rfl, hs, hz, fun p' cc np hc => ?_⟩
      refine ⟨p', _, cc, rfl, upd_same, by omega, fun ks nd hk hlen => ?_⟩
      rw [← hlen]
      exact q _ _ _ _ G' ((c'.pop.alloc np).fz (.int _)) (hq ks nd fun k => (hk k).trans (decide_eq_true_iff)))
/-- sorted(set(x)) -/
theorem je_sortedSet (cj : CJ P w K mg base S k X B E) (j j2 : Nat) {p2 q2 : Pos} {Q : Ent → List Ent → Prop} (hm : mg "sorted" = none) (hm2 : mg "set" = none)
    (h : JV X B e G fun d G' => ∃ ns : List Int, IntSeq ns d ∧ ns.length < 64 ∧ ∀ ks : List Int, ks.Pairwise (· < ·) → (∀ k, k ∈ ks ↔ k ∈ ns) → Q (.ow (.lst (ks.map .int))) G') (hj : S.gl[j]? = some "sorted" := by rfl) (hj2 : S.gl[j2]? = some "set" := by rfl)
    (he : starEach [e] X.env = (false, eval e X.env) :: starEach [] X.env := by rfl) (hpl : (backTo q2 (starEach [] X.env)).any (·.1) = false := by rfl)
    (he2 : starEach [.Call (.Name "set" p2) [e] [] q2] X.env = (false, eval (.Call (.Name "set" p2) [e] [] q2) X.env) :: starEach [] X.env := by rfl) (hpl2 : (backTo pos (starEach [] X.env)).any (·.1) = false := by rfl) :
    JE X B (.Call (.Name "sorted" p) [.Call (.Name "set" p2) [e] [] q2] [] pos) G Q := fun t s z F H VQ hl c q =>
  tS_of (pe_callB (cr_sortedSet cj.calm) (cj.gl hj) (cj.mgx hm) (by decide +kernel) (pa_cons (pe_callTy (cr_setL cj.calm) (cj.gl hj2) (cj.mgx hm2) (by decide +kernel) (pa_cons pe_sem pa_nil he) (cj.nnm hj2) (cj.dbg hj2) he hpl) pa_nil he2) (cj.nnm hj) (cj.dbg hj) he2 hpl2)
    (h t s z F H _ hl c fun v F' H' d G' c' ⟨ns, sd, hz, hq⟩ => by
      obtain ⟨l, ev, hs⟩ := sd.at c'.fh c'.top
      subst ev
      refine ⟨l, ns, rfl, hs, hz, fun p' cc np hc => ?_⟩
      refine ⟨p', _, cc, rfl, upd_same, by omega, fun ks r pw hk hlen nr => ?_⟩
      exact q _ _ _ _ G' ((c'.pop.alloc np).newL nr (dps_ints ks)) trivial (hq ks pw fun k => (hk k).trans (decide_eq_true_iff)))

/-! ## types, isinstance -/
theorem jv_ty (cj : CJ P w K mg base S k X B E) (j : Nat) {T : String} {Q : D → List Ent → Prop} (hm : mg x = none) (hv : bootBuiltins x = some (.type T)) (h : Q (.raw (.ty T)) G) (hj : S.gl[j]? = some x := by rfl) : JV X B (.Name x pos) G Q := fun t s z F H VQ hl c q =>
  tS_of (pe_bltn (v := .ty T) (cj.gl hj) (cj.mgx hm) hv rfl (cj.nnm hj) (cj.dbg hj)) (q _ F H _ G (c.fz (.raw _)) h)
/-- the built-in type that a datum has -/
def D.tyn : D → Option String
  | .non => some "NoneType"
  | .bl _ => some "bool"
  | .int _ => some "int"
  | .str _ => some "str"
  | .tup _ => some "tuple"
  | .tp _ => some "tuple"
  | .lst _ => some "list"
  | .kls _ => some "list"
  | _ => none
theorem D.ty {F : Hp} {v : V} {d : D} {T : String} (h : DP K F v d) (e : d.tyn = some T) : TyX K F v (.type T) := by
  cases h with
  | non => cases e; exact .base .non
  | bl b => cases e; exact .base (.bl b)
  | int b => cases e; exact .base (.int b)
  | str b => cases e; exact .base (.str b)
  | tup h1 h2 =>
    cases e
    rcases h1 with (h1 | ⟨o, h1⟩) | ⟨o, _, _, h1, h2, _⟩
    · exact .base (.tup h1)
    · exact .fTuple h1
    · exact .kTuple h1 h2
  | lst h1 h2 => cases e; exact .base (.lst h1)
  | kls h1 h2 =>
    cases e
    rcases h1 with (h1 | ⟨o, h1⟩) | ⟨o, _, _, h1, h2, _⟩
    · exact .base (.lst h1)
    · exact .base (.frz h1)
    · exact .kList h1 h2
  | ins _ _ _ _ => cases e
  | raw v => cases e
  | tp h1 h2 => cases e; exact .base (.tup h1)
  | exc _ _ _ => cases e
  | dct _ _ _ => cases e
theorem jv_isi (cj : CJ P w K mg base S k X B E) (j : Nat) {Q : D → List Ent → Prop} (hm : mg "isinstance" = none) (h : JV X B a G fun d1 G1 => JV X B b G1 fun d2 G2 => ∃ T T' r, d1.tyn = some T ∧ d2 = .raw (.ty T') ∧ kitB T T' = some r ∧ Q (.bl r) G2) (hj : S.gl[j]? = some "isinstance" := by rfl)
    (he : starEach [a, b] X.env = (false, eval a X.env) :: starEach [b] X.env := by rfl) (he2 : starEach [b] X.env = (false, eval b X.env) :: starEach [] X.env := by rfl) (hpl : (backTo pos (starEach [b] X.env)).any (·.1) = false := by rfl) : JV X B (.Call (.Name "isinstance" p) [a, b] [] pos) G Q := fun t s z F H VQ hl c q =>
  tS_of (pe_callB call_isi (cj.gl hj) (cj.mgx hm) (by decide +kernel) (pa_cons pe_sem (pa_cons pe_sem pa_nil he2) he) (cj.nnm hj) (cj.dbg hj) he hpl)
    (run2 h hl c fun v u F' H' d1 d2 G' c' ⟨T, T', r, e1, e2, e3, hq⟩ => by
      subst e2
      have tv : TyX X.K H' v (.type T) := D.ty c'.pop.topH e1
      cases c'.top
      exact ⟨v, _, _, _, r, rfl, .ty T', tv, kit_ty e3, q _ F' H' _ G' (c'.pop.pop.fz (.bl r)) hq⟩)
end
end J

namespace J
open PySem PySem.Spec L2
section
variable {P : Program} {w : World} {K : PySem.W.Frag} {mg : Str → Option Value} {base : Heap} {S : Sc} {k : Nat} {X : Cx} {B : Bs} {E : XW} {G : List Ent} {a b e o : Expr} {es : List Expr} {pos p apos : Pos} {x : Str}
theorem CJ.pass (cj : CJ P w K mg base S k X B E) : Passes (L2.CX P w) X (fun cls d H => E.W cls d [] H) := by
  have := passes_call (E := fun cls d H => E.W cls d [] H) cj.tk (fun cls d s H h => cj.ind cls d [] s H h)
  rw [cj.hprog, cj.hw] at this
  exact this
theorem lookup_no {ns : List Str} {m : Str} : ∀ {fs : List (Str × V)}, ns = fs.map (·.1) → m ∉ ns → fs.lookup m = none
  | [], _, _ => rfl
  | (g, v) :: fs, e, h => by
    subst e
    rw [List.map_cons] at h
    rw [List.lookup_cons]
    have h1 : m ≠ g := fun z => h (by rw [z]; exact List.mem_cons_self)
    rw [show (m == g) = false from beq_eq_false_iff_ne.mpr h1]
    exact lookup_no rfl fun z => h (List.mem_cons_of_mem _ z)
/-- o.m(..) of a frozen instance -/
theorem meth_run {U : Spec} {C : Addr} {m : Str} {Q : Ent → List Ent → Prop} (cj : CJ P w K mg base S k X B E)
    (h : JV X B o G fun d0 G0 => ∃ ns fs, d0 = .ins C ns fs ∧ m ∉ ns ∧ JD X B es G0 fun ds G' => U (.v (.ins C ns fs) :: ds.map .v) (fun r _ => Q r G') (fun x => E.R x G'))
    {t s : St} {z : List Ent} {F H : Hp} {VQ : VK} (hl : t.length = z.length) (c : Conf X.K B (t ++ s) F H (z ++ G))
    (q : ∀ v F' H' r G', Conf X.K B (some v :: (t ++ s)) F' H' (r :: (z ++ G')) → IsR r → Q r G' → VQ v H') :
    tMeth C m (SpJ K U) [] (fun cls d H => E.W cls d [] H) (tS X o) (tAr X es) s H VQ := by
  refine h t s z F H _ hl c fun v F' H' d0 G0 c' ⟨ns, fs, e0, hm, h2⟩ => ?_
  subst e0
  have tp := c'.topH
  cases tp with
  | @ins a _ dx fvs _ _ h3 h4 h5 h6 =>
    refine ⟨a, dx, fvs, rfl, h3, lookup_no h5 hm, ?_⟩
    refine h2 (some (.ref a) :: t) s (.fz (.ins C ns fs) :: z) F' H' _ (by simp [hl]) c' fun vs as F2 H2 G2 c2 ab ⟨ds, eas, sp⟩ => ?_
    subst eas
    rw [List.append_nil]
    have c3 : Conf X.K B (((V.ref a :: vs).map some).reverse ++ (t ++ s)) F2 H2 ((((.ins C ns fs :: ds).map Arg.v).map Arg.ent).reverse ++ (z ++ G2)) := by
      rw [List.map_cons, List.map_cons, List.map_cons, List.reverse_cons, List.reverse_cons, List.append_assoc, List.append_assoc]
      exact c2
    refine (call_ok (as := (D.ins C ns fs :: ds).map Arg.v) cj hl c3 (.cons trivial ab) (okB_vs _ _) ?_ q).monoE fun cls d H hE => cj.ind cls d s [] H hE
    rw [parsOf_vs, updB_vs]
    exact (funext fun r => funext fun bs => by rw [updB_vs] : (fun r bs => Q r (updB ((D.ins C ns fs :: ds).map .v) bs 0 G2)) = fun r _ => Q r G2) ▸ sp
theorem je_meth {U : Spec} {C f : Addr} {fd : FuncData} {ps : List Str} {kf : Nat} {m : Str} {Q : Ent → List Ent → Prop} {pl : Sem Bool} (cj : CJ P w K mg base S k X B E) (Fo : FnOk P w K mg base (L2.CX P w) kf f fd ps (SpJ K U)) (hk : kf ≤ k) (cl : Cls K C) (me : Meth K C m f) (bi : Binds K fd ps [])
    (h : JV X B o G fun d0 G0 => ∃ ns fs, d0 = .ins C ns fs ∧ m ∉ ns ∧ JD X B (e :: es) G0 fun ds G' => U (.v (.ins C ns fs) :: ds.map .v) (fun r _ => Q r G') (fun x => E.R x G'))
    (he : starEach (e :: es) X.env = (false, eval e X.env) :: starEach es X.env := by rfl) (hpl : (backTo pos (starEach es X.env)).any (·.1) = false := by rfl)
    (ht : eval (.Call (.Attribute o m apos) (e :: es) [] pos) X.env = (do
      let ov ← eval o X.env
      standAt apos.atName
      let (f, first) ← holding [ov] (getMethod ov m pl)
      callWith pos f first (backTo pos (starEach (e :: es) X.env)) (backToKw pos (keywordEach [] X.env))) := by rfl) :
    JE X B (.Call (.Attribute o m apos) (e :: es) [] pos) G Q := fun t s z F H VQ hl c q => by
  have bi' : Binds X.K fd ps [] := by rw [cj.hK]; exact bi
  have cl' : Cls X.K C := by rw [cj.hK]; exact cl
  have me' : Meth X.K C m f := by rw [cj.hK]; exact me
  exact tS_of (pe_meth (CX := L2.CX P w) pe_sem cl' me' (fnAt cj Fo) (cj.hr.mono hk) bi' .nil cj.pass pa_sem he hpl ht) (meth_run cj h hl c q)
theorem je_meth0 {U : Spec} {C f : Addr} {fd : FuncData} {ps : List Str} {kf : Nat} {m : Str} {Q : Ent → List Ent → Prop} {pl : Sem Bool} (cj : CJ P w K mg base S k X B E) (Fo : FnOk P w K mg base (L2.CX P w) kf f fd ps (SpJ K U)) (hk : kf ≤ k) (cl : Cls K C) (me : Meth K C m f) (bi : Binds K fd ps [])
    (h : JV X B o G fun d0 G0 => ∃ ns fs, d0 = .ins C ns fs ∧ m ∉ ns ∧ U [.v (.ins C ns fs)] (fun r _ => Q r G0) (fun x => E.R x G0))
    (ht : eval (.Call (.Attribute o m apos) [] [] pos) X.env = (do
      let ov ← eval o X.env
      standAt apos.atName
      let (f, first) ← holding [ov] (getMethod ov m pl)
      callWith pos f first (backTo pos (starEach [] X.env)) (backToKw pos (keywordEach [] X.env))) := by rfl) :
    JE X B (.Call (.Attribute o m apos) [] [] pos) G Q := fun t s z F H VQ hl c q => by
  have bi' : Binds X.K fd ps [] := by rw [cj.hK]; exact bi
  have cl' : Cls X.K C := by rw [cj.hK]; exact cl
  have me' : Meth X.K C m f := by rw [cj.hK]; exact me
  refine tS_of (pe_meth0 (CX := L2.CX P w) pe_sem cl' me' (fnAt cj Fo) (cj.hr.mono hk) bi' .nil cj.pass ht) ?_
  refine h t s z F H _ hl c fun v F' H' d0 G0 c' ⟨ns, fs, e0, hm, sp⟩ => ?_
  subst e0
  have tp := c'.topH
  cases tp with
  | @ins a _ dx fvs _ _ h3 h4 h5 h6 =>
    refine ⟨a, dx, fvs, rfl, h3, lookup_no h5 hm, ?_⟩
    refine (fun hh => hh) ((call_ok (vs := [.ref a]) (as := [D.ins C ns fs].map Arg.v) cj hl c' (.cons trivial .nil) (okB_vs _ _) ?_ q).monoE fun cls d H hE => cj.ind cls d s [] H hE)
    rw [parsOf_vs, updB_vs]
    exact (funext fun r => funext fun bs => by rw [updB_vs] : (fun r bs => Q r (updB ([D.ins C ns fs].map .v) bs 0 G0)) = fun r _ => Q r G0) ▸ sp
/-- C(..): a new instance -/
theorem je_make {U : Spec} {C f : Addr} {fd : FuncData} {ps : List Str} {kf : Nat} {Q : Ent → List Ent → Prop} (cj : CJ P w K mg base S k X B E) (Fo : FnOk P w K mg base (L2.CX P w) kf f fd ps (SpJ K U)) (hk : kf + 1 ≤ k) (j : Nat) (mk : Mk K C f) (hm : mg x = some (.ref C)) (bi : Binds K fd ps [])
    (h : JD X B (e :: es) G fun ds G' => U (.b (.ins C [] []) :: ds.map .v) (fun r bs => r = .fz .non ∧ ∃ o, bs.lookup 0 = some o ∧ Q (.ow o) G') (fun x => E.R x G')) (hj : S.gl[j]? = some x := by rfl)
    (he : starEach (e :: es) X.env = (false, eval e X.env) :: starEach es X.env := by rfl) (hpl : (backTo pos (starEach es X.env)).any (·.1) = false := by rfl) :
    JE X B (.Call (.Name x p) (e :: es) [] pos) G Q := fun t s z F H VQ hl c q => by
  have bi' : Binds X.K fd ps [] := by rw [cj.hK]; exact bi
  have mk' : Mk X.K C f := by rw [cj.hK]; exact mk
  refine tS_of (pe_make (CX := L2.CX P w) mk' (fnAt cj Fo) (cj.hr.mono hk) (cj.gl hj) (cj.mgx hm) bi' .nil cj.pass pa_sem (cj.dbg hj) he hpl) ?_
  refine h t s z F H _ hl c fun vs as F1 H1 G1 c1 ab ⟨ds, eas, sp⟩ => ?_
  subst eas
  intro a dx na ndx ne
  rw [List.append_nil]
  have c2 := c1.alloc (o := .own a) ndx
  have na2 : (upd H1 dx (.own a)) a = none := by rw [upd_ne (fun z => ne z.symm)]; exact na
  have c3 := c2.new (p := a) (ho := .ins C dx []) (o := .ins C [] []) na2 ⟨dx, [], upd_same, upd_same, rfl, .nil⟩
  have c4 := c3.push (v := some (.ref a)) (e := .no) trivial (oad_no _)
  have hl2 : ((vs.map some).reverse).length = (((ds.map Arg.v).map Arg.ent).reverse).length := by simp [ab.length]
  have c5 : Conf X.K B (((V.ref a :: vs).map some).reverse ++ ([] ++ (some (.ref a) :: (t ++ s)))) (upd F1 dx (.own a)) (upd (upd H1 dx (.own a)) a (.ins C dx [])) (((Arg.b 0 :: ds.map Arg.v).map Arg.ent).reverse ++ ([] ++ (.ow (.ins C [] []) :: (z ++ G1)))) := by
    have : Conf X.K B ([some (.ref a), some (.ref a)] ++ ((vs.map some).reverse ++ (t ++ s))) (upd F1 dx (.own a)) (upd (upd H1 dx (.own a)) a (.ins C dx [])) ([.no, .ow (.ins C [] [])] ++ (((ds.map Arg.v).map Arg.ent).reverse ++ (z ++ G1))) := c4
    have r := this.rot rfl hl2
    rw [List.map_cons, List.map_cons, List.reverse_cons, List.reverse_cons, List.append_assoc, List.append_assoc]
    exact r
  have ab5 : Paired (ArgB (some (.ref a) :: (t ++ s))) (V.ref a :: vs) (Arg.b 0 :: ds.map Arg.v) := by
    refine .cons rfl ?_
    have go : ∀ {vs : List V} {ds : List D}, vs.length = ds.length → Paired (ArgB (some (.ref a) :: (t ++ s))) vs (ds.map Arg.v) := by
      intro vs
      induction vs with
      | nil => intro ds h; cases ds with
        | nil => exact .nil
        | cons _ _ => simp at h
      | cons v vs ih => intro ds h; cases ds with
        | nil => simp at h
        | cons d ds => exact .cons trivial (ih (by simpa using h))
    exact go (by simpa using ab.length)
  have fb : findB 0 1 (ds.map Arg.v) = none := findB_vs 0 1 ds
  have ok5 : okB (.ow (.ins C [] []) :: (z ++ G1)) (Arg.b 0 :: ds.map Arg.v) = true := by
    show ((entOw (some (.ow (.ins C [] [])))).isSome && (findB 0 0 (ds.map Arg.v)).isNone && okB _ (ds.map Arg.v)) = true
    rw [findB_vs, okB_vs]; rfl
  have pe5 : parsOf (.ow (.ins C [] []) :: (z ++ G1)) (Arg.b 0 :: ds.map Arg.v) = .b (.ins C [] []) :: ds.map .v := by
    show Par.b (.ins C [] []) :: parsOf _ (ds.map Arg.v) = _
    rw [parsOf_vs]
  rw [← cj.hK]
  have tail : ∀ (bs : List (Nat × Ow)), updB (Arg.b 0 :: ds.map Arg.v) bs 0 (.ow (.ins C [] []) :: (z ++ G1)) = newE (Arg.b 0 :: ds.map Arg.v) bs 0 (.ow (.ins C [] [])) :: (z ++ G1) := fun bs => by
    show newE _ bs 0 _ :: updB _ bs 1 (z ++ G1) = _
    congr 1
    have go : ∀ (g : List Ent) (j : Nat), 1 ≤ j → updB (Arg.b 0 :: ds.map Arg.v) bs j g = g := by
      intro g
      induction g with
      | nil => intro j _; rfl
      | cons e g ih =>
        intro j hj
        show newE _ bs j e :: updB _ bs (j + 1) g = e :: g
        rw [ih (j + 1) (by omega)]
        have : findB j 0 (Arg.b 0 :: ds.map Arg.v) = none := by
          show (if 0 = j then some 0 else findB j 1 (ds.map Arg.v)) = none
          rw [if_neg (by omega), findB_vs]
        simp [newE, this]
    exact go _ 1 (Nat.le_refl 1)
  have sp2 : U (Par.b (.ins C [] []) :: ds.map .v) (fun r bs => r = .fz .non ∧ ∃ o, bs.lookup 0 = some o ∧ Q (.ow o) G1) (fun x => E.R x G1) := sp
  rw [← pe5] at sp2
  refine ⟨_, _, ⟨upd F1 dx (.own a), _, V.ref a :: vs, lentM (V.ref a :: vs) (Arg.b 0 :: ds.map Arg.v)⟩, _, _, rfl, rfl, rfl, c5.enter rfl ab5 ok5, sp2, fun v F' H' r bs fi ⟨er, o, hlo, hq⟩ => ?_, fun xd F' H' od c' xo hx => ?_⟩
  · obtain ⟨c6, hn⟩ := Conf.leave rfl rfl c5 ab5 ok5 fi.c bs fi.bs
    subst er
    have ev : v = .non := by
      cases fi.c.top; rfl
    refine ⟨ev, ?_⟩
    rw [tail] at c6
    have ne0 : newE (Arg.b 0 :: ds.map Arg.v) bs 0 (.ow (.ins C [] [])) = .ow o := by
      simp [newE, findB, hlo]
    rw [ne0] at c6
    exact q _ F' H' (.ow o) G1 c6 trivial hq
  · obtain ⟨c6, _⟩ := Conf.leave rfl rfl c5 ab5 ok5 c' [] (fun p hp => by cases hp)
    rw [tail] at c6
    exact cj.ind _ _ s [] H' (cj.lk t s z F' H' _ xd od hl c6.pop xo hx)
/-- self.f = e, a new field -/
theorem putF_new {f : Str} {v : V} : ∀ {fs : List (Str × V)}, f ∉ fs.map (·.1) → putF f v fs = fs ++ [(f, v)]
  | [], _ => rfl
  | (g, y) :: fs, h => by
    rw [List.map_cons] at h
    show (if g = f then (g, v) :: fs else (g, y) :: putF f v fs) = _
    rw [if_neg fun z => h (by rw [z]; exact List.mem_cons_self), putF_new fun z => h (List.mem_cons_of_mem _ z)]
    rfl
theorem js_fld (cj : CJ P w K mg base S k X B E) (i : Nat) {f : Str} {xp p2 : Pos} {Dd : Dn} (h : JV X B e G fun d G' => ∃ C ns ds, entOw G'[i]? = some (.ins C ns ds) ∧ Cls K C ∧ NoAttr K C f ∧ ns.length < 1000 ∧ f ∉ ns ∧ Dd.nx (setOw G' i (.ins C (ns ++ [f]) (ds ++ [d]))))
    (hN : S.N[i]? = some x := by rfl) (hv : i ∈ S.vi := by decide) (hs : swapsWith e (some (.Attribute (.Name x xp) f p2)) pos.line X.env = pure false := by rfl) : JS X B (.Assign [.Attribute (.Name x xp) f p2] e pos) G Dd := fun t s z F H De hl c kk => by
  have hn := okName_of (Sc.vis cj.ok hv hN).1
  refine tSt_of (ps_fld (pe_var (cj.xN hN) (cj.vis hv hN) hn.1 hn.2.1) pe_sem hs) ?_
  refine h t s z F H _ hl c fun v F' H' d G' c' ⟨C, ns, ds, eo, cl, na, hz, hf, hq⟩ => ?_
  have dp := c'.top
  obtain ⟨a, e1, ⟨dx, fs, h1, h2, h3, h4⟩, fa, wr⟩ := c'.pop.slot hl eo
  subst h3
  rw [← cj.hK] at cl na
  refine ⟨.ref a, e1, a, C, dx, fs, rfl, h1, cl, na, by simpa using hz, ?_⟩
  rw [putF_new hf]
  refine kk.nx s F' _ _ rfl (wr _ (.ins C (fs.map (·.1) ++ [f]) (ds ++ [d])) ⟨dx, fs ++ [(f, v)], upd_same, ?_, by simp, ?_⟩) hq
  · exact h2
  · rw [List.map_append]; exact papp h4 (.cons dp .nil)
/-- raise C('..') -/
theorem js_raise (cj : CJ P w K mg base S k X B E) (j : Nat) {C : Addr} {bmB : List Value} {Bn newId initId : String} {m : Str} {jj : Nat} {p2 pos2 : Pos} {Dd : Dn} (xb : ExcBaseFacts Bn newId initId bmB) (xi : PySem.W.excIn K C bmB newId = true) (hm : mg x = some (.ref C)) (kp : PySem.W.keepIn K (.ref C) = true)
    (su : PySem.W.subIn K (.ref C) (.type "BaseException") = some true) (ty : PySem.W.typeIn K (.ref C) = some (.type "type")) (h : E.R ⟨C, []⟩ G) (hj : S.gl[j]? = some x := by rfl) :
    JS X B (.Raise (some (.Call (.Name x p) [.Constant (.str m) jj p2] [] pos2)) none pos) G Dd := fun t s z F H De hl c kk => by
  rw [← cj.hK] at xi kp su ty
  exact tSt_of (ps_raise cj.calm cj.tk (pmk_own xb xi (cj.mgx hm) kp (raises_own su ty) (cj.gl hj) (cj.dbg hj))) (cj.lk t s z F H G ⟨C, []⟩ none hl c (.inl ⟨rfl, rfl⟩) h)
/-- (..) * n -/
theorem jv_repT {Q : D → List Ent → Prop} (h : JV X B a G fun d1 G1 => JV X B b G1 fun d2 G2 => ∃ ds n, d1 = .tup ds ∧ d2 = .int n ∧ ds ≠ [] ∧ 2 ≤ n ∧ n ≤ 1000 ∧ ds.length ≤ 1000 ∧ Q (.tup (List.replicate n.toNat ds).flatten) G2) : JV X B (.BinOp a .Mult b pos) G Q := fun t s z F H VQ hl c q =>
  tS_of (pe_op op_repT pe_sem pe_sem) (run2 h hl c fun v u F' H' d1 d2 G' c' ⟨ds, n, e1, e2, h0, h1, h2, hz, hq⟩ => by
    subst e1 e2
    have sm := c'.fh
    cases c'.top
    cases c'.pop.top with
    | @tup _ xs _ h3 h4 =>
      refine ⟨_, n, _, rfl, rfl, sameT sm h3, fun z => ?_, h1, h2, by rw [h4.length]; exact hz, fun p np => ?_⟩
      · subst z; cases h4; exact h0 rfl
      · exact q (.ref p) _ _ _ G' (c'.pop.pop.newT np (pflat (prep h4 _))) hq)
/-! ### a slot read as a frozen thing where it may be one's own -/
end
end J

namespace J
open PySem PySem.Spec L2
section
variable {P : Program} {w : World} {K : PySem.W.Frag} {mg : Str → Option Value} {base : Heap} {S : Sc} {k : Nat} {X : Cx} {B : Bs} {E : XW} {G : List Ent} {a b e o : Expr} {es : List Expr} {pos p apos : Pos} {x : Str}
/-- a call that is handed a new thing of the caller's -/
theorem give_ok {U : Spec} {ow : Ow} {ad : Addr} {t s : St} {z : List Ent} {F H : Hp} {vs : List V} {ds : List D} {R : Ent → List (Nat × Ow) → Prop} {RX : XD → Prop} {VQ : VK} (cj : CJ P w K mg base S k X B E) (hl : t.length = z.length)
    (c : Conf X.K B ((vs.map some).reverse ++ (some (.ref ad) :: (t ++ s))) F H (((ds.map Arg.v).map Arg.ent).reverse ++ (.ow ow :: (z ++ G)))) (hlen : vs.length = ds.length)
    (sp : U (.b ow :: ds.map .v) R RX)
    (hR : ∀ v F' H' r bs, Conf X.K B (some v :: (t ++ s)) F' H' (r :: (z ++ G)) → IsR r → R r bs → VQ v H') (hX : ∀ x, RX x → E.R x G) :
    SpJ K U (.ref ad :: vs) H VQ (fun cls d H => E.W cls d [] H) := by
  have hl2 : ((vs.map some).reverse).length = (((ds.map Arg.v).map Arg.ent).reverse).length := by simp [hlen]
  have c5 : Conf X.K B (((V.ref ad :: vs).map some).reverse ++ ([] ++ (some (.ref ad) :: (t ++ s)))) F H (((Arg.b 0 :: ds.map Arg.v).map Arg.ent).reverse ++ ([] ++ (.ow ow :: (z ++ G)))) := by
    have c4 := c.push (v := some (.ref ad)) (e := .no) trivial (oad_no _)
    have : Conf X.K B ([some (.ref ad)] ++ ((vs.map some).reverse ++ (some (.ref ad) :: (t ++ s)))) F H ([.no] ++ (((ds.map Arg.v).map Arg.ent).reverse ++ (.ow ow :: (z ++ G)))) := c4
    have r := this.rot rfl hl2
    rw [List.map_cons, List.map_cons, List.reverse_cons, List.reverse_cons, List.append_assoc, List.append_assoc]
    exact r
  have ab5 : Paired (ArgB (some (.ref ad) :: (t ++ s))) (V.ref ad :: vs) (Arg.b 0 :: ds.map Arg.v) := by
    refine .cons rfl ?_
    have go : ∀ {vs : List V} {ds : List D}, vs.length = ds.length → Paired (ArgB (some (.ref ad) :: (t ++ s))) vs (ds.map Arg.v) := by
      intro vs
      induction vs with
      | nil => intro ds h; cases ds with
        | nil => exact .nil
        | cons _ _ => simp at h
      | cons v vs ih => intro ds h; cases ds with
        | nil => simp at h
        | cons d ds => exact .cons trivial (ih (by simpa using h))
    exact go hlen
  have ok5 : okB (.ow ow :: (z ++ G)) (Arg.b 0 :: ds.map Arg.v) = true := by
    show ((entOw (some (.ow ow))).isSome && (findB 0 0 (ds.map Arg.v)).isNone && okB _ (ds.map Arg.v)) = true
    rw [findB_vs, okB_vs]; rfl
  have pe5 : parsOf (.ow ow :: (z ++ G)) (Arg.b 0 :: ds.map Arg.v) = .b ow :: ds.map .v := by
    show Par.b ow :: parsOf _ (ds.map Arg.v) = _
    rw [parsOf_vs]
  rw [← cj.hK]
  have tail : ∀ (bs : List (Nat × Ow)), updB (Arg.b 0 :: ds.map Arg.v) bs 0 (.ow ow :: (z ++ G)) = newE (Arg.b 0 :: ds.map Arg.v) bs 0 (.ow ow) :: (z ++ G) := fun bs => by
    show newE _ bs 0 _ :: updB _ bs 1 (z ++ G) = _
    congr 1
    have go : ∀ (g : List Ent) (j : Nat), 1 ≤ j → updB (Arg.b 0 :: ds.map Arg.v) bs j g = g := by
      intro g
      induction g with
      | nil => intro j _; rfl
      | cons e g ih =>
        intro j hj
        show newE _ bs j e :: updB _ bs (j + 1) g = e :: g
        rw [ih (j + 1) (by omega)]
        have : findB j 0 (Arg.b 0 :: ds.map Arg.v) = none := by
          show (if 0 = j then some 0 else findB j 1 (ds.map Arg.v)) = none
          rw [if_neg (by omega), findB_vs]
        simp [newE, this]
    exact go _ 1 (Nat.le_refl 1)
  rw [← pe5] at sp
  refine ⟨_, _, ⟨F, _, V.ref ad :: vs, lentM (V.ref ad :: vs) (Arg.b 0 :: ds.map Arg.v)⟩, _, _, rfl, rfl, rfl, c5.enter rfl ab5 ok5, sp, fun v F' H' r bs fi hq => ?_, fun xd F' H' od c' xo hx => ?_⟩
  · obtain ⟨c6, hn⟩ := Conf.leave rfl rfl c5 ab5 ok5 fi.c bs fi.bs
    have c7 := c6.result hn fi.c rfl c5.there fi.ir
    rw [tail] at c7
    have c8 : Conf X.K B ([some v] ++ ([some (.ref ad)] ++ (t ++ s))) F' H' ([r] ++ ([newE (Arg.b 0 :: ds.map Arg.v) bs 0 (.ow ow)] ++ (z ++ G))) := c7
    exact hR v F' H' r bs (c8.rot rfl rfl).pop fi.ir hq
  · obtain ⟨c6, _⟩ := Conf.leave rfl rfl c5 ab5 ok5 c' [] (fun p hp => by cases hp)
    rw [tail] at c6
    exact cj.ind _ _ s [] H' (cj.lk t s z F' H' _ xd od hl c6.pop xo (hX xd hx))
/-- f(new thing, ..) -/
theorem je_callG {p pos : Pos} {U : Spec} {kf : Nat} {f : Addr} {fd : FuncData} {ps : List Str} {Q : Ent → List Ent → Prop} (cj : CJ P w K mg base S k X B E) (Fo : FnOk P w K mg base (L2.CX P w) kf f fd ps (SpJ K U)) (hk : kf ≤ k) (j : Nat)
    (hm : mg x = some (.ref f)) (kp : PySem.W.keepIn K (.ref f) = true) (bi : Binds K fd ps [])
    (h : JE X B e G fun r G0 => ∃ ow, r = .ow ow ∧ JD X B es G0 fun ds G' => U (.b ow :: ds.map .v) (fun r _ => Q r G') (fun x => E.R x G'))
    (hj : S.gl[j]? = some x := by rfl) (he : starEach (e :: es) X.env = (false, eval e X.env) :: starEach es X.env := by rfl) (hpl : (backTo pos (starEach es X.env)).any (·.1) = false := by rfl) :
    JE X B (.Call (.Name x p) (e :: es) [] pos) G Q := fun t s z F H VQ hl c q => by
  have bi' : Binds X.K fd ps [] := by rw [cj.hK]; exact bi
  have kp' : PySem.W.keepIn X.K (.ref f) = true := by rw [cj.hK]; exact kp
  refine tS_of (pe_call (CX := L2.CX P w) (fnAt cj Fo) (cj.hr.mono hk) (cj.gl hj) (cj.mgx hm) kp' bi' .nil cj.pass (pa_cons pe_sem pa_sem he) (cj.dbg hj) he hpl) ?_
  refine h t s z F H _ hl c fun v F1 H1 r G0 c1 ir ⟨ow, er, h2⟩ => ?_
  subst er
  obtain ⟨a0, ev, _⟩ := (c1.at (i := 0) rfl)
  have : ∃ ad, v = .ref ad := by
    cases c1.env with
    | cons q _ => obtain ⟨ad, e1, _⟩ := q; cases e1; exact ⟨ad, rfl⟩
  obtain ⟨ad, rfl⟩ := this
  refine h2 (some (.ref ad) :: t) s (.ow ow :: z) F1 H1 _ (by simp [hl]) c1 fun vs as F2 H2 G2 c2 ab ⟨ds, eas, sp⟩ => ?_
  subst eas
  rw [List.append_nil]
  exact give_ok cj hl c2 (by simpa using ab.length) sp (fun v F' H' r bs cc ir hq => q v F' H' r G2 cc ir hq) (fun x hx => hx)
end
end J

namespace J
open PySem PySem.Spec L2
/-- a law's promise -/
@[reducible] def spLaw : Spec := fun ps R _ => ∃ ns : List Int, ps = [.v (.kls (ns.map .int))] ∧ ns.length ≤ 63 ∧ R (.fz (.bl true)) []
theorem spLaw_start {K : PySem.W.Frag} {H : Hp} {a : Addr} {ns : List Int} (hS : SqL K H a (ns.map V.int)) (hl : ns.length ≤ 63) : SpJ K spLaw [.ref a] H (fun v _ => v = .bl true) (fun _ _ _ => False) := by
  refine ⟨H, [.v (.kls (ns.map .int))], ⟨H, H, [.ref a], fun _ => False⟩, fun r _ => r = .fz (.bl true), fun _ => False, rfl, rfl, rfl, ?_, ⟨ns, rfl, hl, rfl⟩, fun v F' H' r bs fi e => ?_, fun x F' H' od _ _ h => h⟩
  · refine ⟨Same.refl H, Same.refl H, fun a o _ e => e, fun a h => h, fun a n h => ⟨h, n⟩, .cons ⟨_, rfl, .kls hS (dps_ints ns)⟩ .nil, ?_, fun b hb => ?_⟩
    · show (oad _ _ ++ []).Nodup
      rw [oad_fz]; exact List.nodup_nil
    · have : b ∈ oad (some (V.ref a)) (.fz (.kls (ns.map .int))) ++ [] := hb
      rw [oad_fz] at this; cases this
  · subst e
    cases fi.c.top; rfl
theorem cx_none {P : Program} (w : World) (H : Hp) (s : Shared) (e : Value) (s' : Shared) (h : L2.CX P w [] H s (fun _ _ _ => False) e s') : False := by
  obtain ⟨_, _, _, _, _, h⟩ := h
  simp at h
theorem dp_const {K : PySem.W.Frag} {F : Hp} {u n : Nat} {od : Option Addr} {its : Array Value} {sl : Array (Option Value)} {ns : List Int} (h : K.lookup u = some ⟨.type "tuple", od, .seq its n, sl⟩) (r : Vals (ns.map V.int) its.toList) (hz : its.size ≤ sizeLine) : DP K F (.ref u) (.tup (ns.map .int)) :=
  .tup (.inr ⟨_, its, n, h, rfl, rfl, hz, r⟩) (dps_ints ns)
def blkSc (S : Sc) (scope : Scope) (vi li : List Nat) (gl : List Str) : Sc := ⟨S.N, relS scope S.sc, vi, li, gl⟩
def blkFn (S' : Sc) (scope : Scope) : Bool := S'.li.all fun i => match S'.N[i]? with
    | some x => (scope.names.lookup x == some .cell) || (S'.sc.names.lookup x == some .local)
    | none => true
section
variable {P : Program} {w : World} {K : PySem.W.Frag} {mg : Str → Option Value} {base : Heap} {S : Sc} {k : Nat} {X : Cx} {B : Bs} {E : XW} {G : List Ent} {a b e o tg : Expr} {es : List Expr} {pos p apos : Pos} {x : Str}
/-- a field, the class known by the facts -/
theorem jv_fldK (cj : CJ P w K mg base S k X B E) {C : Addr} {f : Str} {Q : D → List Ent → Prop} (cl : Cls K C) (na : NoAttr K C f) (h : JV X B e G fun d1 G1 => ∃ ns ds d, d1 = .ins C ns ds ∧ (ns.zip ds).lookup f = some d ∧ Q d G1) (hb : attributeBase e f X.env (eval e X.env) = eval e X.env := by rfl) : JV X B (.Attribute e f pos) G Q := by
  rw [← cj.hK] at cl na
  exact jv_fld (h.imp fun d1 G1 ⟨ns, ds, d, e1, e2, q⟩ => ⟨C, ns, ds, d, e1, cl, na, e2, q⟩) hb
/-- the block of a comprehension by its lists -/
abbrev InB (P : Program) (w : World) (K : PySem.W.Frag) (mg : Str → Option Value) (base : Heap) (S' : Sc) (k : Nat) (B : Bs) : Cx → Prop := fun X' => CJ P w K mg base S' k X' B XW.non
theorem je_lcB (cj : CJ P w K mg base S k X B E) {elt iter : Expr} {ifs : List Expr} {scope : Scope} (vi li : List Nat) (gl : List Str) (own : List (Str × Nat)) {Q : Ent → List Ent → Prop}
    (h : JI X B tg iter G fun n item G1 => LcI n item (InB P w K mg base (blkSc S scope vi li gl) k B) B (blkSc S scope vi li gl) tg elt ifs G1 fun acc G2 => Q (.ow (.lst acc)) G2)
    (so : (blkSc S scope vi li gl).ok = true := by decide +kernel) (fo : blkFn (blkSc S scope vi li gl) scope = true := by decide +kernel) (bo : blkC S.N S.sc scope own = true := by decide +kernel) (ho : own.map (·.2) = li := by rfl) (hs : ∀ x, foldedSetIterable iter X.env x = pure x := by intro _; rfl) :
    JE X B (.ListComp elt [⟨tg, iter, ifs, 0⟩] scope pos) G Q := je_lc cj (blkSc S scope vi li gl) own h ⟨rfl, rfl, so, fo⟩ bo ho hs
def swB (sc scope : Scope) (t : Str) (same : Bool) : Bool := ((if sc.kind.isAnnotationScope then ScopeKind.function else sc.kind) == .function) && (sc.names.lookup t == some .local) && same && !(scope.names.any fun (n, k) => n == t && (k == .local || k == .cell))
theorem swaps_eq (h : X.env.scope = S.sc) {elt : Expr} {gens : List Comprehension} {scope : Scope} {t : Str} {l : Nat} : swapsWith (.ListComp elt gens scope pos) (some (.Name t p)) l X.env = pure (swB S.sc scope t (p.line == pos.line)) := by
  rw [← h]; rfl
/-- name = [..]: the name a local, on one line -/
theorem js_setLcB (cj : CJ P w K mg base S k X B E) (i : Nat) {elt iter : Expr} {ifs : List Expr} {scope : Scope} {py sp : Pos} (vi li : List Nat) (gl : List Str) (own : List (Str × Nat)) {Dd : Dn}
    (h : JI X B tg iter G fun n item G1 => LcI n item (InB P w K mg base (blkSc S scope vi li gl) k B) B (blkSc S scope vi li gl) tg elt ifs G1 fun acc G2 => Dd.nx (G2.set i (.ow (.lst acc))))
    (so : (blkSc S scope vi li gl).ok = true := by decide +kernel) (fo : blkFn (blkSc S scope vi li gl) scope = true := by decide +kernel) (bo : blkC S.N S.sc scope own = true := by decide +kernel) (hyl : S.sc.names.lookup x = some .local := by decide +kernel) (hsw : swB S.sc scope x (py.line == pos.line) = true := by decide +kernel)
    (hN : S.N[i]? = some x := by rfl) (ho : own.map (·.2) = li := by rfl) (hs : ∀ x, foldedSetIterable iter X.env x = pure x := by intro _; rfl) :
    JS X B (.Assign [.Name x py] (.ListComp elt [⟨tg, iter, ifs, 0⟩] scope pos) sp) G Dd := js_setLc cj i (blkSc S scope vi li gl) own h ⟨rfl, rfl, so, fo⟩ bo hyl (by rw [swaps_eq cj.hsc, hsw]) hN ho hs
/-- .. the name captured by another block -/
theorem js_setLcC (cj : CJ P w K mg base S k X B E) (i : Nat) {elt iter : Expr} {ifs : List Expr} {scope : Scope} {py sp : Pos} (vi li : List Nat) (gl : List Str) (own : List (Str × Nat)) {Dd : Dn}
    (h : JI X B tg iter G fun n item G1 => LcI n item (InB P w K mg base (blkSc S scope vi li gl) k B) B (blkSc S scope vi li gl) tg elt ifs G1 fun acc G2 => Dd.nx (G2.set i (.ow (.lst acc))))
    (so : (blkSc S scope vi li gl).ok = true := by decide +kernel) (fo : blkFn (blkSc S scope vi li gl) scope = true := by decide +kernel) (bo : blkC S.N S.sc scope own = true := by decide +kernel) (hsw : swB S.sc scope x (py.line == pos.line) = false := by decide +kernel)
    (hN : S.N[i]? = some x := by rfl) (hv : i ∈ S.li := by decide) (ho : own.map (·.2) = li := by rfl) (hs : ∀ x, foldedSetIterable iter X.env x = pure x := by intro _; rfl) :
    JS X B (.Assign [.Name x py] (.ListComp elt [⟨tg, iter, ifs, 0⟩] scope pos) sp) G Dd := js_set cj i (je_lcB cj vi li gl own h so fo bo ho hs) hN hv (by rw [swaps_eq cj.hsc, hsw])
/-- a comprehension where each turn leaves the same behind, its value of an item told by a relation -/
theorem LcI.map {n : Nat} {item : Nat → D → Prop} {CJX : Cx → Prop} {S' : Sc} {elt : Expr} {Q : List D → List Ent → Prop} (V : Nat → D → Prop) (hn : n ≤ sizeLine) (I : List Ent → Prop) (h0 : I (wipeE G S'.li))
    (step : ∀ i d G2, i < n → item i d → I G2 → ∀ X1, CJX X1 → JG X1 B S'.li tg (.fz d) G2 fun G3 => ∀ X3, CJX X3 → JV X3 B elt G3 fun d' G5 => V i d' ∧ I (wipeE G5 S'.li))
    (fin : ∀ acc G2, acc.length = n → (∀ i d, acc[i]? = some d → V i d) → I G2 → Q acc G2) : LcI n item CJX B S' tg elt [] G Q := by
  refine ⟨hn, fun i acc G2 => acc.length = i ∧ (∀ j d, acc[j]? = some d → V j d) ∧ I G2, ⟨rfl, fun j d h => by simp at h, h0⟩, fun i d acc G2 hi hd ⟨ha, hv, hI⟩ _ => ?_, fun acc G2 ⟨ha, hv, hI⟩ => fin acc G2 ha hv hI⟩
  intro X1 c1
  refine fun t s z F H v GQ hl c ir q => step i d G2 hi hd hI X1 c1 t s z F H v GQ hl c ir fun s' F' H' G' e1 e2 c' q' => q s' F' H' G' e1 e2 c' fun X2 c2 => JTs.nil ⟨fun _ X3 c3 => (q' X3 c3).imp fun d' G5 ⟨hv', hI'⟩ => ⟨by simp [ha], fun j d2 h => ?_, hI'⟩, fun z => nomatch z⟩
  by_cases hj : j < acc.length
  · rw [List.getElem?_append_left hj] at h; exact hv j d2 h
  · rw [List.getElem?_append_right (by omega)] at h
    have : j - acc.length = 0 := by
      by_cases hz : j - acc.length = 0
      · exact hz
      · rw [List.getElem?_eq_none (by simp; omega)] at h; cases h
    rw [this] at h
    simp at h
    subst h
    have : j = i := by omega
    subst this
    exact hv'
end
end J

namespace J
open PySem PySem.Spec L2
theorem lz {n : Nat} (h : Nat.ble n 1000 = true) : n ≤ sizeLine := Nat.le_trans (Nat.le_of_ble_eq_true h) (by decide)
theorem at_pos {α : Type} {ds : List α} {i : Int} {d : α} (h0 : 0 ≤ i) (h : ds[i.toNat]? = some d) : atI ds i = some d := by
  have e : i = ((i.toNat : Nat) : Int) := by omega
  rw [e]
  exact atI_nat h
theorem at_nat {α : Type} {ds : List α} {i : Nat} {d : α} (h : ds[i]? = some d) : atI ds (i : Int) = some d := atI_nat h
theorem atI_pos_get {α : Type} {ds : List α} {i : Int} (h0 : 0 ≤ i) (h : i < ds.length) : ∃ d, atI ds i = some d ∧ ds[i.toNat]? = some d := by
  have hlt : i.toNat < ds.length := by omega
  exact ⟨ds[i.toNat], at_pos h0 (List.getElem?_eq_getElem hlt), List.getElem?_eq_getElem hlt⟩
/-- an int of a list of ints -/
def gI (ns : List Int) (i : Int) : Int := ns.getD i.toNat 0
theorem at_int {ns : List Int} {i : Int} (h0 : 0 ≤ i) (h : i < ns.length) : atI (ns.map D.int) i = some (.int (gI ns i)) := by
  have hlt : i.toNat < ns.length := by omega
  refine at_pos h0 ?_
  rw [List.getElem?_map, List.getElem?_eq_getElem hlt]
  simp [gI, List.getD, List.getElem?_eq_getElem hlt]
theorem gI_mem {ns : List Int} {i : Int} (h0 : 0 ≤ i) (h : i < ns.length) : gI ns i ∈ ns := by
  have hlt : i.toNat < ns.length := by omega
  simp [gI, List.getD, List.getElem?_eq_getElem hlt]
theorem gI_nat {ns : List Int} {i : Nat} {x : Int} (h : ns[i]? = some x) : gI ns (i : Int) = x := by simp [gI, h]
theorem ixN_pos {n : Nat} {i : Int} (h0 : 0 ≤ i) (h : i < n) : ixN n i = some i.toNat := by simp [ixN, h0, h]
/-- the data of a list of ints, told from without -/
theorem map_int_get {ns : List Int} {i : Nat} {d : D} (h : (ns.map D.int)[i]? = some d) : ∃ x, ns[i]? = some x ∧ d = .int x := by
  rw [List.getElem?_map] at h
  obtain ⟨x, h1, h2⟩ := Option.map_eq_some_iff.mp h
  exact ⟨x, h1, h2.symm⟩
theorem map_get {α : Type} {f : α → D} {ns : List α} {i : Nat} {d : D} (h : (ns.map f)[i]? = some d) : ∃ x, ns[i]? = some x ∧ d = f x := by
  rw [List.getElem?_map] at h
  obtain ⟨x, h1, h2⟩ := Option.map_eq_some_iff.mp h
  exact ⟨x, h1, h2.symm⟩
theorem at_map {α : Type} {f : α → D} {ns : List α} {i : Int} {x : α} (h0 : 0 ≤ i) (h : ns[i.toNat]? = some x) : atI (ns.map f) i = some (f x) := at_pos h0 (by rw [List.getElem?_map, h]; rfl)
theorem at_mapN {α : Type} {f : α → D} {ns : List α} {i : Nat} {x : α} (h : ns[i]? = some x) : atI (ns.map f) (i : Int) = some (f x) := at_nat (by rw [List.getElem?_map, h]; rfl)
/-- a list of data, each of a kind told by its place -/
theorem ints_of {acc : List D} {n : Nat} {f : Nat → Int} (hl : acc.length = n) (h : ∀ (i : Nat) (d : D), acc[i]? = some d → d = .int (f i)) : acc = ((List.range n).map f).map D.int := by
  apply List.ext_getElem?
  intro i
  by_cases hi : i < n
  · rw [List.map_map, List.getElem?_map, List.getElem?_range hi]
    have hlt : i < acc.length := by omega
    rw [List.getElem?_eq_getElem hlt]
    have := h i acc[i] (List.getElem?_eq_getElem hlt)
    rw [this]; rfl
  · rw [List.getElem?_eq_none (by omega), List.getElem?_eq_none (by simp; omega)]
theorem ints_ex {acc : List D} {p : Int → Prop} (h : ∀ (i : Nat) (d : D), acc[i]? = some d → ∃ x, d = .int x ∧ p x) : ∃ ns : List Int, acc = ns.map D.int ∧ ∀ x ∈ ns, p x := by
  induction acc with
  | nil => exact ⟨[], rfl, fun x h => by cases h⟩
  | cons d acc ih =>
    obtain ⟨x, rfl, hx⟩ := h 0 d rfl
    obtain ⟨ns, e, hn⟩ := ih fun i d hd => h (i + 1) d (by simpa using hd)
    exact ⟨x :: ns, by rw [e]; rfl, fun y hy => by
      rcases List.mem_cons.mp hy with rfl | hy
      · exact hx
      · exact hn y hy⟩
theorem flat_ints {n : Nat} (ns : List Int) : ∀ d ∈ ns.map D.int, Flat n d := fun d hd => by
  obtain ⟨x, _, rfl⟩ := List.mem_map.mp hd
  exact .int x
theorem ints_inj : ∀ {ns ms : List Int}, ns.map D.int = ms.map D.int → ns = ms
  | [], [], _ => rfl
  | [], _ :: _, h => by simp at h
  | _ :: _, [], h => by simp at h
  | x :: ns, y :: ms, h => by
    obtain ⟨h1, h2⟩ := List.cons.inj h
    cases h1
    rw [ints_inj h2]
section
variable {P : Program} {w : World} {K : PySem.W.Frag} {mg : Str → Option Value} {base : Heap} {S : Sc} {k : Nat} {X : Cx} {B : Bs} {E : XW} {G : List Ent} {a b e o cc : Expr} {es : List Expr} {pos p apos : Pos} {x : Str}
theorem jv_globI (cj : CJ P w K mg base S k X B E) (j : Nat) {i : Int} {Q : D → List Ent → Prop} (hm : ∃ t, mg x = some (.int i t)) (h : Q (.int i) G) (hj : S.gl[j]? = some x := by rfl) : JV X B (.Name x pos) G Q := by
  obtain ⟨t, ht⟩ := hm
  exact jv_glob (v := .int i) cj j ht ⟨t, rfl⟩ (fun _ => .int i) h hj
theorem jv_globT (cj : CJ P w K mg base S k X B E) (j : Nat) {u : Addr} {d : D} {Q : D → List Ent → Prop} (hm : mg x = some (.ref u)) (dp : ∀ F, DP K F (.ref u) d) (h : Q d G) (hj : S.gl[j]? = some x := by rfl) : JV X B (.Name x pos) G Q :=
  jv_glob (v := .ref u) cj j hm rfl dp h hj
/-- a <= b <= c of ints, as a value -/
theorem jv_lele {Q : D → List Ent → Prop} (h : JV X B a G fun d1 G1 => JV X B b G1 fun d2 G2 => ∃ i j, d1 = .int i ∧ d2 = .int j ∧ (i ≤ j → JV X B cc G2 fun d3 G3 => ∃ m, d3 = .int m ∧ Q (.bl (decide (j ≤ m))) G3) ∧ (¬ i ≤ j → Q (.bl false) G2)) (h2 : behindInMarks .LtE cc = false := by exact nomark _) : JV X B (.Compare a [.LtE, .LtE] [b, cc] pos) G Q :=
  jv_chain op_le op_le (h.imp fun d1 G1 h1 => h1.imp fun d2 G2 ⟨i, j, e1, e2, ht, hf⟩ => by
    subst e1 e2
    exact ⟨_, relB_le, fun hk => (ht (of_decide_eq_true hk)).imp fun d3 G3 ⟨m, e3, q⟩ => by subst e3; exact ⟨_, relB_le, q⟩, fun hk => hf (of_decide_eq_false hk)⟩) h2
theorem jv_lelt {Q : D → List Ent → Prop} (h : JV X B a G fun d1 G1 => JV X B b G1 fun d2 G2 => ∃ i j, d1 = .int i ∧ d2 = .int j ∧ (i ≤ j → JV X B cc G2 fun d3 G3 => ∃ m, d3 = .int m ∧ Q (.bl (decide (j < m))) G3) ∧ (¬ i ≤ j → Q (.bl false) G2)) (h2 : behindInMarks .Lt cc = false := by exact nomark _) : JV X B (.Compare a [.LtE, .Lt] [b, cc] pos) G Q :=
  jv_chain op_le op_lt (h.imp fun d1 G1 h1 => h1.imp fun d2 G2 ⟨i, j, e1, e2, ht, hf⟩ => by
    subst e1 e2
    exact ⟨_, relB_le, fun hk => (ht (of_decide_eq_true hk)).imp fun d3 G3 ⟨m, e3, q⟩ => by subst e3; exact ⟨_, relB_lt, q⟩, fun hk => hf (of_decide_eq_false hk)⟩) h2
theorem jt_lele {Q : Bool → List Ent → Prop} (h : JV X B a G fun d1 G1 => JV X B b G1 fun d2 G2 => ∃ i j, d1 = .int i ∧ d2 = .int j ∧ (i ≤ j → JV X B cc G2 fun d3 G3 => ∃ m, d3 = .int m ∧ Q (decide (j ≤ m)) G3) ∧ (¬ i ≤ j → Q false G2)) (h2 : behindInMarks .LtE cc = false := by exact nomark _) : JT X B (.Compare a [.LtE, .LtE] [b, cc] pos) G Q :=
  jt_chain op_le op_le (h.imp fun d1 G1 h1 => h1.imp fun d2 G2 ⟨i, j, e1, e2, ht, hf⟩ => by
    subst e1 e2
    exact ⟨_, relB_le, fun hk => (ht (of_decide_eq_true hk)).imp fun d3 G3 ⟨m, e3, q⟩ => by subst e3; exact ⟨_, relB_le, q⟩, fun hk => hf (of_decide_eq_false hk)⟩) h2
theorem jt_lelt {Q : Bool → List Ent → Prop} (h : JV X B a G fun d1 G1 => JV X B b G1 fun d2 G2 => ∃ i j, d1 = .int i ∧ d2 = .int j ∧ (i ≤ j → JV X B cc G2 fun d3 G3 => ∃ m, d3 = .int m ∧ Q (decide (j < m)) G3) ∧ (¬ i ≤ j → Q false G2)) (h2 : behindInMarks .Lt cc = false := by exact nomark _) : JT X B (.Compare a [.LtE, .Lt] [b, cc] pos) G Q :=
  jt_chain op_le op_lt (h.imp fun d1 G1 h1 => h1.imp fun d2 G2 ⟨i, j, e1, e2, ht, hf⟩ => by
    subst e1 e2
    exact ⟨_, relB_le, fun hk => (ht (of_decide_eq_true hk)).imp fun d3 G3 ⟨m, e3, q⟩ => by subst e3; exact ⟨_, relB_lt, q⟩, fun hk => hf (of_decide_eq_false hk)⟩) h2
theorem JS.imp {st : Stmt} {Dd Dd' : Dn} (h : JS X B st G Dd) (n : ∀ G', Dd.nx G' → Dd'.nx G') (r : ∀ x G', Dd.rt x G' → Dd'.rt x G') (b : ∀ G', Dd.bk G' → Dd'.bk G') (ct : ∀ G', Dd.ct G' → Dd'.ct G') : JS X B st G Dd' := fun t s z F H De hl c k =>
  h t s z F H De hl c ⟨fun s' F' H' G' e c' q => k.nx s' F' H' G' e c' (n G' q), fun v s' F' H' x G' c' i q => k.rt v s' F' H' x G' c' i (r x G' q), fun s' F' H' G' e c' q => k.bk s' F' H' G' e c' (b G' q), fun s' F' H' G' e c' q => k.ct s' F' H' G' e c' (ct G' q)⟩
/-- behind a statement: what holds there, whichever way was taken -/
theorem JSs.mid {st : Stmt} {sts : List Stmt} {Dd : Dn} (M : List Ent → Prop) (h1 : JS X B st G { Dd with nx := M }) (h2 : ∀ G', M G' → JSs X B sts G' Dd) : JSs X B (st :: sts) G Dd :=
  JSs.cons (h1.imp h2 (fun _ _ q => q) (fun _ q => q) (fun _ q => q))
end
end J

namespace J
open PySem PySem.Spec L2
section
variable {P : Program} {w : World} {K : PySem.W.Frag} {mg : Str → Option Value} {base : Heap} {S : Sc} {k : Nat} {X : Cx} {B : Bs} {E : XW} {G : List Ent} {a b e o cc tg : Expr} {es : List Expr} {pos p apos : Pos} {x : Str} {D : Dn}
/-- while, by an invariant with a number that falls -/
theorem JS.whileN (cj : CJ P w K mg base S k X B E) {c : Expr} {body : List Stmt} (I : Nat → List Ent → Prop) (n0 : Nat) (h0 : I n0 G)
    (hs : ∀ n G', I n G' → JT X B c G' fun b G2 => (b = true → JSs X B body G2 { D with nx := fun G3 => ∃ m, m < n ∧ I m G3, ct := fun G3 => ∃ m, m < n ∧ I m G3, bk := D.nx }) ∧ (b = false → D.nx G2)) : JS X B (.While c body [] pos) G D := fun t s z F H De hl cf k =>
  tSt_of (ps_while cj.po pt_sem pss_sem) (by
    refine ⟨fun n s' H' => ∃ F' G', s'.length = s.length ∧ Conf X.K B (t ++ s') F' H' (z ++ G') ∧ I n G', ⟨n0, F, G, rfl, cf, h0⟩, ?_⟩
    rintro n s1 H1 ⟨F1, G1, e1, c1, i1⟩
    refine hs n G1 i1 t s1 z F1 H1 _ hl c1 fun b F2 H2 G2 c2 q2 => ?_
    cases b with
    | true =>
      rw [if_pos rfl]
      refine ⟨fun s' H' => ∃ F' G', s'.length = s.length ∧ Conf X.K B (t ++ s') F' H' (z ++ G') ∧ ∃ m, m < n ∧ I m G', fun s' H' ⟨F', G', a, b, m, hm, hI⟩ => ⟨m, hm, F', G', a, b, hI⟩, ?_⟩
      exact q2.1 rfl t s1 z F2 H2 _ hl c2 ⟨fun s' F' H' G' e c' q => ⟨F', G', e.trans e1, c', q⟩, k.rt, fun s' F' H' G' e c' q => k.nx s' F' H' G' (e.trans e1) c' q, fun s' F' H' G' e c' q => ⟨F', G', e.trans e1, c', q⟩⟩
    | false =>
      rw [if_neg Bool.false_ne_true]
      exact k.nx s1 F2 H2 G2 e1 c2 (q2.2 rfl))
/-- raise C('..') by the facts of a class over LongError -/
theorem js_raiseV (cj : CJ P w K mg base S k X B E) (j : Nat) {C : Addr} {m : Str} {jj : Nat} {p2 pos2 : Pos} {Dd : Dn} (xi : PySem.W.excIn K C [.type "ValueError", .type "Exception", .type "BaseException", .type "object"] "ValueError.__new__" = true) (hm : mg x = some (.ref C)) (kp : PySem.W.keepIn K (.ref C) = true)
    (su : PySem.W.subIn K (.ref C) (.type "BaseException") = some true) (ty : PySem.W.typeIn K (.ref C) = some (.type "type")) (h : E.R ⟨C, []⟩ G) (hj : S.gl[j]? = some x := by rfl) :
    JS X B (.Raise (some (.Call (.Name x p) [.Constant (.str m) jj p2] [] pos2)) none pos) G Dd := js_raise cj j PySem.F.excBase_ValueError xi hm kp su ty h hj
end
/-- what is lent, behind the call -/
@[reducible] def putB (G : List Ent) (i : Nat) (bs : List (Nat × Ow)) : List Ent :=
  match bs.lookup 0 with
  | some o' => setOw G i o'
  | none => G.set i .no
theorem updB_putB {G : List Ent} {i : Nat} {o : Ow} {ds : List J.D} {bs : List (Nat × Ow)} (h : entOw G[i]? = some o) : updB (.b i :: ds.map Arg.v) bs 0 G = putB G i bs := by
  apply List.ext_getElem?
  intro n
  have hlen : (putB G i bs).length = G.length := by
    unfold putB
    split
    · rw [setOw_len]
    · simp
  cases hn : G[n]? with
  | none => rw [List.getElem?_eq_none (by rw [updB_len]; exact List.getElem?_eq_none_iff.mp hn), List.getElem?_eq_none (by rw [hlen]; exact List.getElem?_eq_none_iff.mp hn)]
  | some e =>
    rw [updB_at _ _ 0 G n e hn, Nat.zero_add]
    have hlt := (List.getElem?_eq_some_iff.mp hn).1
    by_cases z : i = n
    · subst z
      have fb : findB i 0 (Arg.b i :: ds.map Arg.v) = some 0 := by simp [findB]
      cases hb : bs.lookup 0 with
      | none =>
        have : putB G i bs = G.set i .no := by unfold putB; rw [hb]
        rw [this, List.getElem?_set_self hlt]
        rcases entOw_cases h with q | ⟨m, q⟩ <;> (rw [q] at hn; cases hn; simp [newE, fb, hb])
      | some o' =>
        have : putB G i bs = setOw G i o' := by unfold putB; rw [hb]
        rw [this]
        rcases entOw_cases h with q | ⟨m, q⟩
        · rw [q] at hn; cases hn
          rw [setOw_ow q, List.getElem?_set_self hlt]
          simp only [newE, fb, hb]
        · rw [q] at hn; cases hn
          rw [setOw_bw q, List.getElem?_set_self hlt]
          simp only [newE, fb, hb]
    · have fb : findB n 0 (Arg.b i :: ds.map Arg.v) = none := by
        show (if i = n then some 0 else findB n 1 (ds.map Arg.v)) = none
        rw [if_neg z, findB_vs]
      have ne : newE (.b i :: ds.map Arg.v) bs n e = e := by simp only [newE, fb]
      rw [ne]
      unfold putB
      split
      · rcases entOw_cases h with q | ⟨m, q⟩
        · rw [setOw_ow q, List.getElem?_set_ne z, hn]
        · rw [setOw_bw q, List.getElem?_set_ne z, hn]
      · rw [List.getElem?_set_ne z, hn]
section
variable {P : Program} {w : World} {K : PySem.W.Frag} {mg : Str → Option Value} {base : Heap} {S : Sc} {k : Nat} {X : Cx} {B : Bs} {E : XW} {G : List Ent} {es : List Expr}
/-- f(x, ..), x one's own, lent; the others frozen -/
theorem je_callL {x y : Str} {p pos px : Pos} {U : J.Spec} {kf : Nat} {f : Addr} {fd : FuncData} {ps : List Str} {Q : Ent → List Ent → Prop} (cj : CJ P w K mg base S k X B E) (Fo : FnOk P w K mg base (L2.CX P w) kf f fd ps (SpJ K U)) (hk : kf ≤ k) (j i : Nat)
    (hm : mg x = some (.ref f)) (kp : PySem.W.keepIn K (.ref f) = true) (bi : Binds K fd ps [])
    (h : JD X B es G fun ds G' => ∃ o, entOw G'[i]? = some o ∧ U (.b o :: ds.map .v) (fun r bs => Q r (putB G' i bs)) (fun x => E.R x (G'.set i .no)))
    (hj : S.gl[j]? = some x := by rfl) (hN : S.N[i]? = some y := by rfl) (hv : i ∈ S.vi := by decide) (hg : (entOw G[i]?).isSome = true := by rfl)
    (he : starEach (.Name y px :: es) X.env = (false, eval (.Name y px) X.env) :: starEach es X.env := by rfl) (hpl : (backTo pos (starEach es X.env)).any (·.1) = false := by rfl) :
    JE X B (.Call (.Name x p) (.Name y px :: es) [] pos) G Q :=
  je_call cj Fo hk j hm kp bi (JA.lend cj i (JA.imp h fun as G' ⟨ds, eas, o, ho, hu⟩ => by
    subst eas
    have e1 : ∀ bs, updB (.b i :: ds.map Arg.v) bs 0 G' = putB G' i bs := fun bs => updB_putB ho
    refine ⟨?_, ?_⟩
    · show ((entOw G'[i]?).isSome && (findB i 0 (ds.map Arg.v)).isNone && okB G' (ds.map Arg.v)) = true
      rw [ho, findB_vs, okB_vs]; rfl
    · have e2 : parsOf G' (.b i :: ds.map Arg.v) = .b o :: ds.map .v := by
        show (match entOw G'[i]? with | some o => Par.b o | none => Par.v .non) :: parsOf G' (ds.map Arg.v) = _
        rw [ho, parsOf_vs]
      rw [e2]
      simp only [e1]
      exact hu) hN hv hg he) hj he hpl
end
theorem JO.non {X : Cx} {B : Bs} {G : List Ent} {Q : Option Int → List Ent → Prop} (h : Q none G) : JO X B none G Q := h
theorem JO.som {X : Cx} {B : Bs} {e : Expr} {G : List Ent} {Q : Option Int → List Ent → Prop} (h : JV X B e G fun d G' => ∃ i, d = .int i ∧ Q (some i) G') : JO X B (some e) G Q := h
theorem cutD_take (xs : List D) (k : Nat) : cutD xs none (some (k : Int)) = xs.take k := by
  unfold cutD
  rw [HT.sIx_none, HT.sIx_nat]
  simp [List.take_eq_take_iff]
theorem cutD_drop (xs : List D) (k : Nat) : cutD xs (some (k : Int)) none = xs.drop k := by
  unfold cutD
  rw [HT.sIx_none, HT.sIx_nat]
  rcases Nat.le_total k xs.length with h | h
  · rw [Nat.min_eq_left h, ← List.length_drop, List.take_length]
  · rw [Nat.min_eq_right h, List.drop_length, List.drop_of_length_le h]; simp
/-! ## plain lists of ints -/
def rg (n : Int) : List Int := (List.range n.toNat).map fun i => ((i : Nat) : Int)
theorem rgI0 (n : Int) : rgI 0 n = rg n := by
  unfold rgI rg
  rw [Int.sub_zero]
  exact List.map_congr_left fun i _ => by omega
theorem rg_len {n : Int} : (rg n).length = n.toNat := by simp [rg]
theorem rg_mem {n x : Int} : x ∈ rg n ↔ 0 ≤ x ∧ x < n := by
  simp only [rg, List.mem_map, List.mem_range]
  constructor
  · rintro ⟨i, h, rfl⟩; omega
  · intro h; exact ⟨x.toNat, by omega, by omega⟩
theorem rg_get {n : Int} {i : Nat} (h : i < n.toNat) : (rg n)[i]? = some (i : Int) := by simp [rg, h]
theorem gI_rg {n i : Int} (h0 : 0 ≤ i) (h : i < n) : gI (rg n) i = i := by
  unfold gI
  rw [List.getD_eq_getElem?_getD, rg_get (by omega)]
  simp; omega
/-- a list of n ints, by places -/
theorem eq_rg {l : List Int} {n : Int} {f : Int → Int} (hl : l.length = n.toNat) (h : ∀ i : Nat, i < n.toNat → gI l i = f i) : l = (rg n).map f := by
  apply List.ext_getElem?
  intro i
  by_cases hi : i < n.toNat
  · have hlt : i < l.length := by omega
    have := h i hi
    simp only [gI, Int.toNat_natCast, List.getD_eq_getElem?_getD, List.getElem?_eq_getElem hlt, Option.getD_some] at this
    rw [List.getElem?_map, rg_get hi, List.getElem?_eq_getElem hlt]
    simp [this]
  · rw [List.getElem?_eq_none (by omega), List.getElem?_eq_none (by rw [List.length_map, rg_len]; omega)]
theorem gI_map {l : List Int} {f : Int → Int} {i : Int} (h0 : 0 ≤ i) (h : i < l.length) : gI (l.map f) i = f (gI l i) := by
  have hlt : i.toNat < l.length := by omega
  simp [gI, List.getD_eq_getElem?_getD, List.getElem?_eq_getElem hlt]
theorem gI_rgmap {n : Int} {f : Int → Int} {i : Int} (h0 : 0 ≤ i) (h : i < n) : gI ((rg n).map f) i = f i := by
  rw [gI_map h0 (by rw [rg_len]; omega), gI_rg h0 h]
/-- all of one kind -/
def One (l : List Int) : Prop := ∀ x ∈ l, ∀ y ∈ l, x = y
theorem set_one {l ks : List Int} (nd : ks.Nodup) (h : ∀ k, k ∈ ks ↔ k ∈ l) (hl : l ≠ []) : (ks.length = 1 ↔ One l) ∧ 1 ≤ ks.length := by
  obtain ⟨x, hx⟩ := List.exists_mem_of_ne_nil l hl
  have hx' := (h x).mpr hx
  refine ⟨⟨fun e => ?_, fun o => ?_⟩, List.length_pos_of_mem hx'⟩
  · obtain ⟨y, rfl⟩ := List.length_eq_one_iff.mp e
    intro a ha b hb
    have h1 := (h a).mpr ha
    have h2 := (h b).mpr hb
    simp at h1 h2
    rw [h1, h2]
  · match ks, nd, h, hx' with
    | [y], _, _, _ => rfl
    | y :: z :: r, nd, h, _ =>
      have := o y ((h y).mp (by simp)) z ((h z).mp (by simp))
      subst this
      simp at nd
end J

namespace J
open PySem PySem.Spec L2
section
open PyProof.Rows RT
variable {prog : Program} {w : World} {A : Around} {E : Value → Shared → Prop} {s : Shared}
theorem call_list_rev {it l : Addr} {items : Array Value} {Q : Value → Shared → Prop} (hh : A.handled = none) (hit : s.heap.IsRevIter it l ((items.size : Int) - 1)) (hl : s.heap.IsList l items) (hne : l ≠ it) (hn : items.size ≤ sizeLine)
    (hQ : ∀ (h' : Heap) (tk : Nat) (acc : Array Value) (c' : Nat), (∀ b o, b ≠ it → s.heap.get? b = some o → h'.get? b = some o) → h'.get? s.heap.objs.size = some { cls := .type "list", dict := none, data := .seq acc c', slots := #[] } →
      ItemsOf (fun i v => items[items.size - 1 - i]? = some v) acc items.size → Q (.ref s.heap.objs.size) { s with heap := h', toks := tk }) :
    wpAny (model prog w) A (call (.type "list") [.ref it]) Q E s := by
  refine callType_codes (Q₁ := fun obj s₁ => obj = .ref s.heap.objs.size ∧ s₁ = { s with heap := s.heap.push { cls := .type "list", data := .seq #[] } }) F.called_list (F.typeCall_list_1 _) F.entry_list_init
    (code_list_new _ ⟨rfl, rfl⟩) fun obj s₁ h₁ => ?_
  obtain ⟨rfl, rfl⟩ := h₁
  have hS : (s.heap.push { cls := .type "list", data := .seq #[] }).get? s.heap.objs.size = some { cls := .type "list", data := .seq #[] } := Heap.get?_push_size _ rfl
  have W := (Walks.listRev (prog := prog) (w := w) (A := A.in1.in1) hh it l hne items).toS
  obtain ⟨oi, hoi, _⟩ := id hit
  obtain ⟨ol, hol, _⟩ := id hl
  have hSi : s.heap.objs.size ≠ it := Nat.ne_of_gt (Heap.lt_size hoi)
  have hSl : s.heap.objs.size ≠ l := Nat.ne_of_gt (Heap.lt_size hol)
  have hSf : s.heap.objs.size ∉ [it, l] := by simp only [List.mem_cons, List.not_mem_nil, or_false, not_or]; exact ⟨hSi, hSl⟩
  refine ⟨⟨_, hS, rfl⟩, F.args_list_init_2 _ _, ?_⟩
  show wpAny _ _ (do let old ← Builtin.List.listItems (.ref s.heap.objs.size); Builtin.List.listUpdate (.ref s.heap.objs.size) (fun _ => #[]); letGo old.toList.reverse; Builtin.List.listExtendWith (.ref s.heap.objs.size) (.ref it) .none) _ _ _
  refine wpAny_bind ?_
  unfold Builtin.List.listItems
  refine wpAny_bind (wpAny_seqItems hS rfl (wpAny_pure ?_))
  show wpAny _ _ (updateSeq s.heap.objs.size (fun _ => #[]) >>= fun _ => letGo (#[] : Array Value).toList.reverse >>= fun _ => Builtin.List.listExtendWith (.ref s.heap.objs.size) (.ref it) .none) _ _ _
  refine wpAny_bind (wpAny_updateSeq hS rfl ?_)
  have hS₁ := Heap.get?_update_self (Obj.mapSeq (fun _ => (#[] : Array Value))) hS rfl
  have oth : ∀ b o, b ≠ s.heap.objs.size → s.heap.get? b = some o → ((s.heap.push { cls := .type "list", data := .seq #[] }).update s.heap.objs.size (Obj.mapSeq (fun _ => (#[] : Array Value)))).get? b = some o :=
    fun b o hb e => (Heap.get?_update_other _ _ (Ne.symm hb)).trans (Heap.get?_push_of_some _ e)
  refine wpAny_bind (wpAny_letGo ?_)
  generalize hH : (s.heap.push { cls := .type "list", data := .seq #[] }).update s.heap.objs.size (Obj.mapSeq (fun _ => (#[] : Array Value))) = Hn at hS₁ oth
  have hit1 : Hn.IsRevIter it l ((items.size : Int) - 1) := hit.at fun o e => oth _ o (Ne.symm hSi) e
  have hl1 : Hn.IsList l items := by
    obtain ⟨o, e, r⟩ := hl
    exact ⟨o, oth _ o (Ne.symm hSl) e, r⟩
  have hT : ({ s with heap := Hn } : Shared).TypeIs (.ref it) "list_reverseiterator" := Heap.IsRevIter.typeIs (s := { s with heap := Hn }) hit1
  have h1 : Builtin.List.listSameRef (.ref s.heap.objs.size) (.ref it) = false := by simp [Builtin.List.listSameRef, hSi]
  unfold Builtin.List.listExtendWith
  refine wpAny_bind (wpAny_typeOf hT ?_)
  rw [if_neg (by rw [h1]; decide)]
  refine wpAny_bind (wpAny_pyIter_revIter (s := { s with heap := Hn }) hit1 ?_)
  refine wpAny_bind (wpAny_holding ?_)
  unfold Builtin.List.listLengthHint
  refine wpAny_bind (wpAny_specialOf hT nolen_lri ?_)
  show wpAny _ _ (specialOf (Value.ref it) (Str.ofString "__length_hint__") >>= _) _ _ _
  refine wpAny_bind (wpAny_specialOf hT hint_lri ?_)
  generalize hid : ("list_reverseiterator.__length_hint__" : String) = id0
  wp_delta
  rw [show splitId id0 = some ("list_reverseiterator", "__length_hint__") from by subst hid; decide +kernel]
  subst hid
  refine wpAny_bind (wpAny_isInstance (b := true) hT (by rw [isSubtype_type]; kernel_rfl) ?_)
  refine wpAny_pure ?_
  rw [if_neg (by decide)]
  have e0 : ((items.size : Nat) : Int) - 1 - ((0 : Nat) : Int) = (items.size : Int) - 1 := by omega
  refine wpAny_pure ⟨plainId_quiet F.plain_extend_loop _, codeAny_extend_loopS W hn _ hSf _ items.size 0 _ _ _ rfl (Nat.zero_le _) ⟨Nat.zero_le _, by rw [e0]; exact hit1, hl1⟩ hS₁ (ItemsOf.nil _) fun s' acc' c' hm hS' hacc => ?_⟩
  rw [Moved.eq_with hm]
  refine ⟨rfl, hQ s'.heap s'.toks acc' c' (fun b o hb e => hm.heap b o (fun hmem => ?_) (oth b o (Nat.ne_of_lt (Heap.lt_size e)) e)) hS' hacc⟩
  rcases List.mem_cons.mp hmem with e' | hmem
  · exact absurd (Heap.lt_size e) (by rw [e']; exact Nat.lt_irrefl _)
  · exact hb (List.mem_singleton.mp hmem)
end
section
open PyProof.Rows RT
variable {X : Cx}
/-- list(reversed(x)), x a list: a new list -/
def tLstRev (K : PySem.W.Frag) (te : TE) : TE := fun σ H Q => te σ H fun v H1 => ∃ (a : Addr) (xs : List V), v = .ref a ∧ SqL K H1 a xs ∧ ∀ q, H1 q = none → Q (.ref q) (upd H1 q (.lst xs.reverse))
theorem pe_lstRev {e : Expr} {te : TE} {p p2 pos pos2 : Pos} (hc : X.calm = true) (hg : Gl X "list") (hm : X.mg "list" = none) (hg2 : Gl X "reversed") (hm2 : X.mg "reversed" = none) (he : PE X e te)
    (hs : starEach [e] X.env = (false, eval e X.env) :: starEach [] X.env := by rfl)
    (hs2 : starEach [.Call (.Name "reversed" p2) [e] [] pos2] X.env = (false, eval (.Call (.Name "reversed" p2) [e] [] pos2) X.env) :: starEach [] X.env := by rfl) :
    PE X (.Call (.Name "list" p) [.Call (.Name "reversed" p2) [e] [] pos2] [] pos) (tLstRev X.K te) := by
  refine ⟨fun pins s σ H Q I h => ?_⟩
  refine Call_ (ld_blt I hg hm PyProof.Rows.boot_list (PyProof.Rows.callWith_type1 (args_cons (Call_ (ld_blt I hg2 hm2 PyProof.Rows.boot_reversed (PyProof.Rows.callWith_type1 (args_cons (thn (he.run pins s σ H _ I h) fun u s1 ⟨v, H1, I1, r1, q1⟩ => args_nil ?_) hs) hs rfl))) hs2) hs2 rfl))
  obtain ⟨a, xs, ev, hq, q⟩ := q1
  subst ev
  obtain rfl : u = Value.ref a := r1
  obtain ⟨its, rv, p', hz⟩ := I1.list hq
  refine call_reversed_list p'.isList (args_nil ?_)
  have k0 : ∀ b o, s1.heap.get? b = some o → (s1.heap.push (revObj a ((its.toArray.size : Int) - 1))).get? b = some o := fun b o e => Heap.get?_push_of_some _ e
  have I2 : Inv X pins σ H1 { s1 with heap := s1.heap.push (revObj a ((its.toArray.size : Int) - 1)) } := I1.kept (t' := s1.toks) k0
  obtain ⟨f0, f1, f2, f3, f4, f5⟩ := I1.fpOk (H' := H1) (b := s1.heap.objs.size) (Nat.le_refl _) (I1.hok.fresh (Nat.le_refl _))
  have hl := p'.isList
  obtain ⟨ol, hol, _⟩ := id hl
  have hne : a ≠ s1.heap.objs.size := Nat.ne_of_lt (Heap.lt_size hol)
  have hn : its.toArray.size ≤ sizeLine := by rw [List.size_toArray, ← rv.length]; exact hz
  have nf : H1 (s1.heap.push (revObj a ((its.toArray.size : Int) - 1))).objs.size = none := I2.hok.fresh (Nat.le_refl _)
  refine call_list_rev (s := { s1 with heap := s1.heap.push (revObj a ((its.toArray.size : Int) - 1)) }) (I1.ok.hd hc) ⟨_, Heap.get?_push_size _ rfl, rfl, rfl⟩ (hl.push _) hne hn fun h' tk acc c' hk hS hi => ?_
  have hsz : s1.heap.objs.size ≤ (s1.heap.push (revObj a ((its.toArray.size : Int) - 1))).objs.size := by rw [Heap.size_push]; exact Nat.le_succ _
  refine ⟨.ref (s1.heap.push (revObj a ((its.toArray.size : Int) - 1))).objs.size, upd H1 _ (.lst xs.reverse), I1.laid (t' := tk) (fun b o e => hk b o (Nat.ne_of_lt (Heap.lt_size e)) (k0 b o e)) hsz (show ObjOk X.prog X.w _ _ _ (.lst xs.reverse) from ⟨by rw [List.length_reverse]; exact hz, acc.toList, c', vals_rev rv hi, ?_⟩), rfl, q _ nf⟩
  rw [Array.toArray_toList]; exact hS
end
section
variable {P : Program} {w : World} {K : PySem.W.Frag} {mg : Str → Option Value} {base : Heap} {S : Sc} {k : Nat} {X : Cx} {B : Bs} {E : XW} {G : List Ent} {e : Expr} {pos p : Pos}
theorem je_listRev (cj : CJ P w K mg base S k X B E) (j j2 : Nat) {p2 q2 : Pos} {Q : Ent → List Ent → Prop} (hm : mg "list" = none) (hm2 : mg "reversed" = none) (h : JV X B e G fun d G' => ∃ ds, d = .lst ds ∧ Q (.ow (.lst ds.reverse)) G') (hj : S.gl[j]? = some "list" := by rfl) (hj2 : S.gl[j2]? = some "reversed" := by rfl)
    (hs : starEach [e] X.env = (false, eval e X.env) :: starEach [] X.env := by rfl)
    (hs2 : starEach [.Call (.Name "reversed" p2) [e] [] q2] X.env = (false, eval (.Call (.Name "reversed" p2) [e] [] q2) X.env) :: starEach [] X.env := by rfl) : JE X B (.Call (.Name "list" p) [.Call (.Name "reversed" p2) [e] [] q2] [] pos) G Q := fun t s z F H VQ hl c q =>
  tS_of (pe_lstRev cj.calm (cj.gl hj) (cj.mgx hm) (cj.gl hj2) (cj.mgx hm2) pe_sem hs hs2) (h t s z F H _ hl c fun v F' H' d G' c' ⟨ds, ed, hq⟩ => by
    subst ed
    have sm := c'.fh
    cases c'.top with
    | @lst l xs _ h1 h2 => exact ⟨l, xs, rfl, .of (sm _ _ h1), fun p np => q _ F' _ _ G' (c'.pop.newL np (prev h2)) trivial hq⟩)
end
end J

namespace J
open PySem PySem.Spec L2
/-! ## the members of a list, rising -/
def insS (x : Int) : List Int → List Int
  | [] => [x]
  | y :: r => if x < y then x :: y :: r else if x = y then y :: r else y :: insS x r
def ss : List Int → List Int
  | [] => []
  | x :: r => insS x (ss r)
theorem insS_mem {x k : Int} : ∀ {l : List Int}, k ∈ insS x l ↔ k = x ∨ k ∈ l
  | [] => by simp [insS]
  | y :: r => by
    unfold insS
    split
    · simp
    · split
      · rename_i h; subst h; simp
      · rw [List.mem_cons, insS_mem, List.mem_cons]
        constructor
        · rintro (h | h | h) <;> simp [h]
        · rintro (h | h | h) <;> simp [h]
theorem ss_mem {k : Int} : ∀ {l : List Int}, k ∈ ss l ↔ k ∈ l
  | [] => by simp [ss]
  | x :: r => by
    show k ∈ insS x (ss r) ↔ _
    rw [insS_mem, ss_mem, List.mem_cons]
theorem insS_sorted {x : Int} : ∀ {l : List Int}, l.Pairwise (· < ·) → (insS x l).Pairwise (· < ·)
  | [], _ => by simp [insS]
  | y :: r, h => by
    obtain ⟨h1, h2⟩ := List.pairwise_cons.mp h
    unfold insS
    split
    · rename_i hx
      exact List.pairwise_cons.mpr ⟨fun z hz => by
        rcases List.mem_cons.mp hz with e | hz
        · subst e; exact hx
        · exact Int.lt_trans hx (h1 z hz), h⟩
    · split
      · exact h
      · refine List.pairwise_cons.mpr ⟨fun z hz => ?_, insS_sorted h2⟩
        rcases insS_mem.mp hz with e | hz
        · subst e; omega
        · exact h1 z hz
theorem ss_sorted : ∀ (l : List Int), (ss l).Pairwise (· < ·)
  | [] => List.Pairwise.nil
  | x :: r => insS_sorted (ss_sorted r)
theorem nodup_lt {l : List Int} (h : l.Pairwise (· < ·)) : l.Nodup := h.imp fun h => Int.ne_of_lt h
theorem ss_uniq : ∀ {l m : List Int}, l.Pairwise (· < ·) → m.Pairwise (· < ·) → (∀ k, k ∈ l ↔ k ∈ m) → l = m := fun {l m} hl hm h =>
  sorted_unique ((List.perm_ext_iff_of_nodup (nodup_lt hl) (nodup_lt hm)).mpr h) (hl.imp fun h => Int.le_of_lt h) (hm.imp fun h => Int.le_of_lt h)
theorem ss_of {ks l : List Int} (h : ks.Pairwise (· < ·)) (hm : ∀ k, k ∈ ks ↔ k ∈ l) : ks = ss l := ss_uniq h (ss_sorted l) fun k => (hm k).trans ss_mem.symm
theorem ss_len {ks l : List Int} (nd : ks.Nodup) (hm : ∀ k, k ∈ ks ↔ k ∈ l) : ks.length = (ss l).length :=
  ((List.perm_ext_iff_of_nodup nd (nodup_lt (ss_sorted l))).mpr fun k => (hm k).trans ss_mem.symm).length_eq
theorem ss_one {l : List Int} (hl : l ≠ []) : ((ss l).length = 1 ↔ One l) ∧ 1 ≤ (ss l).length := set_one (nodup_lt (ss_sorted l)) (fun _ => ss_mem) hl
theorem ss_le : ∀ (l : List Int), (ss l).length ≤ l.length
  | [] => Nat.le_refl _
  | x :: r => by
    have go : ∀ m : List Int, (insS x m).length ≤ m.length + 1 := by
      intro m
      induction m with
      | nil => simp [insS]
      | cons y m ih =>
        unfold insS
        split
        · simp
        · split
          · simp
          · simp only [List.length_cons]; omega
    have := ss_le r
    show (insS x (ss r)).length ≤ r.length + 1
    have := go (ss r)
    omega
section
variable {P : Program} {w : World} {K : PySem.W.Frag} {mg : Str → Option Value} {base : Heap} {S : Sc} {k : Nat} {X : Cx} {B : Bs} {E : XW} {G : List Ent} {e tg : Expr} {pos p : Pos}
theorem jv_lenSetS (cj : CJ P w K mg base S k X B E) (j j2 : Nat) {p2 q2 : Pos} {Q : D → List Ent → Prop} (hm : mg "len" = none) (hm2 : mg "set" = none)
    (h : JV X B e G fun d G' => ∃ ns : List Int, IntSeq ns d ∧ ns.length < 64 ∧ Q (.int (ss ns).length) G') (hj : S.gl[j]? = some "len" := by rfl) (hj2 : S.gl[j2]? = some "set" := by rfl)
    (he : starEach [e] X.env = (false, eval e X.env) :: starEach [] X.env := by rfl) (hpl : (backTo q2 (starEach [] X.env)).any (·.1) = false := by rfl)
    (he2 : starEach [.Call (.Name "set" p2) [e] [] q2] X.env = (false, eval (.Call (.Name "set" p2) [e] [] q2) X.env) :: starEach [] X.env := by rfl) (hpl2 : (backTo pos (starEach [] X.env)).any (·.1) = false := by rfl) :
    JV X B (.Call (.Name "len" p) [.Call (.Name "set" p2) [e] [] q2] [] pos) G Q :=
  jv_lenSet cj j j2 hm hm2 (h.imp fun d G' ⟨ns, hd, hl, q⟩ => ⟨ns, hd, hl, fun ks nd hk => by rw [ss_len nd hk]; exact q⟩) hj hj2 he hpl he2 hpl2
theorem je_sortedSetS (cj : CJ P w K mg base S k X B E) (j j2 : Nat) {p2 q2 : Pos} {Q : Ent → List Ent → Prop} (hm : mg "sorted" = none) (hm2 : mg "set" = none)
    (h : JV X B e G fun d G' => ∃ ns : List Int, IntSeq ns d ∧ ns.length < 64 ∧ Q (.ow (.lst ((ss ns).map .int))) G') (hj : S.gl[j]? = some "sorted" := by rfl) (hj2 : S.gl[j2]? = some "set" := by rfl)
    (he : starEach [e] X.env = (false, eval e X.env) :: starEach [] X.env := by rfl) (hpl : (backTo q2 (starEach [] X.env)).any (·.1) = false := by rfl)
    (he2 : starEach [.Call (.Name "set" p2) [e] [] q2] X.env = (false, eval (.Call (.Name "set" p2) [e] [] q2) X.env) :: starEach [] X.env := by rfl) (hpl2 : (backTo pos (starEach [] X.env)).any (·.1) = false := by rfl) :
    JE X B (.Call (.Name "sorted" p) [.Call (.Name "set" p2) [e] [] q2] [] pos) G Q :=
  je_sortedSet cj j j2 hm hm2 (h.imp fun d G' ⟨ns, hd, hl, q⟩ => ⟨ns, hd, hl, fun ks nd hk => by rw [ss_of nd hk]; exact q⟩) hj hj2 he hpl he2 hpl2
/-- a comprehension whose turns change what stands around it -/
theorem LcI.mapN {n : Nat} {item : Nat → D → Prop} {CJX : Cx → Prop} {S' : Sc} {elt : Expr} {Q : List D → List Ent → Prop} (V : Nat → D → Prop) (hn : n ≤ sizeLine) (I : Nat → List Ent → Prop) (h0 : I 0 (wipeE G S'.li))
    (step : ∀ i d G2, i < n → item i d → I i G2 → ∀ X1, CJX X1 → JG X1 B S'.li tg (.fz d) G2 fun G3 => ∀ X3, CJX X3 → JV X3 B elt G3 fun d' G5 => V i d' ∧ I (i + 1) (wipeE G5 S'.li))
    (fin : ∀ acc G2, acc.length = n → (∀ i d, acc[i]? = some d → V i d) → I n G2 → Q acc G2) : LcI n item CJX B S' tg elt [] G Q := by
  refine ⟨hn, fun i acc G2 => acc.length = i ∧ (∀ j d, acc[j]? = some d → V j d) ∧ I i G2, ⟨rfl, fun j d h => by simp at h, h0⟩, fun i d acc G2 hi hd ⟨ha, hv, hI⟩ _ => ?_, fun acc G2 ⟨ha, hv, hI⟩ => fin acc G2 ha hv hI⟩
  intro X1 c1
  refine fun t s z F H v GQ hl c ir q => step i d G2 hi hd hI X1 c1 t s z F H v GQ hl c ir fun s' F' H' G' e1 e2 c' q' => q s' F' H' G' e1 e2 c' fun X2 c2 => JTs.nil ⟨fun _ X3 c3 => (q' X3 c3).imp fun d' G5 ⟨hv', hI'⟩ => ⟨by simp [ha], fun j d2 h => ?_, hI'⟩, fun z => nomatch z⟩
  by_cases hj : j < acc.length
  · rw [List.getElem?_append_left hj] at h; exact hv j d2 h
  · rw [List.getElem?_append_right (by omega)] at h
    have : j - acc.length = 0 := by
      by_cases hz : j - acc.length = 0
      · exact hz
      · rw [List.getElem?_eq_none (by simp; omega)] at h; cases h
    rw [this] at h
    simp at h
    subst h
    have : j = i := by omega
    subst this
    exact hv'
/-- x == e where x is an own list -/
theorem own_dp {t s : St} {z : List Ent} {F H : Hp} {i : Nat} {ds : List J.D} (hl : t.length = z.length) (c : Conf X.K B (t ++ s) F H (z ++ G)) (hg : entOw G[i]? = some (.lst ds)) : ∃ y, s[i]? = some (some (.ref y)) ∧ DP X.K H (.ref y) (.lst ds) := by
  obtain ⟨y, e1, ⟨xs, o1, o2⟩, _⟩ := c.slot hl hg
  exact ⟨y, e1, .lst o1 (DP.monoL c.fh _ _ o2)⟩
theorem jt_cmpO {b : Expr} {x : Str} {xp : Pos} (cj : CJ P w K mg base S k X B E) (i : Nat) {op : CmpOp} {r : R2} {Q : Bool → List Ent → Prop} (ho : OpR X (compareOp op) r) (hm : behindInMarks op b = false)
    (h : JV X B b G fun d2 G2 => ∃ ds kk, entOw G2[i]? = some (.lst ds) ∧ RelB X r (.lst ds) d2 kk ∧ Q kk G2) (hN : S.N[i]? = some x := by rfl) (hv : i ∈ S.vi := by decide) (hg : (entOw G[i]?).isSome = true := by rfl) : JT X B (.Compare (.Name x xp) [op] [b] pos) G Q := fun t s z F H TQ hl c q => by
  have hn := okName_of (Sc.vis cj.ok hv hN).1
  refine tT_of (pt_cmpR ho (pe_var (cj.xN hN) (cj.vis hv hN) hn.1 hn.2.1) pe_sem hm) ?_
  obtain ⟨o, ho'⟩ := Option.isSome_iff_exists.mp hg
  obtain ⟨y, e1, _⟩ := c.slot hl ho'
  refine ⟨.ref y, e1, h t s z F H _ hl c fun u F' H' d2 G2 c2 ⟨ds, kk, h1, h2, h3⟩ => ?_⟩
  obtain ⟨y', e1', dp⟩ := own_dp hl c2.pop h1
  rw [e1] at e1'
  cases e1'
  exact h2 _ u H' _ dp c2.topH ⟨kk, rfl, q kk F' H' G2 c2.pop h3⟩
theorem jv_cmpO {b : Expr} {x : Str} {xp : Pos} (cj : CJ P w K mg base S k X B E) (i : Nat) {op : CmpOp} {r : R2} {Q : J.D → List Ent → Prop} (ho : OpR X (compareOp op) r) (hm : behindInMarks op b = false)
    (h : JV X B b G fun d2 G2 => ∃ ds kk, entOw G2[i]? = some (.lst ds) ∧ RelB X r (.lst ds) d2 kk ∧ Q (.bl kk) G2) (hN : S.N[i]? = some x := by rfl) (hv : i ∈ S.vi := by decide) (hg : (entOw G[i]?).isSome = true := by rfl) : JV X B (.Compare (.Name x xp) [op] [b] pos) G Q := fun t s z F H TQ hl c q => by
  have hn := okName_of (Sc.vis cj.ok hv hN).1
  refine tS_of (pe_cmpR ho (pe_var (cj.xN hN) (cj.vis hv hN) hn.1 hn.2.1) pe_sem hm) ?_
  obtain ⟨o, ho'⟩ := Option.isSome_iff_exists.mp hg
  obtain ⟨y, e1, _⟩ := c.slot hl ho'
  refine ⟨.ref y, e1, h t s z F H _ hl c fun u F' H' d2 G2 c2 ⟨ds, kk, h1, h2, h3⟩ => ?_⟩
  obtain ⟨y', e1', dp⟩ := own_dp hl c2.pop h1
  rw [e1] at e1'
  cases e1'
  exact h2 _ u H' TQ dp c2.topH (q _ F' H' _ G2 (c2.pop.fz (.bl kk)) h3)
theorem jt_eqO {b : Expr} {x : Str} {xp : Pos} (cj : CJ P w K mg base S k X B E) (i : Nat) {Q : Bool → List Ent → Prop}
    (h : JV X B b G fun d2 G2 => ∃ ds, entOw G2[i]? = some (.lst ds) ∧ (∃ n, Flat n (.lst ds) ∧ n ≤ 64) ∧ (∃ m, Flat m d2 ∧ m ≤ 64) ∧ Q (deq (.lst ds) d2) G2) (hN : S.N[i]? = some x := by rfl) (hv : i ∈ S.vi := by decide) (hg : (entOw G[i]?).isSome = true := by rfl) : JT X B (.Compare (.Name x xp) [.Eq] [b] pos) G Q :=
  jt_cmpO cj i (op_eqD cj.hr.units) (nomark _) (h.imp fun d2 G2 ⟨ds, h1, ⟨n, f, hn⟩, ⟨m, f', hm⟩, q⟩ => ⟨ds, _, h1, relB_eq f f' hn hm, q⟩) hN hv hg
theorem jt_neO {b : Expr} {x : Str} {xp : Pos} (cj : CJ P w K mg base S k X B E) (i : Nat) {Q : Bool → List Ent → Prop}
    (h : JV X B b G fun d2 G2 => ∃ ds, entOw G2[i]? = some (.lst ds) ∧ (∃ n, Flat n (.lst ds) ∧ n ≤ 64) ∧ (∃ m, Flat m d2 ∧ m ≤ 64) ∧ Q (!deq (.lst ds) d2) G2) (hN : S.N[i]? = some x := by rfl) (hv : i ∈ S.vi := by decide) (hg : (entOw G[i]?).isSome = true := by rfl) : JT X B (.Compare (.Name x xp) [.NotEq] [b] pos) G Q :=
  jt_cmpO cj i (op_neD cj.hr.units) (nomark _) (h.imp fun d2 G2 ⟨ds, h1, ⟨n, f, hn⟩, ⟨m, f', hm⟩, q⟩ => ⟨ds, _, h1, relB_ne f f' hn hm, q⟩) hN hv hg
theorem jv_eqO {b : Expr} {x : Str} {xp : Pos} (cj : CJ P w K mg base S k X B E) (i : Nat) {Q : J.D → List Ent → Prop}
    (h : JV X B b G fun d2 G2 => ∃ ds, entOw G2[i]? = some (.lst ds) ∧ (∃ n, Flat n (.lst ds) ∧ n ≤ 64) ∧ (∃ m, Flat m d2 ∧ m ≤ 64) ∧ Q (.bl (deq (.lst ds) d2)) G2) (hN : S.N[i]? = some x := by rfl) (hv : i ∈ S.vi := by decide) (hg : (entOw G[i]?).isSome = true := by rfl) : JV X B (.Compare (.Name x xp) [.Eq] [b] pos) G Q :=
  jv_cmpO cj i (op_eqD cj.hr.units) (nomark _) (h.imp fun d2 G2 ⟨ds, h1, ⟨n, f, hn⟩, ⟨m, f', hm⟩, q⟩ => ⟨ds, _, h1, relB_eq f f' hn hm, q⟩) hN hv hg
end
theorem eraseIdx_mapD {α : Type} (f : α → J.D) : ∀ (l : List α) (i : Nat), (l.map f).eraseIdx i = (l.eraseIdx i).map f
  | [], _ => rfl
  | _ :: _, 0 => rfl
  | x :: l, i + 1 => by
    show f x :: (l.map f).eraseIdx i = f x :: (l.eraseIdx i).map f
    rw [eraseIdx_mapD f l i]
theorem mem_eraseIdx_of {α : Type} {l : List α} {i : Nat} {x : α} (h : x ∈ l.eraseIdx i) : x ∈ l := (List.eraseIdx_sublist l i).subset h
end J

namespace J
open PySem PySem.Spec L2
theorem swst_scope {tgs : List Expr} {v : Expr} {e e' : Env} (h : e.scope = e'.scope) : swappedStores tgs v e = swappedStores tgs v e' := by
  unfold swappedStores Env.blockKind Env.kindOf
  rw [h]
section
variable {P : Program} {w : World} {K : PySem.W.Frag} {mg : Str → Option Value} {base : Heap} {S : Sc} {k : Nat} {X : Cx} {B : Bs} {E : XW} {G : List Ent} {a b : Expr} {pos p : Pos} {x : Str}
/-- x, y = a, b -/
theorem js_parB (cj : CJ P w K mg base S k X B E) (i j : Nat) {y : Str} {px py pt sp : Pos} {kt k2 : Nat} {pt2 : Pos} {Dd : Dn} (h : JV X B a G fun d1 G1 => JV X B b G1 fun d2 G2 => Dd.nx ((G2.set i (.fz d1)).set j (.fz d2)))
    (hx : S.sc.names.lookup x = some .local := by decide +kernel) (hy : S.sc.names.lookup y = some .local := by decide +kernel) (hN : S.N[i]? = some x := by rfl) (hN2 : S.N[j]? = some y := by rfl) (hv : i ∈ S.li := by decide) (hv2 : j ∈ S.li := by decide) (hij : i ≠ j := by decide)
    (hw : swappedStores [.Tuple [.Name x px, .Name y py] kt pt] (.Tuple [a, b] k2 pt2) { X.env with scope := S.sc } = pure (some [x, y]) := by rfl)
    (hs : starEach [a, b] X.env = (false, eval a X.env) :: starEach [b] X.env := by rfl) (hs2 : starEach [b] X.env = (false, eval b X.env) :: starEach [] X.env := by rfl) :
    JS X B (.Assign [.Tuple [.Name x px, .Name y py] kt pt] (.Tuple [a, b] k2 pt2) sp) G Dd :=
  js_par cj i j h hx hy hN hN2 hv hv2 hij (ps_par cj.calm cj.nd (cj.xN hN) (cj.xN hN2) hij (by rw [cj.hsc]; exact hx) (by rw [cj.hsc]; exact hy) pa_sem (by rw [swst_scope (e' := { X.env with scope := S.sc }) cj.hsc]; exact hw)) hs hs2
end
/-! ## fractions -/
@[reducible] def frD (q : Rat) : D := .tup [.int q.num, .int q.den]
theorem frD_flat (q : Rat) : Flat 1 (frD q) := .tup fun d hd => by
  rcases List.mem_cons.mp hd with rfl | hd
  · exact .int _
  · rcases List.mem_singleton.mp hd with rfl
    exact .int _
theorem frD_inj {q r : Rat} (h : frD q = frD r) : q = r := by
  have : [D.int q.num, .int q.den] = [.int r.num, .int r.den] := by injection h
  injection this with h1 h2
  injection h1 with h1
  injection h2 with h2 _
  injection h2 with h2
  rw [← Rat.mkRat_self q, ← Rat.mkRat_self r, h1, show q.den = r.den by omega]
theorem frD_mk {t b : Int} (h : 0 < b) : frD (mkRat t b.toNat) = .tup [.int (t / ((t.natAbs.gcd b.natAbs : Nat) : Int)), .int (b / ((t.natAbs.gcd b.natAbs : Nat) : Int))] := by
  have hb : b.toNat ≠ 0 := by omega
  have e := Rat.normalize_eq (num := t) hb
  rw [Rat.normalize_eq_mkRat] at e
  have e2 : b.toNat = b.natAbs := by omega
  have e3 : b = ((b.natAbs : Nat) : Int) := by omega
  unfold frD
  rw [e]
  simp only
  rw [e2]
  congr 4
  rw [Int.natCast_ediv, ← e3]
end J

namespace J
open PySem PySem.Spec L2
/-! ## a caught exception -/
def rIsET (K : PySem.W.Frag) (D a : Addr) : List V → Hp → VK → Prop := fun xs H Q => ∃ (tp : Addr) (cs : List V) (us : List Value) (b : Bool), xs = [.ref a, .ref tp] ∧ SqT K H tp cs ∧ Paired ClsV cs us ∧ PySem.W.kitAny K (.ref D) us = some b ∧ Q (.bl b) H
theorem call_isET {X : Cx} {a D : Addr} {oe : Obj} {pn : List (Addr × Obj)} (C : ExcC X.K D) (hz : Zc (.ref D) none oe) (hf : ∃ vs, oe.data = .fields vs) : CallR (X.suite a ((a, oe) :: pn)) (.builtin "isinstance") (rIsET X.K D a) := by
  intro pins s σ H xs us Q I r h
  obtain ⟨tp, cs, ws, b, rfl, hT, hcl, e, q⟩ := h
  cases r with
  | cons rx rr =>
    cases rr with
    | cons rt rr =>
      cases rr
      cases rx
      cases rt
      obtain ⟨hget, _⟩ := I.pin (a, oe) (List.mem_append.mpr (.inl List.mem_cons_self))
      obtain ⟨vs, hv⟩ := hf
      have J : PySem.W.InstAt s.heap a oe D none := by
        obtain ⟨oc, od, oda, osl⟩ := oe
        obtain ⟨h1, h2⟩ := hz
        dsimp only at h1 h2 hv
        subst h1 h2 hv
        exact ⟨hget, rfl, rfl, trivial⟩
      obtain ⟨its, rv, ⟨⟨oc, od, dt, sl⟩, ho, hc, n, hd⟩, hs⟩ := I.tuple hT
      simp only at hc hd
      subst hc hd
      have e3 := ClsV.all hcl rv
      subst e3
      exact PySem.W.kia_tup (PySem.W.handS_kitx_exc C.hg C.hk C.hs C.hd C.ha C.hn C.ht C.hm) I.kIn J ho e (fun z => nomatch z) fun tk => ⟨.bl b, H, I.kept (t' := tk) fun _ _ z => z, rfl, q⟩
/-- what stands of a context within a suite -/
structure CS (K : PySem.W.Frag) (mg : Str → Option Value) (S : Sc) (X : Cx) : Prop where
  hK : X.K = K
  hmg : X.mg = mg
  hN : X.N = S.N
  hsc : X.env.scope = S.sc
  ok : S.ok = true
section
variable {P : Program} {w : World} {K : PySem.W.Frag} {mg : Str → Option Value} {base : Heap} {S : Sc} {k : Nat} {X : Cx} {B : Bs} {E : XW} {G : List Ent} {a b e : Expr} {pos p : Pos} {x : Str}
theorem CS.of (cj : CJ P w K mg base S k X B E) {a : Addr} {pn : List (Addr × Obj)} : CS K mg S (X.suite a pn) := ⟨cj.hK, cj.hmg, cj.hN, cj.hsc, cj.ok⟩
theorem CS.gl (cs : CS K mg S X) {j : Nat} {x : Str} (h : S.gl[j]? = some x) : Gl X x := by
  show X.env.scope.names.lookup x = _
  rw [cs.hsc]; exact (Sc.glb cs.ok h).2
theorem cs_name (cs : CS K mg S X) (i : Nat) {d : J.D} {Q : J.D → List Ent → Prop} (h : Q d G) (hN : S.N[i]? = some x := by rfl) (hv : i ∈ S.vi := by decide) (hg : G[i]? = some (.fz d) := by rfl) : JV X B (.Name x pos) G Q := fun t s z F H VQ hl c q => by
  have hn := okName_of (Sc.vis cs.ok hv hN).1
  have xN : X.N[i]? = some x := by rw [cs.hN]; exact hN
  have vs : Vis X.env.scope x := by rw [cs.hsc]; exact (Sc.vis cs.ok hv hN).2
  refine tS_of (pe_var xN vs hn.1 hn.2.1) ?_
  have hi' : (z ++ G)[t.length + i]? = some (.fz d) := by rw [hl, get_app]; exact hg
  obtain ⟨v, e1, y, e2, dp⟩ := c.at hi'
  subst e2
  rw [get_app] at e1
  exact ⟨y, e1, q y F H d G (c.fz dp) h⟩
theorem cs_glob (cs : CS K mg S X) (j : Nat) {v : V} {u : Value} {d : J.D} {Q : J.D → List Ent → Prop} (hm : mg x = some u) (r : RelV v u) (dp : ∀ F, DP K F v d) (h : Q d G) (hj : S.gl[j]? = some x := by rfl) : JV X B (.Name x pos) G Q := fun t s z F H VQ hl c q => by
  have hn := okName_of (Sc.glb cs.ok hj).1
  have := cs.hK
  exact tS_of (pe_glob (cs.gl hj) (by rw [cs.hmg]; exact hm) r hn.1) (q v F H d G (c.fz (by rw [this]; exact dp F)) h)
theorem cs_nameF (cs : CS K mg S X) (i : Nat) {o : Ow} {d : J.D} {Q : J.D → List Ent → Prop} (h : Q d (G.set i (.fz d))) (hN : S.N[i]? = some x := by rfl) (hv : i ∈ S.vi := by decide) (hg : G[i]? = some (.ow o) := by rfl) (hf : frzOw o = some d := by rfl) : JV X B (.Name x pos) G Q := fun t s z F H VQ hl c q => by
  have hi' : (z ++ G)[z.length + i]? = some (.ow o) := by rw [get_app]; exact hg
  obtain ⟨F2, _, c2⟩ := c.freeze hi' hf
  rw [set_app] at c2
  have hlt : i < G.length := (List.getElem?_eq_some_iff.mp hg).1
  exact cs_name cs i (G := G.set i (.fz d)) (Q := Q) h hN hv (by rw [List.getElem?_set_self hlt]) t s z F2 H VQ hl c2 q
/-- isinstance(e, C), e caught -/
theorem cs_isE1 {a0 : Addr} {oe : Obj} {pn : List (Addr × Obj)} {D : Addr} (cs : CS K mg S (X.suite a0 ((a0, oe) :: pn))) (C : ExcC K D) (hz : Zc (.ref D) none oe) (hf : ∃ vs, oe.data = .fields vs) (j : Nat) {Q : J.D → List Ent → Prop} (hm : mg "isinstance" = none)
    (h : JV (X.suite a0 ((a0, oe) :: pn)) B a G fun d1 G1 => JV (X.suite a0 ((a0, oe) :: pn)) B b G1 fun d2 G2 => ∃ c cv r, d1 = .raw (.ref a0) ∧ d2 = .raw c ∧ ClsV c cv ∧ PySem.W.kitOne K (.ref D) cv = some r ∧ Q (.bl r) G2) (hj : S.gl[j]? = some ("isinstance" : Str) := by rfl)
    (he : starEach [a, b] X.env = (false, eval a X.env) :: starEach [b] X.env := by rfl) (he2 : starEach [b] X.env = (false, eval b X.env) :: starEach [] X.env := by rfl) (hpl : (backTo pos (starEach [b] X.env)).any (·.1) = false := by rfl) :
    JV (X.suite a0 ((a0, oe) :: pn)) B (.Call (.Name "isinstance" p) [a, b] [] pos) G Q := fun t s z F H VQ hl c q => by
  have hK : X.K = K := cs.hK
  have hn := okName_of (Sc.glb cs.ok hj).1
  refine tS_of (pe_callB (call_isE (hK.symm ▸ C) hz hf) (cs.gl hj) (by rw [cs.hmg]; exact hm) (by decide +kernel) (pa_cons pe_sem (pa_cons pe_sem pa_nil he2) he) hn.2.2 hn.1 he hpl)
    (run2 h hl c fun v u F' H' d1 d2 G' c' ⟨cc, cv, r, e1, e2, hcv, hk, hq⟩ => ?_)
  subst e1 e2
  cases c'.pop.top
  cases c'.top
  exact ⟨_, cv, r, rfl, fun u hu => hcv.eq hu, by rw [hK]; exact hk, q _ F' H' _ G' (c'.pop.pop.fz (.bl r)) hq⟩
/-- isinstance(e, (C, ..)) -/
theorem cs_isET {a0 : Addr} {oe : Obj} {pn : List (Addr × Obj)} {D : Addr} (cs : CS K mg S (X.suite a0 ((a0, oe) :: pn))) (C : ExcC K D) (hz : Zc (.ref D) none oe) (hf : ∃ vs, oe.data = .fields vs) (j : Nat) {Q : J.D → List Ent → Prop} (hm : mg "isinstance" = none)
    (h : JV (X.suite a0 ((a0, oe) :: pn)) B a G fun d1 G1 => JV (X.suite a0 ((a0, oe) :: pn)) B b G1 fun d2 G2 => ∃ (vs : List V) (us : List Value) (r : Bool), d1 = .raw (.ref a0) ∧ d2 = .tup (vs.map .raw) ∧ Paired ClsV vs us ∧ PySem.W.kitAny K (.ref D) us = some r ∧ Q (.bl r) G2) (hj : S.gl[j]? = some ("isinstance" : Str) := by rfl)
    (he : starEach [a, b] X.env = (false, eval a X.env) :: starEach [b] X.env := by rfl) (he2 : starEach [b] X.env = (false, eval b X.env) :: starEach [] X.env := by rfl) (hpl : (backTo pos (starEach [b] X.env)).any (·.1) = false := by rfl) :
    JV (X.suite a0 ((a0, oe) :: pn)) B (.Call (.Name "isinstance" p) [a, b] [] pos) G Q := fun t s z F H VQ hl c q => by
  have hK : X.K = K := cs.hK
  have hn := okName_of (Sc.glb cs.ok hj).1
  refine tS_of (pe_callB (call_isET (hK.symm ▸ C) hz hf) (cs.gl hj) (by rw [cs.hmg]; exact hm) (by decide +kernel) (pa_cons pe_sem (pa_cons pe_sem pa_nil he2) he) hn.2.2 hn.1 he hpl)
    (run2 h hl c fun v u F' H' d1 d2 G' c' ⟨vs, us, r, e1, e2, hcv, hk, hq⟩ => ?_)
  subst e1 e2
  have sm := c'.fh
  cases c'.pop.top
  have raws : ∀ {xs vs : List V}, Paired (DP (X.suite a0 ((a0, oe) :: pn)).K F') xs (vs.map J.D.raw) → xs = vs := by
    intro xs
    induction xs with
    | nil => intro vs h; cases vs with
      | nil => rfl
      | cons _ _ => cases h
    | cons x xs ih => intro vs h; cases vs with
      | nil => cases h
      | cons v vs => cases h with
        | cons r t => cases r; rw [ih t]
  cases c'.top with
  | @tup tp xs _ h1 h2 =>
    rw [raws h2] at h1
    exact ⟨tp, vs, us, r, rfl, sameT sm h1, hcv, by rw [hK]; exact hk, q _ F' H' _ G' (c'.pop.pop.fz (.bl r)) hq⟩
end
/-! ## where one stands in a try's body -/
structure CT (P : Program) (w : World) (K : PySem.W.Frag) (mg : Str → Option Value) (base : Heap) (S : Sc) (k : Nat) (X : Cx) (B : Bs) (E : XW) : Prop where
  hprog : X.prog = P
  hw : X.w = w
  hK : X.K = K
  hmg : X.mg = mg
  hbase : X.base = base
  hN : X.N = S.N
  hsc : X.env.scope = S.sc
  ok : S.ok = true
  hr : Room k X.A
  tk : Takes X E.W
  lk : ∀ (t s : St) (z : List Ent) (F H : Hp) (G : List Ent) (x : XD) (od : Option Addr), t.length = z.length → Conf X.K B (t ++ s) F H (z ++ G) → XOk X.K F H x od → E.R x G → E.W (.ref x.C) od s H
def JSs0 (X : Cx) (B : Bs) (sts : List Stmt) (G : List Ent) (D : Dn) : Prop :=
  ∀ (s : St) (F H : Hp) (De : Ends), Conf X.K B s F H G → DOk X B [] [] s.length D De → tSs X sts De s H
section
variable {P : Program} {w : World} {K : PySem.W.Frag} {mg : Str → Option Value} {base : Heap} {S : Sc} {k : Nat} {X : Cx} {B : Bs} {E : XW} {G : List Ent} {a b e : Expr} {es : List Expr} {pos p : Pos} {x : Str}
theorem CT.cs (ct : CT P w K mg base S k X B E) : CS K mg S X := ⟨ct.hK, ct.hmg, ct.hN, ct.hsc, ct.ok⟩
theorem ct_call0 {U : J.Spec} {kf : Nat} {f : Addr} {fd : FuncData} {ps : List Str} {Q : Ent → List Ent → Prop} (ct : CT P w K mg base S k X B E) (Fo : FnOk P w K mg base (L2.CX P w) kf f fd ps (SpJ K U)) (hk : kf ≤ k) (j : Nat)
    (hm : mg x = some (.ref f)) (kp : PySem.W.keepIn K (.ref f) = true) (bi : Binds K fd ps [])
    (h : JD X B (e :: es) G fun ds G' => U (ds.map .v) (fun r _ => Q r G') (fun x => E.R x G'))
    (hj : S.gl[j]? = some x := by rfl) (he : starEach (e :: es) X.env = (false, eval e X.env) :: starEach es X.env := by rfl) (hpl : (backTo pos (starEach es X.env)).any (·.1) = false := by rfl) :
    JE X B (.Call (.Name x p) (e :: es) [] pos) G Q := fun t s z F H VQ hl c q => by
  have hm' : X.mg x = some (.ref f) := by rw [ct.hmg]; exact hm
  have kp' : PySem.W.keepIn X.K (.ref f) = true := by rw [ct.hK]; exact kp
  have bi' : Binds X.K fd ps [] := by rw [ct.hK]; exact bi
  have Fo' : FnOk X.prog X.w X.K X.mg X.base (L2.CX P w) kf f fd ps (SpJ K U) := by rw [ct.hprog, ct.hw, ct.hK, ct.hmg, ct.hbase]; exact Fo
  have cxx : ∀ s : St, PassesAt (L2.CX P w) X s (WE E.W s) := fun s => by
    have := passAt ct.tk s
    rwa [ct.hprog, ct.hw] at this
  refine tS_of (pe_callS (CX := L2.CX P w) (E := WE E.W) Fo' (ct.hr.mono hk) (ct.cs.gl hj) hm' kp' bi' cxx pa_sem (okName_of (Sc.glb ct.ok hj).1).1 he hpl) ?_
  show tAr X (e :: es) s H fun vs H1 => SpJ K U vs H1 VQ (WE E.W s)
  refine h t s z F H _ hl c fun vs as F1 H1 G1 c1 ab ⟨ds, eas, sp⟩ => ?_
  subst eas
  have hK := ct.hK
  rw [← hK]
  have ok := okB_vs G1 ds
  have pe := parsOf_vs G1 ds
  refine ⟨F1, parsOf G1 (ds.map .v), ⟨F1, H1, vs, lentM vs (ds.map .v)⟩, _, _, rfl, rfl, rfl, c1.enter hl ab ok, by rw [pe]; exact sp, fun v F' H' r bs fi hq => ?_, fun x F' H' od c' xo hx => ?_⟩
  · obtain ⟨c2, hn⟩ := Conf.leave rfl hl c1 ab ok fi.c bs fi.bs
    rw [updB_vs] at c2 hn
    exact q v F' H' r _ (c2.result hn fi.c rfl c1.there fi.ir) fi.ir hq
  · obtain ⟨c2, _⟩ := Conf.leave rfl hl c1 ab ok c' [] (fun p hp => by cases hp)
    rw [updB_vs] at c2
    exact ct.lk t s z F' H' _ x od hl c2 xo hx
theorem JSs0.of {sts : List Stmt} {D : Dn} (h : JSs X B sts G D) : JSs0 X B sts G D := fun s F H De c k => h [] s [] F H De rfl c k
theorem JSs0.cons {st : Stmt} {sts : List Stmt} {D : Dn} (h : JS X B st G { D with nx := fun G' => JSs0 X B sts G' D }) : JSs0 X B (st :: sts) G D := fun s F H De c k =>
  tSs_of (pss_cons ps_sem pss_sem) (h [] s [] F H _ rfl c ⟨fun s' F' H' G' e c' q => q s' F' H' De c' (by rw [e]; exact k), k.rt, k.bk, k.ct⟩)
theorem JSs0.freeze {sts : List Stmt} {D : Dn} (i : Nat) {o : Ow} {d : J.D} (hi : G[i]? = some (.ow o)) (hf : frzOw o = some d) (h : JSs0 X B sts (G.set i (.fz d)) D) : JSs0 X B sts G D := fun s F H De c k => by
  obtain ⟨F2, _, c2⟩ := c.freeze hi hf
  exact h s F2 H De c2 k
theorem JSs0.forget {sts : List Stmt} {D : Dn} (i : Nat) (h : JSs0 X B sts (G.set i .no) D) : JSs0 X B sts G D := fun s F H De c k => h s F H De (c.forget (i := i)) k
/-- what the wish of a body asks of an exception that leaves it -/
def TryR (K : PySem.W.Frag) (X : Cx) (B : Bs) (E : XW) (i : Nat) (c : Value) (suite : List Stmt) (DS : Dn) (xd : XD) (G : List Ent) : Prop :=
  ∃ b, PySem.W.exmOne K (.ref xd.C) c = some b ∧
    (b = true → xd.fs = [] ∧ ∀ a oe pn, Zc (.ref xd.C) none oe → (∃ vs, oe.data = .fields vs) → JSs (X.suite a ((a, oe) :: pn)) B suite (G.set i (.fz (.raw (.ref a)))) DS) ∧ (b = false → E.R xd G)
theorem JSs0.try_ (cj : CJ P w K mg base S k X B E) (i j : Nat) {n : Str} {body suite rest : List Stmt} {b₀ : Stmt} {c : Value} {np pos' : Pos} {D : Dn} (hst : X.stack = X.env :: X.outer) (hfr : X.env.frame = some X.env.locals) (hc : mg x = some c)
    (h : ∀ X' E', CT P w K mg base S k X' B E' → (∀ xd G', TryR K X B E i c (b₀ :: suite) ⟨fun G2 => JSs0 X B rest (G2.set i .no) D, D.rt, fun _ => False, fun _ => False⟩ xd G' → E'.R xd G') →
      JSs X' B body G ⟨fun G' => JSs0 X B rest G' D, D.rt, D.bk, D.ct⟩)
    (hj : S.gl[j]? = some x := by rfl) (hN : S.N[i]? = some n := by rfl) (hln : S.sc.names.lookup n = some .local := by decide +kernel) :
    JSs0 X B (.Try body [.ExceptHandler (some (.Name x np)) (some n) (b₀ :: suite) pos'] [] [] pos :: rest) G D := fun s F H De cf kk => by
  have nm : Names X x c := ⟨cj.gl hj, cj.dbg hj, .inl (cj.mgx hc)⟩
  have hln' : X.env.kindOf n = some .local := by show X.env.scope.names.lookup n = _; rw [cj.hsc]; exact hln
  refine tSs_of (pss_cons (ps_try_as (i := i) (Wout := E.W) (tb := fun W D σ H => ∀ (pn : List (Addr × Obj)) (xe : Value → Shared → Prop), Takes (X.tr pn xe) W → PassesOwn (model X.prog X.w) X.A X.env xe → tSs (X.tr pn xe) body D σ H)
    (ts := fun a cls d D σ H => ∀ oe pn, Zc cls d oe → (∃ vs, oe.data = .fields vs) → tSs (X.suite a ((a, oe) :: pn)) (b₀ :: suite) D σ H) hst hfr cj.nd (cj.xN hN) hln' nm cj.tk
    (fun W pn xe tk po => ⟨fun pins s _ _ _ I h => h pn xe tk po pins s I⟩) (fun a oe cls d pn hz hf => ⟨fun pins s _ _ _ I h => h oe pn hz hf pins s I⟩)) pss_sem) ?_
  intro pn xe tk po pins0 sh0 I0
  have slen : s.length = X.N.length := I0.len
  have tk2 : Takes (X.tr pn xe) (fun cls d σ H => σ.length = s.length → wAs X.K c i (fun a cls d D σ H => ∀ oe pn, Zc cls d oe → (∃ vs, oe.data = .fields vs) → tSs (X.suite a ((a, oe) :: pn)) (b₀ :: suite) D σ H) E.W
      { De with nx := fun σ H => tSs X rest De σ H } cls d σ H) := fun u s' ⟨a, B0, sI, pins, σ, H, cls, d, e1, I, q1, q2, q3, q4, q5, q6, W⟩ =>
    tk u s' ⟨a, B0, sI, pins, σ, H, cls, d, e1, I, q1, q2, q3, q4, q5, q6, W (by rw [slen]; exact I.len)⟩
  revert pins0 sh0 I0
  refine h (X.tr pn xe) ⟨_, TryR K X B E i c (b₀ :: suite) ⟨fun G2 => JSs0 X B rest (G2.set i .no) D, D.rt, fun _ => False, fun _ => False⟩⟩ ⟨cj.hprog, cj.hw, cj.hK, cj.hmg, cj.hbase, cj.hN, cj.hsc, cj.ok, cj.hr, tk2, ?_⟩ (fun _ _ h => h) [] s [] F H _ rfl cf ?_
  · intro t s2 z F2 H2 G2 xd od hl cc xo ⟨b, hx, hb1, hb2⟩ hlen2
    have hKe : (X.tr pn xe).K = K := cj.hK
    refine ⟨b, by rw [cj.hK]; exact hx, fun eb a na => ?_, fun eb => cj.lk t s2 z F2 H2 G2 xd od hl cc xo (hb2 eb)⟩
    obtain ⟨hfs, hs⟩ := hb1 eb
    intro oe pn2 hz hf
    have eod : od = none := by
      rcases xo with ⟨_, h⟩ | ⟨hne, _⟩
      · exact h
      · exact absurd hfs hne
    subst eod
    have c1 : Conf X.K B s2 F2 H2 G2 := by
      have dropM : ∀ {hv : St} {he : List Ent} {u : St} {g : List Ent}, hv.length = he.length → Conf X.K B (hv ++ u) F2 H2 (he ++ g) → Conf X.K B u F2 H2 g := by
        intro hv
        induction hv with
        | nil => intro he u g hl c; cases he with
          | nil => exact c
          | cons _ _ => simp at hl
        | cons v hv ih => intro he u g hl c; cases he with
          | nil => simp at hl
          | cons e he => exact ih (by simpa using hl) c.pop
      exact dropM hl cc
    have c2 : Conf X.K B ([] ++ s2.set i (some (.ref a))) F2 H2 ([] ++ G2.set i (.fz (.raw (.ref a)))) := Conf.store (t := []) (z := []) rfl (c1.fz (.raw (.ref a)))
    refine hs a oe pn2 hz hf [] _ [] F2 H2 _ rfl c2 ⟨fun s' F' H' G' e c' q => ?_, kk.rt, fun _ _ _ _ _ _ q => q.elim, fun _ _ _ _ _ _ q => q.elim⟩
    have c3 : Conf X.K B ([] ++ s'.set i none) F' H' ([] ++ G'.set i .no) := Conf.store (t := []) (z := []) rfl (Conf.push (v := none) (e := .no) c' trivial (oad_no _))
    have len2 : (s'.set i none).length = s.length := by
      have h1 := c1.len
      have h2 := c'.len
      have h3 := cf.len
      rw [List.length_set, e, List.length_set]
      exact hlen2
    exact q _ F' H' De c3 ⟨by rw [len2]; exact kk.nx, kk.rt, by rw [len2]; exact kk.bk, by rw [len2]; exact kk.ct⟩
  · exact ⟨fun s' F' H' G' e c' q => q s' F' H' De c' (by rw [e]; exact kk), kk.rt, kk.bk, kk.ct⟩
/-- THE RULE for a def whose body has a try -/
theorem jfn0 {x qual : Str} {st : Stmt} {f : Addr} {fd : FuncData} {ps : List Str} {k : Nat} (Fu : Fun K x qual st f fd) (Z : Sc) (hz : Z.ok = true) (S : FnScope Z.N ps Z.sc) (spec : J.Spec) (len : ∀ as R RX, spec as R RX → as.length = ps.length)
    (body : ∀ (X : Cx) (B : Bs) (E : XW) (as : List Par) (R : Ent → List (Nat × Ow) → Prop) (RX : XD → Prop), CJ P w K mg base Z k X B E → X.stack = X.env :: X.outer → X.env.frame = some X.env.locals → (∀ x G, RX x → E.R x G) → spec as R RX →
      JSs0 X B (defBody st) (parEnts 0 as ++ List.replicate (Z.N.length - ps.length) .no) ⟨fun G' => R (.fz .non) (bws G'), fun r G' => R r (bws G'), fun _ => False, fun _ => False⟩) (hsc : Z.sc = defScope st := by rfl) :
    FnOk P w K mg base (L2.CX P w) (k + 1) f fd ps (SpJ K spec) := by
  have plen : ∀ {vs : List V} {H : Hp} {Q : VK} {E : XK}, SpJ K spec vs H Q E → vs.length = ps.length := fun {vs H Q E} h => by
    obtain ⟨F, as, B, R, RX, _, _, _, c, sp, _⟩ := h
    have := c.len
    rw [List.length_map, parEnts_len] at this
    rw [this]; exact len _ _ _ sp
  refine Fu.okX (hsc ▸ S) (fun vs H Q E h => plen h) fun cdv A outer s H vs Q E hr h => ?_
  have hlen := plen h
  obtain ⟨F, as, B, R, RX, e0, e1, e2, c, sp, hq, hx⟩ := h
  refine ⟨_, pss_sem, ?_⟩
  have cj : CJ P w K mg base Z k (cxOf (L2.CX P w) P w K mg base Z.N qual (defScope st) f cdv A outer s H E) B ⟨fun cls d _ H => E cls d H, fun x _ => RX x⟩ :=
    ⟨rfl, rfl, rfl, rfl, rfl, rfl, hsc.symm, hz, fun _ _ _ _ => .inl rfl, rfl, hr, passes_of rfl, takes_of rfl rfl rfl rfl, fun _ _ _ _ _ h => h, fun t s z F H G x od _ c xo r => hx x F H od c.nil xo r⟩
  have b := body _ B _ as R RX cj rfl rfl (fun _ _ h => h) sp
  refine b (L2.start Z.N vs) F H _ ?_ ⟨fun s' F' H' G' _ c' q => ?_, fun v s' F' H' r G' c' ir q => ?_, fun _ _ _ _ _ _ q => q.elim, fun _ _ _ _ _ _ q => q.elim⟩
  · have := c.nos (Z.N.length - vs.length)
    rw [hlen] at this
    show Conf K B (L2.start Z.N vs) F H _
    unfold L2.start
    rw [hlen]
    exact this
  · exact hq _ F' H' _ _ ((c'.fz (v := .non) (d := .non) .non).fin trivial) q
  · exact hq v F' H' r _ (c'.fin ir) q
end
end J

namespace J
open PySem PySem.Spec L2
section
variable {P : Program} {w : World} {K : PySem.W.Frag} {mg : Str → Option Value} {base : Heap} {S : Sc} {k : Nat} {X : Cx} {B : Bs} {E : XW} {G : List Ent} {a b e : Expr} {es : List Expr} {pos p : Pos} {x : Str}
theorem cs_ty (cs : CS K mg S X) (j : Nat) {T : String} {Q : D → List Ent → Prop} (hm : mg x = none) (hv : bootBuiltins x = some (.type T)) (h : Q (.raw (.ty T)) G) (hj : S.gl[j]? = some x := by rfl) : JV X B (.Name x pos) G Q := fun t s z F H VQ hl c q => by
  have hn := okName_of (Sc.glb cs.ok hj).1
  exact tS_of (pe_bltn (v := .ty T) (cs.gl hj) (by rw [cs.hmg]; exact hm) hv rfl hn.2.2 hn.1) (q _ F H _ G (c.fz (.raw _)) h)
/-- a class by its name -/
theorem cs_cls (cs : CS K mg S X) (j : Nat) {C : Addr} {Q : D → List Ent → Prop} (hm : mg x = some (.ref C)) (h : Q (.raw (.ref C)) G) (hj : S.gl[j]? = some x := by rfl) : JV X B (.Name x pos) G Q :=
  cs_glob (v := .ref C) cs j hm rfl (fun _ => .raw _) h hj
end
end J

namespace J
open PySem PySem.Spec L2
/-! ## dicts whose keys are ints -/
abbrev KD := List (Int × D)
def kd (m : KD) : List (Key × D) := m.map fun p => (Sum.inl p.1, p.2)
def dget (m : KD) (k : Int) : Option D := (m.find? fun p => decide (p.1 = k)).map (·.2)
def dput (m : KD) (k : Int) (d : D) : KD := if (m.any fun p => decide (p.1 = k)) = true then m.map (fun p => if p.1 = k then (p.1, d) else p) else m ++ [(k, d)]
theorem pk_get {K : PySem.W.Frag} {F : Hp} (k : Int) : ∀ {kvs : List (Key × V)} {m : KD}, PK K F kvs (kd m) → (dget m k = none → valV kvs (Sum.inl k) = none) ∧ (∀ d, dget m k = some d → ∃ v, valV kvs (Sum.inl k) = some v ∧ DP K F v d)
  | _, [], h => by cases h; exact ⟨fun _ => rfl, fun d h => by simp [dget] at h⟩
  | _, (n, d0) :: m, h => by
    cases h with
    | @cons p _ kvs _ r t =>
      obtain ⟨kk, v⟩ := p
      obtain ⟨e, dp⟩ := r
      simp only at e dp
      subst e
      by_cases z : n = k
      · subst z
        refine ⟨fun h => by simp [dget] at h, fun d hd => ⟨v, by rw [valV_pos rfl], ?_⟩⟩
        simp [dget] at hd; subst hd; exact dp
      · have ih := pk_get (K := K) (F := F) k t
        have hz : ¬ (Sum.inl n : Key) = Sum.inl k := fun e => z (Sum.inl.inj e)
        have e1 : dget ((n, d0) :: m) k = dget m k := by simp [dget, List.find?_cons, z]
        rw [valV_neg hz, e1]
        exact ih
theorem pk_put {K : PySem.W.Frag} {F : Hp} (k : Int) {v : V} {d : D} (dp : DP K F v d) {kvs : List (Key × V)} {m : KD} (h : PK K F kvs (kd m)) : PK K F (putK kvs (Sum.inl k) v) (kd (dput m k d)) := by
  have any_eq : ∀ {kvs : List (Key × V)} {m : KD}, PK K F kvs (kd m) → (kvs.any fun kv => decide (kv.1 = (Sum.inl k : Key))) = (m.any fun p => decide (p.1 = k)) := by
    intro kvs m
    induction m generalizing kvs with
    | nil => intro h; cases h; rfl
    | cons p m ih =>
      intro h
      cases h with
      | cons r t =>
        rw [List.any_cons, List.any_cons, ih t]
        congr 1
        rw [r.1]
        by_cases z : p.1 = k
        · rw [decide_eq_true z, decide_eq_true (show (Sum.inl p.1 : Key) = Sum.inl k by rw [z])]
        · rw [decide_eq_false z, decide_eq_false fun e => z (Sum.inl.inj e)]
  have map_eq : ∀ {kvs : List (Key × V)} {m : KD}, PK K F kvs (kd m) → PK K F (kvs.map fun kv => if kv.1 = (Sum.inl k : Key) then (kv.1, v) else kv) (kd (m.map fun p => if p.1 = k then (p.1, d) else p)) := by
    intro kvs m
    induction m generalizing kvs with
    | nil => intro h; cases h; exact .nil
    | cons p m ih =>
      intro h
      cases h with
      | @cons q _ _ _ r t =>
        refine .cons ?_ (ih t)
        obtain ⟨r1, r2⟩ := r
        have r1 : q.1 = (Sum.inl p.1 : Key) := r1
        show (if q.1 = (Sum.inl k : Key) then (q.1, v) else q).1 = (Sum.inl (if p.1 = k then (p.1, d) else p).1 : Key) ∧ DP K F (if q.1 = (Sum.inl k : Key) then (q.1, v) else q).2 (if p.1 = k then (p.1, d) else p).2
        by_cases z : p.1 = k
        · rw [if_pos (by rw [r1, z]), if_pos z]; exact ⟨r1, dp⟩
        · rw [if_neg (by rw [r1]; exact fun e => z (Sum.inl.inj e)), if_neg z]; exact ⟨r1, r2⟩
  unfold putK dput
  rw [any_eq h]
  split
  · exact map_eq h
  · unfold kd
    rw [List.map_append]
    exact papp h (.cons ⟨rfl, dp⟩ .nil)
section
variable {P : Program} {w : World} {K : PySem.W.Frag} {mg : Str → Option Value} {base : Heap} {S : Sc} {k : Nat} {X : Cx} {B : Bs} {E : XW} {G : List Ent} {a b e : Expr} {es : List Expr} {pos p : Pos} {x : Str}
theorem je_dnew {Q : Ent → List Ent → Prop} (h : Q (.ow (.dK (kd []))) G) : JE X B (.Dict [] [] pos) G Q := fun t s z F H VQ hl c q =>
  tS_of pe_dnewK fun p np => q (.ref p) F _ _ G (c.new (o := .dK (kd [])) np ⟨[], upd_same, .nil⟩) trivial h
/-- x[e], x an own dict -/
theorem jv_dget (cj : CJ P w K mg base S k X B E) (i : Nat) {xp : Pos} {Q : D → List Ent → Prop} (h : JV X B e G fun d2 G2 => ∃ m n d, entOw G2[i]? = some (.dK (kd m)) ∧ d2 = .int n ∧ dget m n = some d ∧ Q d G2) (hN : S.N[i]? = some x := by rfl) (hv : i ∈ S.vi := by decide) (hg : (entOw G[i]?).isSome = true := by rfl) (hs : NoSl e := by exact fun _ _ => rfl) :
    JV X B (.Subscript (.Name x xp) e pos) G Q := fun t s z F H VQ hl c q => by
  have hn := okName_of (Sc.vis cj.ok hv hN).1
  refine tS_of (pe_dget (by have := cj.hr.units; omega) (pe_var (cj.xN hN) (cj.vis hv hN) hn.1 hn.2.1) pe_sem hs) ?_
  obtain ⟨o, ho⟩ := Option.isSome_iff_exists.mp hg
  obtain ⟨y, e1, _⟩ := c.slot hl ho
  refine ⟨.ref y, e1, h t s z F H _ hl c fun u F' H' d2 G2 c2 ⟨m, n, d, h1, h2, h3, h4⟩ => ?_⟩
  subst h2
  cases c2.top
  obtain ⟨y', e1', ⟨ks, o1, o2⟩, _⟩ := c2.pop.slot hl h1
  rw [e1] at e1'
  cases e1'
  obtain ⟨v, h5, h6⟩ := (pk_get n o2).2 d h3
  refine ⟨y, v, rfl, ?_, q v F' H' d G2 (c2.pop.fz h6) h4⟩
  have := DGet.k (k := Sum.inl n) o1
  rw [h5] at this
  exact this
/-- x[e] = v, x an own dict -/
theorem js_dput (cj : CJ P w K mg base S k X B E) (i : Nat) {xp tp sp : Pos} {Dd : Dn} (h : JV X B e G fun d G1 => JV X B b G1 fun d2 G2 => ∃ m n, entOw G2[i]? = some (.dK (kd m)) ∧ d2 = .int n ∧ m.length < sizeLine ∧ Dd.nx (setOw G2 i (.dK (kd (dput m n d))))) (hN : S.N[i]? = some x := by rfl) (hv : i ∈ S.vi := by decide)
    (hls : (entOw G[i]?).isSome = true := by rfl) (hs : swapsWith e (some (.Subscript (.Name x xp) b tp)) sp.line X.env = pure false := by rfl) : JS X B (.Assign [.Subscript (.Name x xp) b tp] e sp) G Dd := fun t s z F H De hl c kk => by
  have hn := okName_of (Sc.vis cj.ok hv hN).1
  refine tSt_of (ps_dput (by have := cj.hr.units; omega) (pe_var (cj.xN hN) (cj.vis hv hN) hn.1 hn.2.1) pe_sem pe_sem hs) ?_
  obtain ⟨o, ho⟩ := Option.isSome_iff_exists.mp hls
  obtain ⟨y, e1, _⟩ := c.slot hl ho
  refine h t s z F H _ hl c fun v F1 H1 d G1 c1 h2 => ?_
  refine ⟨.ref y, e1, h2 (some v :: t) s (.fz d :: z) F1 H1 _ (by simp [hl]) c1 fun u F2 H2 d2 G2 c2 ⟨m, n, h3, h4, h5, h6⟩ => ?_⟩
  subst h4
  cases c2.top
  have dp : DP X.K F2 v d := c2.pop.top
  obtain ⟨y', e1', ⟨ks, o1, o2⟩, _, wr⟩ := c2.pop.pop.slot hl h3
  rw [e1] at e1'
  cases e1'
  have hlen : ks.length < sizeLine := by rw [o2.length]; unfold kd; rw [List.length_map]; exact h5
  exact ⟨y, _, rfl, DPut.k (k := Sum.inl n) o1 hlen, kk.nx s F2 _ _ rfl (wr _ (.dK (kd (dput m n d))) ⟨_, upd_same, pk_put n dp o2⟩) h6⟩
/-- e not in x -/
theorem jt_dnotin (cj : CJ P w K mg base S k X B E) (i : Nat) {xp : Pos} {Q : Bool → List Ent → Prop} (h : JV X B e G fun d2 G2 => ∃ m n, entOw G2[i]? = some (.dK (kd m)) ∧ d2 = .int n ∧ Q (dget m n).isNone G2) (hN : S.N[i]? = some x := by rfl) (hv : i ∈ S.vi := by decide) :
    JT X B (.Compare e [.NotIn] [.Name x xp] pos) G Q := fun t s z F H TQ hl c q => by
  have hn := okName_of (Sc.vis cj.ok hv hN).1
  refine tT_of (pt_cmp (pc_dnotin (by have := cj.hr.units; omega) pe_sem (pe_var (cj.xN hN) (cj.vis hv hN) hn.1 hn.2.1))) ?_
  refine h t s z F H _ hl c fun u F2 H2 d2 G2 c2 ⟨m, n, h3, h4, h5⟩ => ?_
  subst h4
  cases c2.top
  obtain ⟨y, e1, ⟨ks, o1, o2⟩, _⟩ := c2.pop.slot hl h3
  refine ⟨.ref y, e1, y, _, rfl, DGet.k (k := Sum.inl n) o1, ?_⟩
  have hb : (!(valV ks (Sum.inl n)).isSome) = (dget m n).isNone := by
    cases hd : dget m n with
    | none => rw [(pk_get n o2).1 hd]; rfl
    | some d => obtain ⟨v, h, _⟩ := (pk_get n o2).2 d hd; rw [h]; rfl
  rw [hb]
  exact ⟨_, rfl, q _ F2 H2 G2 c2.pop h5⟩
end
end J

namespace J
open PySem PySem.Spec L2
section
variable {P : Program} {w : World} {K : PySem.W.Frag} {mg : Str → Option Value} {base : Heap} {S : Sc} {k : Nat} {X : Cx} {B : Bs} {E : XW} {G : List Ent} {a b e : Expr} {es : List Expr} {pos p : Pos} {x : Str}
/-- {a: b}, the key an int -/
theorem je_disp1 {Q : Ent → List Ent → Prop} (h : JV X B a G fun d1 G1 => JV X B b G1 fun d2 G2 => ∃ n, d1 = .int n ∧ Q (.ow (.dK (kd [(n, d2)]))) G2) : JE X B (.Dict [some a] [b] pos) G Q := fun t s z F H VQ hl c q => by
  refine tS_of (pe_disp (pps_cons pe_sem pe_sem pps_nil) (by rfl) rfl (by simp) (by simp)) ?_
  intro p np
  have c1 : Conf X.K B ((some (.ref p) :: t) ++ s) F (upd H p (.dK [])) ((.ow (.dK (kd [])) :: z) ++ G) := c.new (o := .dK (kd [])) np ⟨[], upd_same, .nil⟩
  refine h (some (.ref p) :: t) s (.ow (.dK (kd [])) :: z) F _ _ (by simp [hl]) c1 fun v F1 H1 d1 G1 c2 h2 => ?_
  refine h2 (some v :: some (.ref p) :: t) s (.fz d1 :: .ow (.dK (kd [])) :: z) F1 H1 _ (by simp [hl]) c2 fun u F2 H2 d2 G2 c3 ⟨n, e1, hq⟩ => ?_
  subst e1
  have dp : DP X.K F2 u d2 := c3.top
  have c4 := c3.pop
  cases c4.top
  have c5 : Conf X.K B (some (.ref p) :: (t ++ s)) F2 H2 (.ow (.dK (kd [])) :: (z ++ G2)) := c4.pop
  obtain ⟨v0, e2, a0, e3, ⟨ks, o1, o2⟩, _⟩ := c5.at (i := 0) rfl
  cases e2
  cases e3
  have : ks = [] := by cases o2; rfl
  subst this
  refine ⟨o1, [(Sum.inl n, u)], rfl, by simp, ?_⟩
  have c6 := c5.write (i := 0) (o' := .dK (kd [(n, d2)])) (ho := .dK [(Sum.inl n, u)]) rfl rfl ⟨_, upd_same, .cons ⟨rfl, dp⟩ .nil⟩
  exact q _ F2 _ _ G2 c6 trivial hq
/-- sorted(x), x an own dict -/
theorem je_sortedD (cj : CJ P w K mg base S k X B E) (j i : Nat) {m : KD} {xp : Pos} {Q : Ent → List Ent → Prop} (hm : mg "sorted" = none) (hl64 : m.length < 64) (h : Q (.ow (.lst ((isort (m.map (·.1))).map .int))) G) (hg : entOw G[i]? = some (.dK (kd m)) := by rfl) (hj : S.gl[j]? = some "sorted" := by rfl) (hN : S.N[i]? = some x := by rfl) (hv : i ∈ S.vi := by decide)
    (he : starEach [.Name x xp] X.env = (false, eval (.Name x xp) X.env) :: starEach [] X.env := by rfl) (hpl : (backTo pos (starEach [] X.env)).any (·.1) = false := by rfl) : JE X B (.Call (.Name "sorted" p) [.Name x xp] [] pos) G Q := fun t s z F H VQ hl c q => by
  have hn := okName_of (Sc.vis cj.ok hv hN).1
  refine tS_of (pe_callB (call_sortedDI cj.calm) (cj.gl hj) (cj.mgx hm) (by decide +kernel) (pa_cons (pe_var (cj.xN hN) (cj.vis hv hN) hn.1 hn.2.1) pa_nil he) (cj.nnm hj) (cj.dbg hj) he hpl) ?_
  obtain ⟨y, e1, ⟨ks, o1, o2⟩, _⟩ := c.slot hl hg
  have keys : ∀ {kvs : List (Key × V)} {m : KD}, PK X.K F kvs (kd m) → kvs.map (·.1) = (m.map (·.1)).map Sum.inl := by
    intro kvs m
    induction m generalizing kvs with
    | nil => intro h; cases h; rfl
    | cons p m ih => intro h; cases h with
      | cons r t => rw [List.map_cons, ih t, r.1]; rfl
  refine ⟨.ref y, e1, y, ks, m.map (·.1), rfl, .inl o1, keys o2, by rw [List.length_map]; exact hl64, fun ys r pm so nr => ?_⟩
  rw [isort_of pm so]
  exact q _ F _ _ G (c.newL nr (dps_ints _)) trivial h
end
end J

namespace J
open PySem PySem.Spec L2
theorem pys_get : ∀ {ns : List Int} {j : Nat} {x : Int}, ns[j]? = some x → (D.pys (ns.map D.int))[j]? = some (D.py (.int x))
  | [], _, _, h => by simp at h
  | n :: ns, 0, x, h => by simp at h; subst h; rfl
  | n :: ns, j + 1, x, h => by
    show (D.pys (ns.map D.int))[j]? = _
    exact pys_get (by simpa using h)
theorem pys_getL : ∀ {ns : List Int} {j : Nat} {z : PyData}, (D.pys (ns.map D.int))[j]? = some z → ∃ x, ns[j]? = some x ∧ z = D.py (.int x)
  | [], _, _, h => by simp [D.pys] at h
  | n :: ns, 0, z, h => by
    have h : some (D.py (.int n)) = some z := h
    exact ⟨n, rfl, (Option.some.inj h).symm⟩
  | n :: ns, j + 1, z, h => by
    have h : (D.pys (ns.map D.int))[j]? = some z := h
    obtain ⟨x, h1, h2⟩ := pys_getL h
    exact ⟨x, by simpa using h1, h2⟩
theorem eqv_int (i j : Int) : PyData.eqv (D.py (.int i)) (D.py (.int j)) = decide (i = j) := deq_int i j
/-- the place of an int in a list -/
def ix (ns : List Int) (x : Int) : Nat := ns.findIdx fun y => decide (y = x)
theorem ix_spec {ns : List Int} {x : Int} (h : x ∈ ns) : ns[ix ns x]? = some x ∧ ∀ m, m < ix ns x → ∀ y, ns[m]? = some y → y ≠ x := by
  have hlt : ix ns x < ns.length := List.findIdx_lt_length_of_exists ⟨x, h, by simp⟩
  refine ⟨?_, fun m hm y hy => ?_⟩
  · rw [List.getElem?_eq_getElem hlt]
    have this' : ns[ix ns x] = x := of_decide_eq_true (List.findIdx_getElem (p := fun y => decide (y = x)) (xs := ns) (w := hlt))
    rw [this']
  · have := List.not_of_lt_findIdx hm
    have hm2 : m < ns.length := Nat.lt_trans hm hlt
    rw [List.getElem?_eq_getElem hm2] at hy
    cases hy
    simpa using this
section
variable {P : Program} {w : World} {K : PySem.W.Frag} {mg : Str → Option Value} {base : Heap} {S : Sc} {k : Nat} {X : Cx} {B : Bs} {E : XW} {G : List Ent} {a b e o : Expr} {es : List Expr} {pos p apos : Pos} {x : Str}
theorem CJ.u65 (cj : CJ P w K mg base S k X B E) : X.A.units + 65 < cLine := by have := cj.hr.un; omega
theorem jv_index (cj : CJ P w K mg base S k X B E) {cp : Pos} {Q : D → List Ent → Prop} (h : JV X B o G fun d1 G1 => ∃ ns : List Int, d1 = .lst (ns.map .int) ∧ JV X B e G1 fun d2 G2 => ∃ y, d2 = .int y ∧ y ∈ ns ∧ Q (.int (ix ns y : Nat)) G2)
    (hbase : attributeBase o "index" X.env (eval o X.env) = eval o X.env := by rfl)
    (hfew : ((backTo cp (starEach [e] X.env)).all (fun x => !x.1) && (backToKw cp (keywordEach [] X.env)).all (fun x => x.1.isSome) && decide (([e] : List Expr).length + ([] : List Keyword).length + (if ([] : List Keyword).isEmpty then 0 else 1) < 30)) = true := by rfl)
    (hline : (apos.endLine == cp.line) = true := by rfl) (hs : starEach [e] X.env = (false, eval e X.env) :: starEach [] X.env := by rfl) (hplain : (backTo cp (starEach [] X.env)).any (·.1) = false := by rfl) : JV X B (.Call (.Attribute o "index" apos) [e] [] cp) G Q := fun t s z F H VQ hl c q => by
  refine tS_of (pe_bm PySem.F.plainAttrs_list PySem.F.slot_list_index PySem.F.type_list_index (mt_indexD cj.u65) pe_sem (pa_cons pe_sem pa_nil hs) hbase hfew hline hs hplain) ?_
  refine h t s z F H _ hl c fun v F1 H1 d1 G1 c1 ⟨ns, e1, h2⟩ => ?_
  subst e1
  obtain ⟨l, xs, rfl, hx1, hx2⟩ : ∃ l xs, v = .ref l ∧ F1 l = some (.lst xs) ∧ DPs X.K F1 xs (ns.map .int) := by
    cases c1.top with | lst h1 h2 => exact ⟨_, _, rfl, h1, h2⟩
  refine ⟨.inl ⟨rfl, _, .of (c1.fh _ _ hx1)⟩, ?_⟩
  refine h2 (some (.ref l) :: t) s (.fz (.lst (ns.map .int)) :: z) F1 H1 _ (by simp [hl]) c1 fun u F2 H2 d2 G2 c2 ⟨y, e2, hy, hq⟩ => ?_
  subst e2
  obtain ⟨i1, i2⟩ := ix_spec hy
  have dl : Dp X.K H2 (.ref l) (D.py (.lst (ns.map .int))) := DP.dp _ _ c2.pop.topH (Flat.lst (k := 0) (flat_ints ns))
  have fl : Flat 1 (.lst (ns.map .int)) := .lst (flat_ints ns)
  have eu : u = .int y := by cases c2.top; rfl
  subst eu
  have dy : Dp X.K H2 (.int y) (D.py (.int y)) := DP.dp _ _ c2.topH (Flat.int (k := 0) y)
  exact ⟨l, .int y, _, _, ix ns y, _, rfl, rfl, dl, dy, fl.shaped, (Flat.int (k := 0) y).shaped, pys_get i1, by rw [eqv_int]; simp, fun m z' hm hz => by
    obtain ⟨x', h3, rfl⟩ := pys_getL hz
    rw [eqv_int]
    exact decide_eq_false (i2 m hm x' h3), q _ F2 H2 _ G2 (c2.pop.pop.fz (.int _)) hq⟩
/-- e in x, of ints -/
theorem any_int (ns : List Int) (y : Int) : ((D.pys (ns.map D.int)).any fun z => PyData.eqv z (D.py (.int y))) = decide (y ∈ ns) := by
  induction ns with
  | nil => rfl
  | cons n ns ih =>
    show (PyData.eqv (D.py (.int n)) (D.py (.int y)) || (D.pys (ns.map D.int)).any fun z => PyData.eqv z (D.py (.int y))) = _
    rw [ih, eqv_int]
    by_cases z : n = y
    · subst z; simp
    · have : ¬ y = n := fun e => z e.symm
      simp [z, this]
theorem relB_inL {ns : List Int} {y : Int} : RelB X (rInD X.K) (.int y) (.lst (ns.map .int)) (decide (y ∈ ns)) := fun v u H VQ h1 h2 q => by
  have fl : Flat 1 (.lst (ns.map .int)) := .lst (flat_ints ns)
  exact ⟨_, _, DP.dp _ v h1 (Flat.int (k := 0) y), DP.dp _ u h2 fl, (Flat.int (k := 0) y).shaped, fl.shaped, by rw [any_int]; exact q⟩
theorem relB_notinL {ns : List Int} {y : Int} : RelB X (rNotInD X.K) (.int y) (.lst (ns.map .int)) (!decide (y ∈ ns)) := fun v u H VQ h1 h2 q => by
  have fl : Flat 1 (.lst (ns.map .int)) := .lst (flat_ints ns)
  exact ⟨_, _, DP.dp _ v h1 (Flat.int (k := 0) y), DP.dp _ u h2 fl, (Flat.int (k := 0) y).shaped, fl.shaped, by rw [any_int]; exact q⟩
theorem jt_inL (cj : CJ P w K mg base S k X B E) {Q : Bool → List Ent → Prop} (h : JV X B a G fun d1 G1 => JV X B b G1 fun d2 G2 => ∃ (y : Int) (ns : List Int), d1 = .int y ∧ d2 = .lst (ns.map .int) ∧ Q (decide (y ∈ ns)) G2) (hm : behindInMarks .In b = false := by with_unfolding_all rfl) : JT X B (.Compare a [.In] [b] pos) G Q :=
  jt_cmp (op_inD cj.u65) hm (JV.imp h fun _ _ h => JV.imp h fun _ _ ⟨y, ns, e1, e2, q⟩ => by subst e1 e2; exact ⟨_, relB_inL, q⟩)
theorem jt_notinL (cj : CJ P w K mg base S k X B E) {Q : Bool → List Ent → Prop} (h : JV X B a G fun d1 G1 => JV X B b G1 fun d2 G2 => ∃ (y : Int) (ns : List Int), d1 = .int y ∧ d2 = .lst (ns.map .int) ∧ Q (!decide (y ∈ ns)) G2) (hm : behindInMarks .NotIn b = false := by with_unfolding_all rfl) : JT X B (.Compare a [.NotIn] [b] pos) G Q :=
  jt_cmp (op_notInD cj.u65) hm (JV.imp h fun _ _ h => JV.imp h fun _ _ ⟨y, ns, e1, e2, q⟩ => by subst e1 e2; exact ⟨_, relB_notinL, q⟩)
end
end J

namespace J
open PySem PySem.Spec L2
section
variable {P : Program} {w : World} {K : PySem.W.Frag} {mg : Str → Option Value} {base : Heap} {S : Sc} {k : Nat} {X : Cx} {B : Bs} {E : XW} {G : List Ent} {a b e o : Expr} {es : List Expr} {pos p apos cp : Pos} {x : Str}
theorem strs_of_dps {K : PySem.W.Frag} {F : Hp} : ∀ {xs : List V} {ns : List Str}, DPs K F xs (ns.map D.str) → xs = ns.map V.str
  | _, [], h => by cases h; rfl
  | _, n :: ns, h => by
    cases h with
    | cons r t =>
      cases r
      rw [strs_of_dps t]; rfl
theorem dps_strs {K : PySem.W.Frag} {F : Hp} : ∀ (ns : List Str), DPs K F (ns.map V.str) (ns.map D.str)
  | [] => .nil
  | n :: ns => .cons (.str n) (dps_strs ns)
/-- a text's method with one thing handed: first the text, then the other -/
theorem runM1 {r : V → List V → Hp → VK → Prop} {R : Str → D → List Ent → Prop} (h : JV X B o G fun d1 G1 => ∃ s, d1 = .str s ∧ JV X B e G1 fun d2 G2 => R s d2 G2) {t s : St} {z : List Ent} {F H : Hp} {VQ : VK} (hl : t.length = z.length) (c : Conf X.K B (t ++ s) F H (z ++ G))
    (q : ∀ (a : Str) u F' H' d2 G', Conf X.K B (some u :: (t ++ s)) F' H' (.fz d2 :: (z ++ G')) → R a d2 G' → r (.str a) [u] H' VQ) : tM1 r (tS X o) (tS X e) s H VQ :=
  h t s z F H _ hl c fun v F1 H1 d1 G1 c1 ⟨a, e1, h2⟩ => by
    subst e1
    have ev : v = .str a := by cases c1.top; rfl
    subst ev
    exact ⟨⟨a, rfl⟩, h2 t s z F1 H1 _ hl c1.pop fun u F2 H2 d2 G2 c2 q2 => q a u F2 H2 d2 G2 c2 q2⟩
theorem jv_join {Q : D → List Ent → Prop} (h : JV X B o G fun d1 G1 => ∃ s : Str, d1 = .str s ∧ JV X B e G1 fun d2 G2 => ∃ ys : List Str, d2 = .lst (ys.map .str) ∧ (ys.map (·.length)).sum + ys.length * s.length ≤ 16777216 ∧ Q (.str (Txt.join s ys)) G2)
    (hs : starEach [e] X.env = [(false, eval e X.env)] := by rfl) (hbase : attributeBase o "join" X.env (eval o X.env) = eval o X.env := by rfl) (hline : (apos.endLine == pos.line) = true := by rfl) : JV X B (.Call (.Attribute o "join" apos) [e] [] pos) G Q := fun t s z F H VQ hl c q =>
  tS_of (pe_join pe_sem pe_sem hs hbase hline) (runM1 h hl c fun a u F' H' d2 G' c' ⟨ys, e1, hz, hq⟩ => by
    subst e1
    have sm := c'.fh
    cases c'.top with
    | lst h1 h2 =>
      rw [strs_of_dps h2] at h1
      exact ⟨a, _, ys, rfl, rfl, .inl (.of (sm _ _ h1)), hz, q _ F' H' _ G' (c'.pop.fz (.str _)) hq⟩)
theorem je_split {Q : Ent → List Ent → Prop} (h : JV X B o G fun d1 G1 => ∃ s : Str, d1 = .str s ∧ JV X B e G1 fun d2 G2 => ∃ b : Str, d2 = .str b ∧ (b.length == 0) = false ∧ s.length + 2 ≤ sizeLine ∧ Q (.ow (.lst ((Txt.split s b).map .str))) G2)
    (hs : starEach [e] X.env = [(false, eval e X.env)] := by rfl) (hbase : attributeBase o "split" X.env (eval o X.env) = eval o X.env := by rfl) (hline : (apos.endLine == pos.line) = true := by rfl) : JE X B (.Call (.Attribute o "split" apos) [e] [] pos) G Q := fun t s z F H VQ hl c q =>
  tS_of (pe_split pe_sem pe_sem hs hbase hline) (runM1 h hl c fun a u F' H' d2 G' c' ⟨b, e1, hb, hz, hq⟩ => by
    subst e1
    have eu : u = .str b := by cases c'.top; rfl
    subst eu
    exact ⟨a, b, rfl, rfl, hb, hz, fun p np => q _ F' _ _ G' (c'.pop.newL np (dps_strs _)) trivial hq⟩)
theorem jv_partition {Q : D → List Ent → Prop} (h : JV X B o G fun d1 G1 => ∃ s : Str, d1 = .str s ∧ JV X B e G1 fun d2 G2 => ∃ b : Str, d2 = .str b ∧ (b.length == 0) = false ∧ s.length ≤ sizeLine ∧ Q (.tup [.str (Txt.partition s b).1, .str (Txt.partition s b).2.1, .str (Txt.partition s b).2.2]) G2)
    (hs : starEach [e] X.env = [(false, eval e X.env)] := by rfl) (hbase : attributeBase o "partition" X.env (eval o X.env) = eval o X.env := by rfl) (hline : (apos.endLine == pos.line) = true := by rfl) : JV X B (.Call (.Attribute o "partition" apos) [e] [] pos) G Q := fun t s z F H VQ hl c q =>
  tS_of (pe_partition pe_sem pe_sem hs hbase hline) (runM1 h hl c fun a u F' H' d2 G' c' ⟨b, e1, hb, hz, hq⟩ => by
    subst e1
    have eu : u = .str b := by cases c'.top; rfl
    subst eu
    exact ⟨a, b, rfl, rfl, hb, hz, fun p np => q _ _ _ _ G' (c'.pop.newT np (.cons (.str _) (.cons (.str _) (.cons (.str _) .nil)))) hq⟩)
end
end J

namespace J
open PySem PySem.Spec L2
section
variable {P : Program} {w : World} {K : PySem.W.Frag} {mg : Str → Option Value} {base : Heap} {S : Sc} {k : Nat} {X : Cx} {B : Bs} {E : XW} {G : List Ent} {a b e o tg : Expr} {es : List Expr} {pos p apos cp : Pos} {x : Str}
/-- for .. in x, x a borrowed list that the body leaves as it is -/
theorem js_forB (cj : CJ P w K mg base S k X B E) (i kk0 : Nat) {xp : Pos} {body : List Stmt} {Dd : Dn} (ds : List D) (I : Nat → List Ent → Prop) (h0 : I 0 G) (hI : ∀ j G2, I j G2 → G2[i]? = some (.bw kk0 (.lst ds)))
    (step : ∀ j d G2, j < ds.length → ds[j]? = some d → I j G2 → JG X B S.li tg (.fz d) G2 fun G3 => JSs X B body G3 { Dd with nx := I (j + 1), ct := I (j + 1), bk := Dd.nx }) (fin : ∀ G2, I ds.length G2 → Dd.nx G2)
    (hN : S.N[i]? = some x := by rfl) (hv : i ∈ S.vi := by decide) (hs : ∀ v, foldedSetIterable (.Name x xp) X.env v = pure v := by intro _; rfl) : JS X B (.For tg (.Name x xp) body [] pos) G Dd := fun t s z F H De hl c kk => by
  have hn := okName_of (Sc.vis cj.ok hv hN).1
  have look : ∀ {s : St} {F H : Hp} {G : List Ent} {j : Nat}, Conf X.K B (t ++ s) F H (z ++ G) → I j G → ∃ l xs, s[i]? = some (some (.ref l)) ∧ H l = some (.lst xs) ∧ DPs X.K F xs ds ∧ B.ps[kk0]? = some (.ref l) := fun {s F H G j} c ii => by
    obtain ⟨v, e1, l, e2, ⟨xs, o1, o2⟩, e3, _⟩ := c.at (i := z.length + i) (by rw [get_app]; exact hI j G ii)
    subst e2
    rw [← hl, get_app] at e1
    exact ⟨l, xs, e1, o1, o2, e3⟩
  refine tSt_of (ps_for cj.po cj.calm (pi_list (pe_var (cj.xN hN) (cj.vis hv hN) hn.1 hn.2.1)) pg_sem pss_sem hs) ?_
  obtain ⟨l, xs0, e1, o1, _, e3⟩ := look c h0
  refine ⟨.ref l, e1, l, rfl, ⟨xs0, .of o1⟩, ?_⟩
  refine ⟨fun j m s' H' => m = ds.length - j ∧ j ≤ ds.length ∧ s'.length = s.length ∧ ∃ F G, Conf X.K B (t ++ s') F H' (z ++ G) ∧ I j G, ⟨ds.length, by simp, Nat.zero_le _, rfl, F, G, c, h0⟩, ?_⟩
  rintro j m s1 H1 ⟨rfl, hj, hs1, F1, G1, c1, ii⟩
  obtain ⟨l1, xs, _, o2, o3, e4⟩ := look c1 ii
  rw [e3] at e4
  cases e4
  have hlen := o3.length
  by_cases hlt : j < ds.length
  · have hx : j < xs.length := by omega
    refine .inr ⟨⟨xs, xs[j], .of o2, List.getElem?_eq_getElem hx⟩, fun s' H' => s'.length = s.length ∧ ∃ F G, Conf X.K B (t ++ s') F H' (z ++ G) ∧ I (j + 1) G, fun s' H' ⟨h1, F, G, h3, h4⟩ => ⟨ds.length - (j + 1), by omega, rfl, hlt, h1, F, G, h3, h4⟩, fun v H2 y => ?_⟩
    obtain ⟨eH, y⟩ := y
    subst eH
    have yv := y xs (.of o2)
    rw [List.getElem?_eq_getElem hx] at yv
    cases yv
    obtain ⟨d, hd, dp⟩ := pgetL o3 (List.getElem?_eq_getElem hx)
    refine step j d G1 hlt hd ii t s1 z F1 _ _ _ hl (c1.fz dp) trivial fun s3 F3 H3 G3 hs3 _ c3 q3 => ?_
    exact q3 t s3 z F3 H3 _ hl c3 ⟨fun s' F' H' G' e c' q => ⟨by rw [e, hs3, hs1], F', G', c', q⟩, fun v s' F' H' r G' c' ir q => kk.rt v s' F' H' r G' c' ir q, fun s' F' H' G' e c' q => kk.nx s' F' H' G' (by rw [e, hs3, hs1]) c' q, fun s' F' H' G' e c' q => ⟨by rw [e, hs3, hs1], F', G', c', q⟩⟩
  · have e : j = ds.length := by omega
    subst e
    exact .inl ⟨⟨xs, .of o2, by rw [hlen]; exact Nat.le_refl _⟩, kk.nx s1 F1 H1 G1 hs1 c1 (fin G1 ii)⟩
end
end J

namespace J
open PySem PySem.Spec L2
/-- what is lent as the k-th, behind the call -/
@[reducible] def putK' (G : List Ent) (i k : Nat) (bs : List (Nat × Ow)) : List Ent :=
  match bs.lookup k with
  | some o' => setOw G i o'
  | none => G.set i .no
theorem putK'_len (G : List Ent) (i k : Nat) (bs : List (Nat × Ow)) : (putK' G i k bs).length = G.length := by
  unfold putK'
  split
  · rw [setOw_len]
  · simp
def mrgE : Ent → Option Ow → Ent
  | .ow _, some o => .ow o
  | .bw m _, some o => .bw m o
  | _, _ => .no
theorem newE_some {as : List Arg} {bs : List (Nat × Ow)} {j k : Nat} {e : Ent} (h : findB j 0 as = some k) : newE as bs j e = mrgE e (bs.lookup k) := by
  cases e <;> cases hq : bs.lookup k <;> simp [newE, h, hq, mrgE]
theorem putK'_at {G : List Ent} {i k : Nat} {o : Ow} {bs : List (Nat × Ow)} (h : entOw G[i]? = some o) {n : Nat} {e : Ent} (hn : G[n]? = some e) :
    (putK' G i k bs)[n]? = some (if n = i then mrgE e (bs.lookup k) else e) := by
  have hlt := (List.getElem?_eq_some_iff.mp hn).1
  by_cases z : i = n
  · subst z
    rw [if_pos rfl]
    unfold putK'
    cases hb : bs.lookup k with
    | none =>
      simp only
      rw [List.getElem?_set_self hlt]
      cases e <;> rfl
    | some o' =>
      simp only
      rcases entOw_cases h with q | ⟨m, q⟩
      · rw [q] at hn; cases hn
        rw [setOw_ow q, List.getElem?_set_self hlt]; rfl
      · rw [q] at hn; cases hn
        rw [setOw_bw q, List.getElem?_set_self hlt]; rfl
  · rw [if_neg fun e => z e.symm]
    unfold putK'
    split
    · rcases entOw_cases h with q | ⟨m, q⟩
      · rw [setOw_ow q, List.getElem?_set_ne z, hn]
      · rw [setOw_bw q, List.getElem?_set_ne z, hn]
    · rw [List.getElem?_set_ne z, hn]
section
variable {P : Program} {w : World} {K : PySem.W.Frag} {mg : Str → Option Value} {base : Heap} {S : Sc} {k : Nat} {X : Cx} {B : Bs} {E : XW} {G : List Ent} {a b e o : Expr} {es : List Expr} {pos p px : Pos} {x y : Str}
/-- C(e, y), y an own thing that is lent -/
theorem je_make2 {U : J.Spec} {C f : Addr} {fd : FuncData} {ps : List Str} {kf : Nat} {Q : Ent → List Ent → Prop} (cj : CJ P w K mg base S k X B E) (Fo : FnOk P w K mg base (L2.CX P w) kf f fd ps (SpJ K U)) (hk : kf + 1 ≤ k) (j i : Nat) (mk : Mk K C f) (hm : mg x = some (.ref C)) (bi : Binds K fd ps [])
    (h : JV X B e G fun d G' => ∃ ow, entOw G'[i]? = some ow ∧ U [.b (.ins C [] []), .v d, .b ow] (fun r bs => r = .fz .non ∧ ∃ o, bs.lookup 0 = some o ∧ Q (.ow o) (putK' G' i 2 bs)) (fun x => E.R x (G'.set i .no)))
    (hj : S.gl[j]? = some x := by rfl) (hN : S.N[i]? = some y := by rfl) (hv : i ∈ S.vi := by decide) (he : starEach [e, .Name y px] X.env = (false, eval e X.env) :: starEach [.Name y px] X.env := by rfl) (he2 : starEach [.Name y px] X.env = (false, eval (.Name y px) X.env) :: starEach [] X.env := by rfl) (hpl : (backTo pos (starEach [.Name y px] X.env)).any (·.1) = false := by rfl) :
    JE X B (.Call (.Name x p) [e, .Name y px] [] pos) G Q := fun t s z F H VQ hl c q => by
  have bi' : Binds X.K fd ps [] := by rw [cj.hK]; exact bi
  have mk' : Mk X.K C f := by rw [cj.hK]; exact mk
  refine tS_of (pe_make (CX := L2.CX P w) mk' (fnAt cj Fo) (cj.hr.mono hk) (cj.gl hj) (cj.mgx hm) bi' .nil cj.pass pa_sem (cj.dbg hj) he hpl) ?_
  have h' : JA X B [e, .Name y px] G fun as G' => ∃ d ow, as = [.v d, .b i] ∧ entOw G'[i]? = some ow ∧ U [.b (.ins C [] []), .v d, .b ow] (fun r bs => r = .fz .non ∧ ∃ o, bs.lookup 0 = some o ∧ Q (.ow o) (putK' G' i 2 bs)) (fun x => E.R x (G'.set i .no)) :=
    JA.cons (h.imp fun d G' ⟨ow, ho, hu⟩ => JA.lend cj i (JA.nil ⟨d, ow, rfl, ho, hu⟩) hN hv (by rw [ho]; rfl) he2) he
  refine h' t s z F H _ hl c fun vs as F1 H1 G1 c1 ab ⟨d, ow, eas, ho, sp⟩ => ?_
  subst eas
  intro a dx na ndx ne
  rw [List.append_nil]
  have c2 := c1.alloc (o := .own a) ndx
  have na2 : (upd H1 dx (.own a)) a = none := by rw [upd_ne (fun z => ne z.symm)]; exact na
  have c3 := c2.new (p := a) (ho := .ins C dx []) (o := .ins C [] []) na2 ⟨dx, [], upd_same, upd_same, rfl, .nil⟩
  have c4 := c3.push (v := some (.ref a)) (e := .no) trivial (oad_no _)
  obtain ⟨v1, v2, rfl⟩ : ∃ v1 v2, vs = [v1, v2] := by
    have hlen := ab.length
    match vs, hlen with
    | [v1, v2], _ => exact ⟨v1, v2, rfl⟩
  have as2 : s[i]? = some (some v2) := by
    cases ab with
    | cons _ t => cases t with
      | cons q _ => exact q
  have c5 : Conf X.K B (((V.ref a :: [v1, v2]).map some).reverse ++ ([] ++ (some (.ref a) :: (t ++ s)))) (upd F1 dx (.own a)) (upd (upd H1 dx (.own a)) a (.ins C dx [])) ((([Arg.b 0, .v d, .b (1 + t.length + i)] : List Arg).map Arg.ent).reverse ++ ([] ++ (.ow (.ins C [] []) :: (z ++ G1)))) := by
    have : Conf X.K B ([some (.ref a), some (.ref a)] ++ ([some v2, some v1] ++ (t ++ s))) (upd F1 dx (.own a)) (upd (upd H1 dx (.own a)) a (.ins C dx [])) ([.no, .ow (.ins C [] [])] ++ ([.no, .fz d] ++ (z ++ G1))) := c4
    exact this.rot (a := [some (V.ref a), some (V.ref a)]) (b := [some v2, some v1]) (a' := [Ent.no, .ow (.ins C [] [])]) (b' := [Ent.no, .fz d]) rfl rfl
  have gi : (Ent.ow (.ins C [] []) :: (z ++ G1))[1 + t.length + i]? = G1[i]? := by
    rw [show 1 + t.length + i = (t.length + i) + 1 by omega, List.getElem?_cons_succ, hl, get_app]
  have si : (some (V.ref a) :: (t ++ s))[1 + t.length + i]? = s[i]? := by
    rw [show 1 + t.length + i = (t.length + i) + 1 by omega, List.getElem?_cons_succ, get_app]
  have ab5 : Paired (ArgB (some (.ref a) :: (t ++ s))) [V.ref a, v1, v2] [Arg.b 0, .v d, .b (1 + t.length + i)] := .cons rfl (.cons trivial (.cons (si.trans as2) .nil))
  have ok5 : okB (.ow (.ins C [] []) :: (z ++ G1)) [Arg.b 0, .v d, .b (1 + t.length + i)] = true := by
    show ((entOw (some (.ow (.ins C [] [])))).isSome && (findB 0 0 [Arg.v d, .b (1 + t.length + i)]).isNone && ((entOw (Ent.ow (.ins C [] []) :: (z ++ G1))[1 + t.length + i]?).isSome && (findB (1 + t.length + i) 0 []).isNone && true)) = true
    rw [gi, ho]
    have : findB 0 0 [Arg.v d, .b (1 + t.length + i)] = none := by
      show (if 1 + t.length + i = 0 then some 1 else none) = none
      rw [if_neg (by omega)]
    rw [this]; rfl
  have pe5 : parsOf (.ow (.ins C [] []) :: (z ++ G1)) [Arg.b 0, .v d, .b (1 + t.length + i)] = [.b (.ins C [] []), .v d, .b ow] := by
    show Par.b (.ins C [] []) :: .v d :: (match entOw (Ent.ow (.ins C [] []) :: (z ++ G1))[1 + t.length + i]? with | some o => Par.b o | none => Par.v .non) :: [] = _
    rw [gi, ho]
  have tail : ∀ (bs : List (Nat × Ow)), updB [Arg.b 0, .v d, .b (1 + t.length + i)] bs 0 (.ow (.ins C [] []) :: (z ++ G1)) = newE [Arg.b 0, .v d, .b (1 + t.length + i)] bs 0 (.ow (.ins C [] [])) :: (z ++ putK' G1 i 2 bs) := fun bs => by
    apply List.ext_getElem?
    intro n
    cases n with
    | zero => rfl
    | succ n =>
      rw [List.getElem?_cons_succ]
      cases hn : (z ++ G1)[n]? with
      | none =>
        have hlen : (z ++ putK' G1 i 2 bs).length = (z ++ G1).length := by simp [putK'_len]
        rw [List.getElem?_eq_none (by rw [updB_len, List.length_cons]; have := List.getElem?_eq_none_iff.mp hn; omega), List.getElem?_eq_none (by rw [hlen]; exact List.getElem?_eq_none_iff.mp hn)]
      | some e0 =>
        rw [updB_at _ _ 0 _ (n + 1) e0 (by rw [List.getElem?_cons_succ]; exact hn)]
        by_cases hz : n < z.length
        · rw [List.getElem?_append_left hz]
          rw [List.getElem?_append_left hz] at hn
          rw [hn]
          have : findB (0 + (n + 1)) 0 [Arg.b 0, .v d, .b (1 + t.length + i)] = none := by
            show (if 0 = 0 + (n + 1) then some 0 else if 1 + t.length + i = 0 + (n + 1) then some 2 else none) = none
            rw [if_neg (by omega), if_neg (by omega)]
          simp only [newE, this]
        · rw [List.getElem?_append_right (by omega)]
          rw [List.getElem?_append_right (by omega)] at hn
          rw [putK'_at ho hn]
          by_cases e1 : n - z.length = i
          · rw [if_pos e1]
            have : findB (0 + (n + 1)) 0 [Arg.b 0, .v d, .b (1 + t.length + i)] = some 2 := by
              show (if 0 = 0 + (n + 1) then some 0 else if 1 + t.length + i = 0 + (n + 1) then some 2 else none) = some 2
              rw [if_neg (by omega), if_pos (by omega)]
            rw [newE_some this]
          · rw [if_neg e1]
            have : findB (0 + (n + 1)) 0 [Arg.b 0, .v d, .b (1 + t.length + i)] = none := by
              show (if 0 = 0 + (n + 1) then some 0 else if 1 + t.length + i = 0 + (n + 1) then some 2 else none) = none
              rw [if_neg (by omega), if_neg (by omega)]
            simp only [newE, this]
  rw [← cj.hK]
  rw [← pe5] at sp
  refine ⟨_, _, ⟨upd F1 dx (.own a), _, [V.ref a, v1, v2], lentM [V.ref a, v1, v2] [Arg.b 0, .v d, .b (1 + t.length + i)]⟩, _, _, rfl, rfl, rfl, c5.enter rfl ab5 ok5, sp, fun v F' H' r bs fi hq => ?_, fun xd F' H' od c' xo hx => ?_⟩
  · obtain ⟨er, o, hlo, hq⟩ := hq
    obtain ⟨c6, hn⟩ := Conf.leave rfl rfl c5 ab5 ok5 fi.c bs fi.bs
    subst er
    have ev : v = .non := by
      cases fi.c.top; rfl
    refine ⟨ev, ?_⟩
    rw [tail] at c6
    have ne0 : newE [Arg.b 0, .v d, .b (1 + t.length + i)] bs 0 (.ow (.ins C [] [])) = .ow o := by
      simp [newE, findB, hlo]
    rw [ne0] at c6
    exact q _ F' H' (.ow o) _ c6 trivial hq
  · obtain ⟨c6, _⟩ := Conf.leave rfl rfl c5 ab5 ok5 c' [] (fun p hp => by cases hp)
    rw [tail] at c6
    exact cj.ind _ _ s [] H' (cj.lk t s z F' H' _ xd od hl c6.pop xo hx)
end
end J

namespace J
open PySem PySem.Spec L2
/-! ## a comprehension whose turn may raise -/
section
open HandSPX
variable {M : Model} {A : Around} {E : Value → Shared → Prop} {s : Shared} {Z : Obj → Prop} {base : Heap} {env : Env} {outer : List Env} {L e : Addr}
/-- noted by another frame's number before -/
theorem looks_otherZ {fl : Value} {Q : Unit → Shared → Prop} (hZ : Steady Z) (hfr : A.frames = some (env :: outer)) (hf : env.frame = some L) (hkb : base.StaysIn s.heap) (hen : base.get? e = none) (hl : s.heap.FunFrames base (env :: outer)) (ht : TracedZ s.heap base e Z fl) (hne : (fl == rawInt L) = false)
    (hQ : ∀ hp, HeldZ base (env :: outer) e Z L hp → s.heap.UpToSlots hp → Q () { s with heap := hp }) : wpAny M A (noteFrame (.ref e) env) Q E s := by
  obtain ⟨obe, efs, T, obT, tfs, ge, gz, gd, gv, gn, gT, gh, gt, gf⟩ := ht
  unfold noteFrame
  simp only [hf]
  refine wpAny_bind (wpAny_field ge gd gv ?_)
  rw [if_pos (show (Value.ref T != Value.none) = true from by simp)]
  refine wpAny_bind (wpAny_field gh gt gf ?_)
  rw [if_neg (show ¬ ((fl == rawInt L) = true) from by rw [hne]; simp)]
  refine wpAny_bind (wpAny_setField gh gt (Array.getElem?_eq_some_iff.mp gf).1 ?_)
  have oth : ∀ adr, adr ≠ T → (s.heap.update T (Obj.mapFields (·.setIfInBounds 3 Value.none))).get? adr = s.heap.get? adr := fun adr kb => Heap.get?_update_other _ _ (Ne.symm kb)
  have nrec : ∀ adr ob, s.heap.get? adr = some ob → (∀ efs, ob.data ≠ .fields efs) → adr ≠ T := fun adr ob kb knf kq => by
    rw [kq, gh] at kb; injection kb with kb; subst kb; exact knf tfs gt
  refine wpAny_entryZ hZ hfr (hl.of_keeps fun adr ob kb knf => ⟨ob, (oth adr (nrec adr ob kb knf)).trans kb, rfl⟩) hf ((oth e (Ne.symm gT)).trans ge)
    (fun adr ob kbo => (oth adr fun kq => by rw [kq, gn] at kbo; cases kbo).trans (hkb adr ob kbo)) hen gd (Array.getElem?_eq_some_iff.mp gv).1 gz fun h' gN => ?_
  obtain ⟨y1, y2, y3, y4⟩ := gN
  exact hQ h' ⟨y1, hen, y2, y3⟩ fun adr ob kb knf => y4 adr ob ((oth adr (nrec adr ob kb knf)).trans kb) knf
theorem note_env {x : Value} {e1 e2 : Env} (h : e1.frame = e2.frame) : noteFrame x e1 = noteFrame x e2 := by
  unfold noteFrame frameOf
  rw [h]
theorem thnX {α : Type} {t : Sem α} {Q Q' : α → Shared → Prop} (h : wpAny M A t Q E s) (hQ : ∀ a s, Q a s → Q' a s) : wpAny M A t Q' E s := wpAny_mono h hQ fun _ _ z => z
def compPostX (M : Model) (A : Around) (E : Value → Shared → Prop) (use : Option (Value → Sem Unit)) (Q : Value → Shared → Prop) (acc : Value) (cenv : Env) (r : Result) (s' : Shared) : Prop :=
  match r, use with
  | .ok _, none => ∃ mm, s'.heap.Ns cenv.locals mm ∧ ∀ hp, Heap.SameBut cenv.locals s'.heap hp → Q acc { s' with heap := hp }
  | .ok _, some us => wpAny M A (us acc) (fun _ t => ∃ mm, t.heap.Ns cenv.locals mm ∧ ∀ hp, Heap.SameBut cenv.locals t.heap hp → Q .none { t with heap := hp }) E s'
  | .error x, _ => ∃ m, s'.heap.Ns cenv.locals m ∧ ∀ h', Heap.SameBut cenv.locals s'.heap h' → wpAny M A (passOn "comprehension.variables-let-go" x cenv : Sem Value) (fun _ _ => False) E { s' with heap := h' }
theorem wpAny_comprehension_freeX {e : Expr} {scope : Scope} {pos : Pos} {newAcc first : Sem Value} {g : Comprehension} {gr : List Comprehension} {clo : List (Str × Addr)} {use : Option (Value → Sem Unit)}
    {Q : Value → Shared → Prop}
    (ecl : clausesOf e = g :: gr) (eit : ∀ y, foldedSetIterable g.iter env y = pure y) (eclo : closureFor scope env = pure clo)
    (ekd : scope.kind = .function) (enm : ∀ y ∈ scope.names, y.2 = .local → scope.names.lookup y.1 = some .local)
    (hw : wpAny M A first (fun y t₁ => wpAny M A (pyIter y) (fun itr t₂ => wpAny M A newAcc (fun lst t₃ =>
      wpAny M A (newFunctionEnv scope env.globals clo [] env.qual none .none (some env)) (fun ev t₄ =>
        codeAny M A (.compStart e 0 itr lst { ev with scope := relabel scope env }) (compPostX M A E use Q lst { ev with scope := relabel scope env }) t₄) E t₃) E t₂) E t₁) E s) : wpAny M A (comprehension e scope env pos newAcc false first use) Q E s := by
  unfold comprehension
  rw [eclo, ecl]
  refine wpAny_bind (wpAny_mono hw (fun y t₁ w₁ => wpAny_bind (wpAny_standAt (wpAny_bind (wpAny_of_eq (eit y) (wpAny_bind (wpAny_holding (wpAny_mono w₁ (fun itr t₂ w₂ =>
    wpAny_standIf (wpAny_bind (wpAny_mono w₂ (fun lst t₃ w₃ => wpAny_bind (wpAny_pure (wpAny_bind (wpAny_mono w₃ (fun ev t₄ w₄ => ?_) fun _ _ hp => hp)))) fun _ _ hp => hp)))
      fun _ _ hp => hp))))))) fun _ _ hp => hp)
  dsimp only
  have kv : ∀ y ∈ (scope.names.filter fun y => (y.2 == .local || y.2 == .cell) && y.1 != (".0" : Str)).reverse, y.2 = .local →
      Env.kindOf { ev with scope := relabel scope env } y.1 = some .local := fun y ky kl => lookup_relabel_local (enm y (List.mem_filter.mp (List.mem_reverse.mp ky)).1 kl)
  have kv2 : ∀ y ∈ (scope.names.filter fun y => (y.2 == .local || y.2 == .cell) && y.1 != (".0" : Str)).reverse.drop 1 ++ (scope.names.filter fun y => (y.2 == .local || y.2 == .cell) && y.1 != (".0" : Str)).reverse.take 1,
      y.2 = .local → Env.kindOf { ev with scope := relabel scope env } y.1 = some .local := fun y ky kl => by
    rcases List.mem_append.mp ky with m1 | m1
    · exact kv y (List.mem_of_mem_drop m1) kl
    · exact kv y (List.mem_of_mem_take m1) kl
  refine wpAny_holding (wpAny_bind (wpAny_attempt (wpAny_holding (wpAny_run (codeAny_mono w₄ fun res tz kr => ?_)))))
  cases res with
  | ok fl =>
    cases use with
    | none =>
      obtain ⟨m, kn, kr⟩ := kr
      exact wpAny_bind (wpAny_holding (wpAny_comp_letGo (cenv := { ev with scope := relabel scope env }) ekd _ tz m kv kn fun hp m2 _ ksb => wpAny_pure (kr hp ksb)))
    | some use1 =>
      refine wpAny_bind (wpAny_rule (wpAny_bind (wpAny_holding (wpAny_mono kr (fun _ tzz kr2 => ?_) fun _ _ hp => hp))))
      obtain ⟨m, kn, kr2⟩ := kr2
      exact wpAny_bind (wpAny_comp_letGo (cenv := { ev with scope := relabel scope env }) ekd _ tzz m kv2 kn fun hp m2 _ ksb => wpAny_pure (kr2 hp ksb))
  | error y =>
    have kr2 : ∃ m, tz.heap.Ns ev.locals m ∧ ∀ hp, Heap.SameBut ev.locals tz.heap hp → wpAny M A (passOn "comprehension.variables-let-go" y { ev with scope := relabel scope env } : Sem Value) (fun _ _ => False) E { tz with heap := hp } := by cases use <;> exact kr
    obtain ⟨m, kn, kr⟩ := kr2
    exact wpAny_bind (wpAny_holding (wpAny_comp_letGo (cenv := { ev with scope := relabel scope env }) ekd _ tz m kv kn fun hp m2 _ ksb => wpAny_mono (kr hp ksb) (fun _ _ fl => fl.elim) fun _ _ y => y))
end
section
open HandSPX
variable {X : Cx} {pins : List (Addr × Obj)} {σ : St} {H : Hp} {s : Shared}
abbrev blkX (X : Cx) (s : Shared) (H : Hp) (scope : Scope) (cenv : Env) (fp : List Addr) (xe : Value → Shared → Prop) : Cx := { X.blk s H scope cenv fp with xe := xe }
theorem inv_xe {xe : Value → Shared → Prop} (I : Inv X pins σ H s) : Inv { X with xe := xe } pins σ H s :=
  ⟨⟨I.ok.mod, I.ok.kind, I.ok.glob, I.ok.blt, I.ok.above, I.ok.inj, I.ok.has, I.ok.cab, I.ok.hd, I.ok.frames, I.ok.stk, I.ok.exf, I.ok.bs, I.ok.bsz, I.ok.noex, I.ok.exfs, I.ok.funs, I.ok.frf⟩, I.os, I.bare, I.base, I.loc, I.cell, I.free, I.freeC, I.pin, I.hok, I.len⟩
/-- an exception of the block, in the air of the def -/
theorem blk_takes {W : WX} {scope : Scope} {s3 : Shared} {H3 : Hp} {ce : Env} {fp : List Addr} {D : Value} {use : Option (Value → Sem Unit)} {Qf : Value → Shared → Prop}
    (hst : X.stack = X.env :: X.outer) (hf : X.env.frame = some X.env.locals) (tk : Takes X W) (hW : ∀ cls d σ σ' H, W cls d σ H → W cls d σ' H) (I3 : Inv X pins σ H3 s3) (cL : ce.locals = s3.heap.objs.size) (cF : ce.frame = X.env.frame)
    (f3 : ∀ b ∈ fp, FpOk X pins H3 b) :
    Takes (blkX X s3 H3 scope ce fp (notedBy (model X.prog X.w) X.A ce fun e s' => compPostX (model X.prog X.w) X.A X.xe use Qf D ce (.error e) s')) W := by
  rintro u s' ⟨a, B, sI, pins', σ', H', cls, d, rfl, I', nb, up, sky, na, os, ag, w'⟩
  show wpAny (model X.prog X.w) X.A (noteFrame (.ref a) ce) _ _ _
  rw [note_env cF]
  have hfrm : X.A.frames = some (X.env :: X.outer) := by rw [I3.ok.frames, hst]
  have nC : H' ce.locals = none := I'.free
  have fC : FpOk X pins H' ce.locals := I3.fpOk (Nat.le_of_eq cL.symm) nC
  obtain ⟨f0, f1, f2, f4, f5, f6⟩ := fC
  have back : ∀ {s : Shared} {p : List (Addr × Obj)} {σ2 : St}, Inv (blkX X s3 H3 scope ce fp (notedBy (model X.prog X.w) X.A ce fun e s' => compPostX (model X.prog X.w) X.A X.xe use Qf D ce (.error e) s')) p σ2 H' s → Inv X pins σ H' s := fun {s p σ2} I6 =>
    I3.call' (ch := fp) I6.os I6.base I6.hok I6.bare fun b hb => ⟨(f3 b hb).2.2.2.1, (f3 b hb).2.1, (f3 b hb).2.2.2.2.1, (f3 b hb).2.2.2.2.2⟩
  have sky' : Sky B (X.env :: X.outer) a (Zc cls d) ce.locals s'.heap := by rw [← hst]; exact sky
  have fin : ∀ h1, HeldZ B (X.env :: X.outer) a (Zc cls d) X.env.locals h1 → s'.heap.UpToSlots h1 → compPostX (model X.prog X.w) X.A X.xe use Qf D ce (.error (.ref a)) { s' with heap := h1 } := fun h1 hh up1 => by
    have J1 := I'.landed (s' := { s' with heap := h1 }) nb hh.1 (up.trans up1) os ag
    obtain ⟨m, hn, _⟩ := id J1.loc
    refine (show ∃ m, h1.Ns ce.locals m ∧ _ from ⟨m, hn, fun h2 sb => ?_⟩)
    obtain ⟨k1, k2, k3, oe, vs, T, oT, ts, he, hz, hd, hv1, hnT, hTe, hT, hdT, hv3⟩ := hh
    obtain ⟨oC, es, ep, hC, hdC, _⟩ := hn
    have aC : a ≠ ce.locals := fun z => by rw [z] at he; rw [show h1.get? ce.locals = _ from hC] at he; cases he; rw [hdC] at hd; cases hd
    have TC : T ≠ ce.locals := fun z => by rw [z] at hT; rw [show h1.get? ce.locals = _ from hC] at hT; cases hT; rw [hdC] at hdT; cases hdT
    have I8 : Inv X pins σ H' { s' with heap := h2 } := (back J1).turned (t' := s'.toks) (fun b o hb e => (sb.2 b hb).trans e) f0 f1 f4 f5 f6
    obtain ⟨B2, b1, b2⟩ := restrict B fun b => decide (b ≠ ce.locals)
    have b3 : ∀ b o, B2.get? b = some o → b ≠ ce.locals ∧ B.get? b = some o := fun b o e => by
      by_cases z : b = ce.locals
      · rw [b2 b (by simp [z])] at e; cases e
      · rw [b1 b (by simp [z])] at e; exact ⟨z, e⟩
    have b4 : ∀ b, B.get? b = none → B2.get? b = none := fun b e => by
      cases q : B2.get? b with
      | none => rfl
      | some o => have := (b3 b o q).2; rw [e] at this; cases this
    have he2 : h2.get? a = some oe := (sb.2 a aC).trans he
    have hT2 : h2.get? T = some oT := (sb.2 T TC).trans hT
    have hh2 : HeldZ B2 (X.env :: X.outer) a (Zc cls d) X.env.locals h2 := by
      refine ⟨fun b o e => ?_, b4 a k2, ?_, oe, vs, T, oT, ts, he2, hz, hd, hv1, b4 T hnT, hTe, hT2, hdT, hv3⟩
      · obtain ⟨z, e'⟩ := b3 b o e
        exact (sb.2 b z).trans (k1 b o e')
      · have q := I8.stack
        rw [hst] at q
        refine funFrames_none q fun b hb => b4 b ?_
        exact (k3.mem hb).1
    have fin2 : wpAny (model X.prog X.w) X.A (setFlight (.ref a) ce.frame) (fun _ s4 => wpAny (model X.prog X.w) X.A (throw (.ref a) : Sem Value) (fun _ _ => False) X.xe s4) X.xe { s' with heap := h2 } := by
      rw [cF, hf]
      refine setFlight_onZ hh2 fun h4 hh4 up4 => wpAny_throw (tk _ _ ?_)
      obtain ⟨G, g1, g2⟩ := restrict sI.heap fun b => decide (b ≠ ce.locals)
      have g3 : ∀ b o, G.get? b = some o → b ≠ ce.locals ∧ sI.heap.get? b = some o := fun b o e => by
        by_cases z : b = ce.locals
        · rw [g2 b (by simp [z])] at e; cases e
        · rw [g1 b (by simp [z])] at e; exact ⟨z, e⟩
      have I9 : Inv X pins σ H' { sI with heap := G } := (back I').turned (t' := sI.toks) (fun b o hb e => (g1 b (by simp [hb])).trans e) f0 f1 f4 f5 f6
      refine ⟨a, B2, { sI with heap := G }, pins, σ, H', cls, d, rfl, I9, fun b o e hb => ?_, fun b o e hnf => ?_, .inr (.inr (by rw [hst]; exact hh4)), na, os, ag, hW _ _ _ _ _ w'⟩
      · obtain ⟨z, e'⟩ := g3 b o e
        rw [b1 b (by simp [z])]
        exact nb b o e' hb
      · obtain ⟨z, e'⟩ := g3 b o e
        obtain ⟨sl1, q1⟩ := (up.trans up1) b o e' hnf
        obtain ⟨sl2, q2⟩ := up4 b _ ((sb.2 b z).trans q1) hnf
        exact ⟨sl2, q2⟩
    unfold PySem.passOn
    refine wpAny_bind (wpAny_field he2 hd hv1 ?_)
    rw [if_neg (show ¬ ((Value.ref T == Value.none) = true) from by simp)]
    first
      | exact wpAny_bind (wpAny_pure (wpAny_bind fin2))
      | exact wpAny_bind fin2
  rcases sky' with ⟨hB, hn, hl, oe, vs, he, hz, hd, h1⟩ | fl | hd
  · exact look_newZ Zc.steady hfrm hl hf he hB hn hd h1 hz fin
  · exact looks_onZ Zc.steady hfrm hf fl fin
  · obtain ⟨k1, k2, k3, k4⟩ := hd
    refine looks_otherZ Zc.steady hfrm hf k1 k2 k3 k4 ?_ fin
    have : ce.locals ≠ X.env.locals := f1
    refine beq_eq_false_iff_ne.mpr fun z => this ?_
    simp only [rawInt, Value.int.injEq] at z
    exact Int.ofNat.inj z.1
theorem lc_coreX {W : WX} {pins : List (Addr × Obj)} {s : Shared} {σ : St} {H : Hp} {Q : VK} {elt tg iter : Expr} {ifs : List Expr} {scope : Scope} {own : List (Str × Nat)} {pos pos' : Pos} {wi : TI} {g : TG} {tt : TT} {te : TE} {use : Option (Value → Sem Unit)} {Qf : Value → Shared → Prop}
    (hst : X.stack = X.env :: X.outer) (hfr : X.env.frame = some X.env.locals) (tk : Takes X W) (hW : ∀ cls d σ σ' H, W cls d σ H → W cls d σ' H) (hcm : X.calm = true) (hnd : X.N.Nodup) (Iv : Inv X pins σ H s) (hit : PI X tg iter wi) (hok : BlkOk X.N X.env.scope scope own)
    (hg : ∀ (s : Shared) (H : Hp) (C : Addr) (cl : List (Str × Addr)) (ads : List Addr) (xe : Value → Shared → Prop), Takes (blkX X s H scope (compEnvC scope cl C X.env) ads xe) W → PassesOwn (model X.prog X.w) X.A (compEnvC scope cl C X.env) xe → PG (blkX X s H scope (compEnvC scope cl C X.env) ads xe) tg g) (ht : ∀ (s : Shared) (H : Hp) (C : Addr) (cl : List (Str × Addr)) (ads : List Addr) (xe : Value → Shared → Prop), Takes (blkX X s H scope (compEnvC scope cl C X.env) ads xe) W → PassesOwn (model X.prog X.w) X.A (compEnvC scope cl C X.env) xe → PTs (blkX X s H scope (compEnvC scope cl C X.env) ads xe) ifs tt)
    (he : ∀ (s : Shared) (H : Hp) (C : Addr) (cl : List (Str × Addr)) (ads : List Addr) (xe : Value → Shared → Prop), Takes (blkX X s H scope (compEnvC scope cl C X.env) ads xe) W → PassesOwn (model X.prog X.w) X.A (compEnvC scope cl C X.env) xe → PE (blkX X s H scope (compEnvC scope cl C X.env) ads xe) elt te) (hfs : ∀ xx, foldedSetIterable iter X.env xx = pure xx)
    (hq : tLc wi g tt te (own.map (·.2)) σ H Q)
    (hRR : ∀ D (cv : Env) s' mm H', Inv X pins σ H' s' → Q (.ref D) H' → s'.heap.Ns cv.locals mm → FpOk X pins H' cv.locals → compPostX (model X.prog X.w) X.A X.xe use Qf (.ref D) cv (.ok .next) s') : wpAny (model X.prog X.w) X.A (comprehension (.ListComp elt [⟨tg, iter, ifs, 0⟩] scope pos) scope X.env pos' (newList []) false (eval iter X.env) use) Qf X.xe s := by
  have kfree : ∀ y ∈ scope.names, y.2 = .free → ∃ c, X.env.cells.lookup y.1 = some c := fun y ky eq => by
    rcases hok.free y ky eq with kk | kk
    · exact Iv.ok.has _ (.inl kk)
    · exact Iv.ok.has _ (.inr kk)
  refine wpAny_comprehension_freeX (use := use) rfl hfs (closure_ok kfree) hok.kind (fun y ky eq => by rw [hok.uniq y ky, eq])
    (thn (hit.run pins s σ H _ Iv hq) fun v0 t1 q0 => thn q0 fun v1 t2 q2 => ?_)
  obtain ⟨itr, ads, tnr, Jt, Hb, eq, Ib, Tr, sa2, fa2, qb⟩ := q2
  subst eq
  refine wpAny_newObj_type (newEnv_comp ?_) (Nat.zero_le _)
  generalize eD : t2.heap.objs.size = D
  have nD : Hb D = none := Ib.hok.fresh (Nat.le_of_eq eD)
  obtain ⟨W, ⟨mm0, ww0⟩, trn⟩ := qb D nD
  -- the new list
  generalize es3 : ({ t2 with heap := t2.heap.push { cls := .type "list", data := .seq ([] : List Value).toArray } } : Shared) = t3
  have Ic : Inv X pins σ (upd Hb D (.lst [])) t3 := by
    rw [← es3]
    refine Ib.laid (t' := t2.toks) (fun bb oo eq => Heap.get?_push_of_some _ eq) (Nat.le_of_eq eD) ⟨Nat.zero_le _, [], 0, .nil, ?_⟩
    rw [← eD]
    refine Heap.get?_push_size _ ?_; rfl
  have eh3 : t3.heap = t2.heap.push { cls := .type "list", data := .seq ([] : List Value).toArray } := by rw [← es3]
  have szs : ∀ bb ∈ ads, bb < t2.heap.objs.size := fun bb kb => by
    obtain ⟨oo, eq, _⟩ := Tr.obj _ _ sa2 bb kb
    exact Heap.lt_size eq
  have fa3 : ∀ bb ∈ ads, FpOk X pins (upd Hb D (.lst [])) bb ∧ bb < t3.heap.objs.size := fun bb kb => by
    have klt := szs bb kb
    refine ⟨⟨?_, (fa2 bb kb).2⟩, by rw [eh3, Heap.size_push]; exact Nat.lt_succ_of_lt klt⟩
    rw [upd_ne (by rw [← eD]; exact Nat.ne_of_lt klt)]
    exact (fa2 bb kb).1
  have sa3 : tnr 0 t3.heap := Tr.keep _ _ _ sa2 fun bb _ oo eq => by rw [eh3]; exact Heap.get?_push_of_some _ eq
  have Id := block_start Ic hok hnd fa3
  have nads : ∀ bb ∈ ads, (upd Hb D (.lst [])) bb = none := fun bb kb => (fa3 bb kb).1.1
  show codeAny _ _ (.compStart (.ListComp elt [⟨tg, iter, ifs, 0⟩] scope pos) 0 (.ref itr) (.ref D) (compEnvC scope (cellsFrom (t3.heap.objs.size + 1) scope.names (cloFrom X.env.cells scope.names [])) t3.heap.objs.size X.env)) (compPostX (model X.prog X.w) X.A X.xe use Qf (.ref D) (compEnvC scope (cellsFrom (t3.heap.objs.size + 1) scope.names (cloFrom X.env.cells scope.names [])) t3.heap.objs.size X.env)) { t3 with heap := pushCells (t3.heap.push { cls := .type "dict", data := .dict #[] }) scope.names }
  have tkb := blk_takes (scope := scope) (ce := compEnvC scope (cellsFrom (t3.heap.objs.size + 1) scope.names (cloFrom X.env.cells scope.names [])) t3.heap.objs.size X.env) (D := .ref D) (use := use) (Qf := Qf) hst hfr tk hW Ic rfl rfl fun bb kb => (fa3 bb kb).1
  have pob : PassesOwn (model X.prog X.w) X.A (compEnvC scope (cellsFrom (t3.heap.objs.size + 1) scope.names (cloFrom X.env.cells scope.names [])) t3.heap.objs.size X.env) (notedBy (model X.prog X.w) X.A (compEnvC scope (cellsFrom (t3.heap.objs.size + 1) scope.names (cloFrom X.env.cells scope.names [])) t3.heap.objs.size X.env) fun eq s' => compPostX (model X.prog X.w) X.A X.xe use Qf (.ref D) (compEnvC scope (cellsFrom (t3.heap.objs.size + 1) scope.names (cloFrom X.env.cells scope.names [])) t3.heap.objs.size X.env) (.error eq) s') := PassesOwn.looking (K := fun eq s' => compPostX (model X.prog X.w) X.A X.xe use Qf (.ref D) (compEnvC scope (cellsFrom (t3.heap.objs.size + 1) scope.names (cloFrom X.env.cells scope.names [])) t3.heap.objs.size X.env) (.error eq) s') (E₁ := fun eq s' => compPostX (model X.prog X.w) X.A X.xe use Qf (.ref D) (compEnvC scope (cellsFrom (t3.heap.objs.size + 1) scope.names (cloFrom X.env.cells scope.names [])) t3.heap.objs.size X.env) (.error eq) s')
  have jg := hg t3 _ t3.heap.objs.size (cellsFrom (t3.heap.objs.size + 1) scope.names (cloFrom X.env.cells scope.names [])) ads _ tkb pob
  have jt := ht t3 _ t3.heap.objs.size (cellsFrom (t3.heap.objs.size + 1) scope.names (cloFrom X.env.cells scope.names [])) ads _ tkb pob
  have je := he t3 _ t3.heap.objs.size (cellsFrom (t3.heap.objs.size + 1) scope.names (cloFrom X.env.cells scope.names [])) ads _ tkb pob
  have Id := inv_xe (xe := notedBy (model X.prog X.w) X.A (compEnvC scope (cellsFrom (t3.heap.objs.size + 1) scope.names (cloFrom X.env.cells scope.names [])) t3.heap.objs.size X.env) fun eq s' => compPostX (model X.prog X.w) X.A X.xe use Qf (.ref D) (compEnvC scope (cellsFrom (t3.heap.objs.size + 1) scope.names (cloFrom X.env.cells scope.names [])) t3.heap.objs.size X.env) (.error eq) s') Id
  clear tkb pob
  generalize ece : compEnvC scope (cellsFrom (t3.heap.objs.size + 1) scope.names (cloFrom X.env.cells scope.names [])) t3.heap.objs.size X.env = cv at Id jg jt je ⊢
  have ecL : cv.locals = t3.heap.objs.size := by subst ece; rfl
  generalize exe : (notedBy (model X.prog X.w) X.A cv fun eq s' => compPostX (model X.prog X.w) X.A X.xe use Qf (.ref D) cv (.error eq) s') = xe at Id jg jt je
  generalize eH3 : upd Hb D (.lst []) = Hc at Ic Id jg jt je ww0 nads fa3
  generalize es4 : ({ t3 with heap := pushCells (t3.heap.push { cls := .type "dict", data := .dict #[] }) scope.names } : Shared) = t4 at Id ⊢
  have sa4 : tnr 0 t4.heap := Tr.keep _ _ _ sa3 fun bb _ oo eq => by rw [← es4]; exact pushCells_keeps _ _ _ _ (Heap.get?_push_of_some _ eq)
  have ads_ok : ∀ {σ' : St} {H' : Hp} {s' : Shared}, Inv (blkX X t3 Hc scope cv ads xe) [] σ' H' s' → (∀ bb ∈ ads, H' bb = none) → ∀ bb ∈ ads, FpOk (blkX X t3 Hc scope cv ads xe) [] H' bb := fun {σ' H' s'} I' kn bb kb =>
    ⟨kn bb kb, (I'.ok.exf bb kb).1, I'.ok.exfs bb kb, .inl kb, fun xx c eq => (I'.ok.exf bb kb).2 xx c eq, fun p hp => absurd (show p ∈ ([] : List (Addr × Obj)) ++ [] from hp) (by simp)⟩
  have lp : codeAny (model X.prog X.w) X.A (.compLoop (.ListComp elt [⟨tg, iter, ifs, 0⟩] scope pos) 0 (.ref itr) (.ref D) cv) (compPostX (model X.prog X.w) X.A X.xe use Qf (.ref D) cv) t4 := by
    have exe : ∀ {eq s'}, xe eq s' → notedBy (model X.prog X.w) X.A cv (fun eq s' => compPostX (model X.prog X.w) X.A X.xe use Qf (.ref D) cv (.error eq) s') eq s' := fun {eq s'} zz => by rw [exe]; exact zz
    refine compLoop_any (fun nn s' => ∃ ii H', Inv (blkX X t3 Hc scope cv ads xe) [] (wipe σ (own.map (·.2))) H' s' ∧ tnr ii s'.heap ∧ (∀ bb ∈ ads, H' bb = none) ∧ W ii nn H') ?_ mm0 ⟨0, Hc, Id, sa4, nads, ww0⟩
    rintro nn t5 ⟨ii, He, Ie, sa5, na5, ww5⟩
    rcases trn ii nn He ww5 with ⟨hstop, qd⟩ | ⟨hgo, Nxt, kNxt, stp⟩
    · have pd := Tr.done (blkX X t3 Hc scope cv ads xe) rfl rfl rfl hcm ii [] t5 _ He (fun _ _ => False) Ie (ads_ok Ie na5) sa5 hstop
      refine thnF pd fun res t6 ⟨kr, If⟩ => ?_
      subst kr
      -- back in the def's context
      have Ig : Inv X pins σ He t6 := Ic.call' (ch := ads) If.os If.base If.hok If.bare fun bb kb => ⟨(fa3 bb kb).1.2.2.2.1, (fa3 bb kb).1.2.1, (fa3 bb kb).1.2.2.2.2.1, (fa3 bb kb).1.2.2.2.2.2⟩
      have nCl : He t3.heap.objs.size = none := by
        have zz : He cv.locals = none := If.free
        rw [ecL] at zz
        exact zz
      obtain ⟨mm, kn, _⟩ := If.loc
      have kn : t6.heap.Ns cv.locals mm := kn
      exact hRR D cv t6 mm He Ig qd kn (Ic.fpOk (Nat.le_of_eq ecL.symm) (by rw [ecL]; exact nCl))
    · have pi := Tr.item (blkX X t3 Hc scope cv ads xe) rfl rfl rfl hcm ii [] t5 _ He (fun _ _ => False) Ie (ads_ok Ie na5) sa5 hgo
      refine thnF pi fun res t6 ⟨uu, kr, q6⟩ => ?_
      subst kr
      refine thnF q6 fun _ t7 ⟨xx, Hg, Ig, rg, yg, sa7, na7⟩ => ?_
      have Ig' := Ig.pinned (ads_ok Ig na7) (Tr.obj _ _ sa7)
      refine wpAny_mono (jg.run _ t7 _ Hg xx uu _ Ig' rg (stp xx Hg yg)) (fun _ t8 ⟨sl8, Hh, Ih, ew8, qh⟩ => ?_) fun _ _ zz => exe zz
      refine wpAny_mono (jt.run _ t8 sl8 Hh _ Ih qh) (fun bb t9 ⟨Hi, Ii, qi⟩ => ?_) fun _ _ zz => exe zz
      -- the turn's end
      have fend : ∀ {s' : Shared} {H' : Hp}, Inv (blkX X t3 Hc scope cv ads xe) ([] ++ pinsAt ads t7.heap) sl8 H' s' → Nxt H' → ∃ mm, mm < nn ∧ ∃ ii H', Inv (blkX X t3 Hc scope cv ads xe) [] (wipe σ (own.map (·.2))) H' s' ∧ tnr ii s'.heap ∧ (∀ bb ∈ ads, H' bb = none) ∧ W ii mm H' := fun {s' H'} I' nxj => by
        obtain ⟨mm', km, ww'⟩ := kNxt H' nxj
        have pinned' : ∀ bb ∈ ads, ∀ oo, t7.heap.get? bb = some oo → s'.heap.get? bb = some oo ∧ H' bb = none := fun bb kb oo eq =>
          let zz := I'.pin (bb, oo) (List.mem_append_right _ (List.mem_append_right _ (mem_pinsAt kb eq)))
          ⟨zz.1, zz.2.1⟩
        have kl : (wipe σ (own.map (·.2))).length = sl8.length := by rw [← ew8, wipe_length]
        refine ⟨mm', km, ii + 1, H', (I'.unpinned (pins := [])).weak kl (fun jj vv eq => ?_), Tr.keep _ _ _ sa7 fun bb kb oo eq => (pinned' bb kb oo eq).1, fun bb kb => ?_, ww'⟩
        · rw [← ew8] at eq
          exact (wipe_some eq).1
        · obtain ⟨oo, eq, _⟩ := Tr.obj _ _ sa7 bb kb
          exact (pinned' bb kb oo eq).2
      cases bb with
      | false =>
        simp only [Bool.false_eq_true, if_false] at qi ⊢
        exact fend Ii qi
      | true =>
        simp only [if_true] at qi ⊢
        refine wpAny_mono (je.run _ t9 sl8 Hi _ Ii qi) (fun zz ta ⟨yd, Hj, Ij, rj, ac, eDj, szj, nxj⟩ => ?_) fun _ _ zz => exe zz
        exact app_ok (X := blkX X t3 Hc scope cv ads xe) Ij eDj szj rj fun tb Ik => fend Ik nxj
  exact codeAny_compStart_list lp (Tr.self X.A 0 _ _ _ sa4 lp)
/-- the whole as a value -/
theorem pe_lcX {W : WX} (hsk : X.stack = X.env :: X.outer) (hfm : X.env.frame = some X.env.locals) (tk : Takes X W) (hW : ∀ cls d sl σ' Ha, W cls d sl Ha → W cls d σ' Ha) {elt tg iter : Expr} {ifs : List Expr} {scope : Scope} {own : List (Str × Nat)} {pos : Pos} {wi : TI} {g : TG} {tt : TT} {te : TE} (hcm : X.calm = true) (hnd : X.N.Nodup) (hit : PI X tg iter wi) (hok : BlkOk X.N X.env.scope scope own)
    (hgt : ∀ (s0 : Shared) (Ha : Hp) (Ca : Addr) (cl : List (Str × Addr)) (fp : List Addr) (xe : Value → Shared → Prop), Takes (blkX X s0 Ha scope (compEnvC scope cl Ca X.env) fp xe) W → PassesOwn (model X.prog X.w) X.A (compEnvC scope cl Ca X.env) xe → PG (blkX X s0 Ha scope (compEnvC scope cl Ca X.env) fp xe) tg g) (hte : ∀ (s0 : Shared) (Ha : Hp) (Ca : Addr) (cl : List (Str × Addr)) (fp : List Addr) (xe : Value → Shared → Prop), Takes (blkX X s0 Ha scope (compEnvC scope cl Ca X.env) fp xe) W → PassesOwn (model X.prog X.w) X.A (compEnvC scope cl Ca X.env) xe → PTs (blkX X s0 Ha scope (compEnvC scope cl Ca X.env) fp xe) ifs tt)
    (hel : ∀ (s0 : Shared) (Ha : Hp) (Ca : Addr) (cl : List (Str × Addr)) (fp : List Addr) (xe : Value → Shared → Prop), Takes (blkX X s0 Ha scope (compEnvC scope cl Ca X.env) fp xe) W → PassesOwn (model X.prog X.w) X.A (compEnvC scope cl Ca X.env) xe → PE (blkX X s0 Ha scope (compEnvC scope cl Ca X.env) fp xe) elt te) (hfs : ∀ xx, foldedSetIterable iter X.env xx = pure xx := by intro _; rfl) : PE X (.ListComp elt [⟨tg, iter, ifs, 0⟩] scope pos) (tLc wi g tt te (own.map (·.2))) := by
  refine ⟨fun pp s0 sl Ha Qv Iv hq => ?_⟩
  rw [eval_ListComp]
  refine lc_coreX hsk hfm tk hW hcm hnd Iv hit hok hgt hte hel hfs hq fun Da Ca t1 mm Hb Iw qq kn ff => ⟨mm, kn, fun hz sbt => ?_⟩
  obtain ⟨p0, p1, p2, p3, p4, p5⟩ := ff
  exact ⟨.ref Da, Hb, Iw.turned (t' := t1.toks) (fun bb oo kb ee => (sbt.2 bb kb).trans ee) p0 p1 p3 p4 p5, rfl, qq⟩
/-- name = [..] on one line, the name ad local -/
theorem ps_setLcX {W : WX} (hsk : X.stack = X.env :: X.outer) (hfm : X.env.frame = some X.env.locals) (tk : Takes X W) (hW : ∀ cls d sl σ' Ha, W cls d sl Ha → W cls d σ' Ha) {sli : Nat} {nm : Str} {pnm : Pos} {elt tg iter : Expr} {ifs : List Expr} {scope : Scope} {own : List (Str × Nat)} {pos ps2 : Pos} {wi : TI} {g : TG} {tt : TT} {te : TE} (hcm : X.calm = true) (hnd : X.N.Nodup) (hnm : X.N[sli]? = some nm) (hnl : X.env.scope.names.lookup nm = some .local)
    (hws : swapsWith (.ListComp elt [⟨tg, iter, ifs, 0⟩] scope pos) (some (.Name nm pnm)) ps2.line X.env = pure true) (hit : PI X tg iter wi) (hok : BlkOk X.N X.env.scope scope own)
    (hgt : ∀ (s0 : Shared) (Ha : Hp) (Ca : Addr) (cl : List (Str × Addr)) (fp : List Addr) (xe : Value → Shared → Prop), Takes (blkX X s0 Ha scope (compEnvC scope cl Ca X.env) fp xe) W → PassesOwn (model X.prog X.w) X.A (compEnvC scope cl Ca X.env) xe → PG (blkX X s0 Ha scope (compEnvC scope cl Ca X.env) fp xe) tg g) (hte : ∀ (s0 : Shared) (Ha : Hp) (Ca : Addr) (cl : List (Str × Addr)) (fp : List Addr) (xe : Value → Shared → Prop), Takes (blkX X s0 Ha scope (compEnvC scope cl Ca X.env) fp xe) W → PassesOwn (model X.prog X.w) X.A (compEnvC scope cl Ca X.env) xe → PTs (blkX X s0 Ha scope (compEnvC scope cl Ca X.env) fp xe) ifs tt)
    (hel : ∀ (s0 : Shared) (Ha : Hp) (Ca : Addr) (cl : List (Str × Addr)) (fp : List Addr) (xe : Value → Shared → Prop), Takes (blkX X s0 Ha scope (compEnvC scope cl Ca X.env) fp xe) W → PassesOwn (model X.prog X.w) X.A (compEnvC scope cl Ca X.env) xe → PE (blkX X s0 Ha scope (compEnvC scope cl Ca X.env) fp xe) elt te) (hfs : ∀ xx, foldedSetIterable iter X.env xx = pure xx := by intro _; rfl) :
    PS X (.Assign [.Name nm pnm] (.ListComp elt [⟨tg, iter, ifs, 0⟩] scope pos) ps2) (tAsg (tLc wi g tt te (own.map (·.2))) (gName sli)) := by
  refine ⟨fun pp s0 sl Ha Da Iv hq => ?_⟩
  rw [exec_Assign_Name_used _ _ _ _ hws]
  refine wpAny_bind (wpAny_standAt (wpAny_bind ?_))
  show wpAny _ X.A (do let _ ← comprehension (.ListComp elt [⟨tg, iter, ifs, 0⟩] scope pos) scope X.env (firstIterPos [⟨tg, iter, ifs, 0⟩] pos) (newList []) false (eval iter X.env) (some (assign (.Name nm pnm) X.env))) _ _ s0
  have hq : tLc wi g tt te (own.map (·.2)) sl Ha (fun xx H1x => gName sli xx sl H1x Da.nx) := hq
  refine wpAny_bind (thn (lc_coreX (Qf := fun _ t1 => SP X pp Da .next t1) hsk hfm tk hW hcm hnd Iv hit hok hgt hte hel hfs hq fun La Ca t1 mm Hb Iw qq kn ff => ?_) fun _ t1 hq => wpAny_pure (wpAny_pure hq))
  show wpAny _ _ (assign (.Name nm pnm) X.env (.ref La)) _ _ _
  refine wpAny_assign_Name (store_ok2 (v := V.ref La) Iw hnd hnm (.inl hnl) rfl (fun t2 Ix ⟨ad, sbt, had⟩ => ?_) (.inr hnl))
  obtain ⟨p0, p1, p2, p3, p4, p5⟩ := ff
  have adC : Ca.locals ≠ ad := by
    rcases had with zz | zz
    · rw [zz]; exact p1
    · exact fun ee => p4 nm ad zz ee.symm
  refine ⟨mm, kn.sameBut sbt adC, fun h3x sb3x => ?_⟩
  exact ⟨_, Hb, Ix.turned (t' := t2.toks) (fun bb oo kb ee => (sb3x.2 bb kb).trans ee) p0 p1 p3 p4 p5, qq⟩
/-- the readings of its parts, in whatever block -/
def gBX (X : Cx) (W : WX) (scope : Scope) (tg : Expr) : TG := fun v s H Q => ∀ s0 H0 C cl fp xe, Takes (blkX X s0 H0 scope (compEnvC scope cl C X.env) fp xe) W → PassesOwn (model X.prog X.w) X.A (compEnvC scope cl C X.env) xe → tGt (blkX X s0 H0 scope (compEnvC scope cl C X.env) fp xe) tg v s H Q
def pBX (X : Cx) (W : WX) (scope : Scope) (ifs : List Expr) : TT := fun s H Q => ∀ s0 H0 C cl fp xe, Takes (blkX X s0 H0 scope (compEnvC scope cl C X.env) fp xe) W → PassesOwn (model X.prog X.w) X.A (compEnvC scope cl C X.env) xe → tPs (blkX X s0 H0 scope (compEnvC scope cl C X.env) fp xe) ifs s H Q
def eBX (X : Cx) (W : WX) (scope : Scope) (e : Expr) : TE := fun s H Q => ∀ s0 H0 C cl fp xe, Takes (blkX X s0 H0 scope (compEnvC scope cl C X.env) fp xe) W → PassesOwn (model X.prog X.w) X.A (compEnvC scope cl C X.env) xe → tS (blkX X s0 H0 scope (compEnvC scope cl C X.env) fp xe) e s H Q
end
section
variable {P : Program} {w : World} {K : PySem.W.Frag} {mg : Str → Option Value} {base : Heap} {S : Sc} {k : Nat} {X : Cx} {B : Bs} {E : XW} {G : List Ent} {a b e o tg : Expr} {es : List Expr} {pos p apos : Pos} {x : Str}
theorem CJ.blkX (cj : CJ P w K mg base S k X B E) {S' : Sc} {scope : Scope} (hN : S'.N = S.N) (hsc : S'.sc = relS scope S.sc) (hok : S'.ok = true) (hfn : (S'.li.all fun i => match S'.N[i]? with
    | some x => (scope.names.lookup x == some .cell) || (S'.sc.names.lookup x == some .local)
    | none => true) = true) (s0 : Shared) (H0 : Hp) (C : Addr) (cl : List (Str × Addr)) (fp : List Addr) (xe : Value → Shared → Prop) (tk : Takes (blkX X s0 H0 scope (compEnvC scope cl C X.env) fp xe) E.W) (po : PassesOwn (model X.prog X.w) X.A (compEnvC scope cl C X.env) xe) :
    CJ P w K mg base S' k (J.blkX X s0 H0 scope (compEnvC scope cl C X.env) fp xe) B E where
  hprog := cj.hprog
  hw := cj.hw
  hK := cj.hK
  hmg := cj.hmg
  hbase := cj.hbase
  hN := cj.hN.trans hN.symm
  hsc := by
    show (compEnvC scope cl C X.env).scope = S'.sc
    rw [hsc, ← cj.hsc]; rfl
  ok := hok
  fn := fun i x hi hx => by
    have := List.all_eq_true.mp hfn i hi
    rw [hx] at this
    simp only [Bool.or_eq_true, beq_iff_eq] at this
    rcases this with h | h
    · exact .inl (by show (scope.names.lookup x == some .cell) = true; rw [h]; rfl)
    · exact .inr h
  calm := cj.calm
  hr := cj.hr
  po := po
  tk := tk
  ind := cj.ind
  lk := cj.lk
theorem lc_runX (cj : CJ P w K mg base S k X B E) {elt iter : Expr} {ifs : List Expr} {scope : Scope} (S' : Sc) (so : ScOk S S' scope) {Q : List D → List Ent → Prop}
    (h : JI X B tg iter G fun n item G1 => LcI n item (fun X' => CJ P w K mg base S' k X' B E) B S' tg elt ifs G1 Q) {t s : St} {z : List Ent} {F H : Hp} {VQ : VK} (hl : t.length = z.length) (c : Conf X.K B (t ++ s) F H (z ++ G))
    (q : ∀ p F' H' acc G', Conf X.K B (some (V.ref p) :: (t ++ s)) F' H' (Ent.ow (.lst acc) :: (z ++ G')) → Q acc G' → VQ (V.ref p) H') :
    tLc (tIt X tg iter) (gBX X E.W scope tg) (pBX X E.W scope ifs) (eBX X E.W scope elt) S'.li s H VQ :=
  h t s z F H _ hl c fun Jt n hv he item F1 H1 G1 hlv wd c1 ⟨hn, I, i0, step, fin⟩ => fun D hD => by
    obtain ⟨hN, hsc, hok, hfn⟩ := so
    have slen : s.length = G1.length := by
      have := c1.len
      simp only [List.length_append] at this
      omega
    have c2 : Conf X.K B ((hv ++ t) ++ s) F1 H1 ((he ++ z) ++ G1) := by simpa [List.append_assoc] using c1
    have c3 := (c2.wipe (by simp [hl, hlv]) S'.li).newL (vs := []) (ds := []) hD .nil
    have c4 : Conf X.K B (hv ++ ([some (V.ref D)] ++ (t ++ L2.wipe s S'.li))) F1 (upd H1 D (.lst [])) (he ++ ([Ent.ow (.lst [])] ++ (z ++ wipeE G1 S'.li))) := by
      have : Conf X.K B ([some (V.ref D)] ++ (hv ++ (t ++ L2.wipe s S'.li))) F1 (upd H1 D (.lst [])) ([Ent.ow (.lst [])] ++ (he ++ (z ++ wipeE G1 S'.li))) := by simpa [List.append_assoc] using c3
      exact this.rot rfl hlv
    refine ⟨fun i m H => m = n - i ∧ i ≤ n ∧ ∃ F G acc, acc.length ≤ i ∧ G.length = s.length ∧ (∀ j, j ∈ S'.li → j < G.length → G[j]? = some Ent.no) ∧ Conf X.K B (hv ++ ([some (V.ref D)] ++ (t ++ L2.wipe s S'.li))) F H (he ++ ([Ent.ow (.lst acc)] ++ (z ++ G))) ∧ I i acc G,
      ⟨n, by simp, Nat.zero_le _, F1, _, [], Nat.le_refl _, by rw [wipeE_len]; exact slen.symm, fun j hj hlt => wipeE_no hj (by rw [wipeE_len] at hlt; exact hlt), c4, i0⟩, ?_⟩
    rintro i m H2 ⟨rfl, hi, F2, G2, acc, hacc, gl, gno, c5, ii⟩
    by_cases hlt : i < n
    · refine .inr ⟨wd.goes i _ F2 H2 _ hlt c5, fun H => ∃ F G acc, acc.length ≤ i + 1 ∧ G.length = s.length ∧ (∀ j, j ∈ S'.li → j < G.length → G[j]? = some Ent.no) ∧ Conf X.K B (hv ++ ([some (V.ref D)] ++ (t ++ L2.wipe s S'.li))) F H (he ++ ([Ent.ow (.lst acc)] ++ (z ++ G))) ∧ I (i + 1) acc G, fun H' ⟨F, G, acc, a1, a2, a3, a4, a5⟩ => ⟨n - (i + 1), by omega, rfl, hlt, F, G, acc, a1, a2, a3, a4, a5⟩, fun x H3 y => ?_⟩
      obtain ⟨F3, d, hd, c6⟩ := wd.yields i x _ F2 H2 _ H3 hlt c5 y
      have tl : (hv ++ ([some (V.ref D)] ++ t)).length = (he ++ ([Ent.ow (.lst acc)] ++ z)).length := by simp [hlv, hl]
      intro s0 H0 C cl fp xe tkx pox
      refine step i d acc G2 hlt hd ii hacc _ (cj.blkX hN hsc hok hfn s0 H0 C cl fp xe tkx pox) (hv ++ ([some (V.ref D)] ++ t)) (L2.wipe s S'.li) (he ++ ([Ent.ow (.lst acc)] ++ z)) F3 H3 x _ tl (by simpa [List.append_assoc] using c6) trivial fun s4 F4 H4 G4 hs4 ho4 c7 q4 => ?_
      have hs4' : s4.length = s.length := by rw [hs4, wipe_length]
      have ws : L2.wipe s4 S'.li = L2.wipe s S'.li := wipe_same hs4' ho4
      refine ⟨ws, fun s0 H0 C cl fp xe tkx pox => ?_⟩
      -- the tests and the element
      refine q4 _ (cj.blkX hN hsc hok hfn s0 H0 C cl fp xe tkx pox) (hv ++ ([some (V.ref D)] ++ t)) s4 (he ++ ([Ent.ow (.lst acc)] ++ z)) F4 H4 _ tl c7 fun b F5 H5 G5 c8 q5 => ?_
      have fini : ∀ {acc' : List _root_.J.D} {F H : Hp} {G : List Ent}, acc'.length ≤ i + 1 → Conf X.K B ((hv ++ ([some (V.ref D)] ++ t)) ++ s4) F H ((he ++ ([Ent.ow (.lst acc')] ++ z)) ++ G) → I (i + 1) acc' (wipeE G S'.li) →
          ∃ F G acc, acc.length ≤ i + 1 ∧ G.length = s.length ∧ (∀ j, j ∈ S'.li → j < G.length → G[j]? = some Ent.no) ∧ Conf X.K B (hv ++ ([some (V.ref D)] ++ (t ++ L2.wipe s S'.li))) F H (he ++ ([Ent.ow (.lst acc)] ++ (z ++ G))) ∧ I (i + 1) acc G := fun {acc' F H G} ha cc hI => by
        have tl' : (hv ++ ([some (V.ref D)] ++ t)).length = (he ++ ([Ent.ow (.lst acc')] ++ z)).length := by simp [hlv, hl]
        have gl' : s4.length = G.length := by
          have := cc.len
          simp only [List.length_append, List.length_cons, List.length_nil] at this
          omega
        have cw := cc.wipe tl' S'.li
        rw [ws] at cw
        exact ⟨F, wipeE G S'.li, acc', ha, by rw [wipeE_len, ← gl', hs4'], fun j hj hlt => wipeE_no hj (by rw [wipeE_len] at hlt; exact hlt), by simpa [List.append_assoc] using cw, hI⟩
      cases b with
      | false =>
        rw [if_neg Bool.false_ne_true]
        exact fini (by omega) c8 (q5.2 rfl)
      | true =>
        rw [if_pos rfl]
        intro s0 H0 C cl fp xe tkx pox
        refine q5.1 rfl _ (cj.blkX hN hsc hok hfn s0 H0 C cl fp xe tkx pox) (hv ++ ([some (V.ref D)] ++ t)) s4 (he ++ ([Ent.ow (.lst acc)] ++ z)) F5 H5 _ tl c8 fun y F6 H6 d' G6 c9 q6 => ?_
        -- the list stands at D as it was left
        have ig : (he ++ ([Ent.ow (.lst acc)] ++ z) ++ G6)[he.length]? = some (Ent.ow (.lst acc)) := by simp
        have is : (hv ++ ([some (V.ref D)] ++ t) ++ s4)[he.length]? = some (some (V.ref D)) := by rw [← hlv]; simp
        obtain ⟨v, e1, a, e2, ⟨xs, o1, o2⟩, _⟩ := c9.pop.at ig
        have is' := is
        rw [e1] at is'
        cases is'
        cases e2
        refine ⟨xs, o1, by rw [o2.length]; omega, ?_⟩
        have cw := c9.pop.write (i := he.length) (ho := .lst (xs ++ [y])) (o' := .lst (acc ++ [d'])) ig is ⟨_, upd_same, papp o2 (.cons c9.top .nil)⟩
        refine fini (F := F6) (acc' := acc ++ [d']) (by simp; omega) ?_ q6
        have es : (he ++ ([Ent.ow (.lst acc)] ++ z) ++ G6).set he.length (Ent.ow (.lst (acc ++ [d']))) = he ++ ([Ent.ow (.lst (acc ++ [d']))] ++ z) ++ G6 := by simp
        rw [es] at cw
        exact cw
    · have e : i = n := by omega
      subst e
      refine .inl ⟨wd.stops _ F2 H2 _ c5, ?_⟩
      -- the def's own slots are back
      have c6 := c5.rot hlv rfl
      have c7 : Conf X.K B (some (V.ref D) :: (t ++ L2.wipe s S'.li)) F2 H2 (Ent.ow (.lst acc) :: (z ++ G2)) := by
        have dropM : ∀ {hv : St} {he : List Ent} {u : St} {g : List Ent}, hv.length = he.length → Conf X.K B (hv ++ u) F2 H2 (he ++ g) → Conf X.K B u F2 H2 g := by
          intro hv
          induction hv with
          | nil => intro he u g hl c; cases he with
            | nil => exact c
            | cons _ _ => simp at hl
          | cons v hv ih => intro he u g hl c; cases he with
            | nil => simp at hl
            | cons e he => exact ih (by simpa using hl) c.pop
        exact dropM hlv c5
      refine q D F2 H2 acc G2 (c7.slots (by simp [wipe_length]) fun j => ?_) (fin acc G2 ii)
      cases j with
      | zero => exact .inl rfl
      | succ j =>
        show (t ++ L2.wipe s S'.li)[j]? = (t ++ s)[j]? ∨ (z ++ G2)[j]? = some Ent.no
        by_cases hj : j < t.length
        · exact .inl (by rw [List.getElem?_append_left hj, List.getElem?_append_left hj])
        · rw [List.getElem?_append_right (by omega), List.getElem?_append_right (by omega), List.getElem?_append_right (by omega), hl]
          by_cases hm : j - z.length ∈ S'.li
          · by_cases hlt2 : j - z.length < G2.length
            · exact .inr (gno _ hm hlt2)
            · exact .inl (by rw [List.getElem?_eq_none (by rw [wipe_length]; omega), List.getElem?_eq_none (by omega)])
          · exact .inl (wipe_out' hm)
theorem gBX_ok {W : WX} {scope : Scope} (s0 : Shared) (H0 : Hp) (C : Addr) (cl : List (Str × Addr)) (fp : List Addr) (xe : Value → Shared → Prop) (tk : Takes (J.blkX X s0 H0 scope (compEnvC scope cl C X.env) fp xe) W) (po : PassesOwn (model X.prog X.w) X.A (compEnvC scope cl C X.env) xe) : PG (J.blkX X s0 H0 scope (compEnvC scope cl C X.env) fp xe) tg (gBX X W scope tg) := ⟨fun pins s _ _ _ u _ I r h => h s0 H0 C cl fp xe tk po pins s u I r⟩
theorem pBX_ok {W : WX} {scope : Scope} {ifs : List Expr} (s0 : Shared) (H0 : Hp) (C : Addr) (cl : List (Str × Addr)) (fp : List Addr) (xe : Value → Shared → Prop) (tk : Takes (J.blkX X s0 H0 scope (compEnvC scope cl C X.env) fp xe) W) (po : PassesOwn (model X.prog X.w) X.A (compEnvC scope cl C X.env) xe) : PTs (J.blkX X s0 H0 scope (compEnvC scope cl C X.env) fp xe) ifs (pBX X W scope ifs) := ⟨fun pins s _ _ _ I h => h s0 H0 C cl fp xe tk po pins s I⟩
theorem eBX_ok {W : WX} {scope : Scope} (s0 : Shared) (H0 : Hp) (C : Addr) (cl : List (Str × Addr)) (fp : List Addr) (xe : Value → Shared → Prop) (tk : Takes (J.blkX X s0 H0 scope (compEnvC scope cl C X.env) fp xe) W) (po : PassesOwn (model X.prog X.w) X.A (compEnvC scope cl C X.env) xe) : PE (J.blkX X s0 H0 scope (compEnvC scope cl C X.env) fp xe) e (eBX X W scope e) := ⟨fun pins s _ _ _ I h => h s0 H0 C cl fp xe tk po pins s I⟩
/-- a list comprehension as a value, its turns may raise -/
theorem je_lcX (hst : X.stack = X.env :: X.outer) (hfr : X.env.frame = some X.env.locals) (cj : CJ P w K mg base S k X B E) {elt iter : Expr} {ifs : List Expr} {scope : Scope} (vi li : List Nat) (gl : List Str) (own : List (Str × Nat)) {Q : Ent → List Ent → Prop}
    (h : JI X B tg iter G fun n item G1 => LcI n item (fun X' => CJ P w K mg base (blkSc S scope vi li gl) k X' B E) B (blkSc S scope vi li gl) tg elt ifs G1 fun acc G2 => Q (.ow (.lst acc)) G2)
    (so : (blkSc S scope vi li gl).ok = true := by decide +kernel) (fo : blkFn (blkSc S scope vi li gl) scope = true := by decide +kernel) (bo : blkC S.N S.sc scope own = true := by decide +kernel) (ho : own.map (·.2) = li := by rfl) (hs : ∀ x, foldedSetIterable iter X.env x = pure x := by intro _; rfl) :
    JE X B (.ListComp elt [⟨tg, iter, ifs, 0⟩] scope pos) G Q := fun t s z F H VQ hl c q => by
  have bo' : BlkOk X.N X.env.scope scope own := by rw [cj.hN, cj.hsc]; exact blkOk_by bo
  have ho' : own.map (·.2) = (blkSc S scope vi li gl).li := ho
  refine tS_of (pe_lcX hst hfr cj.tk (fun _ _ _ _ _ h => cj.ind _ _ _ _ _ h) cj.calm cj.nd pi_sem bo' gBX_ok pBX_ok eBX_ok hs) ?_
  rw [ho']
  exact lc_runX cj (blkSc S scope vi li gl) ⟨rfl, rfl, so, fo⟩ h hl c fun p' F' H' acc G' c' hq => q _ F' H' _ G' c' trivial hq
/-- a local name gets it, on one line -/
theorem js_setLcX (hst : X.stack = X.env :: X.outer) (hfr : X.env.frame = some X.env.locals) (cj : CJ P w K mg base S k X B E) (i : Nat) {elt iter : Expr} {ifs : List Expr} {scope : Scope} {py sp : Pos} (vi li : List Nat) (gl : List Str) (own : List (Str × Nat)) {Dd : Dn}
    (h : JI X B tg iter G fun n item G1 => LcI n item (fun X' => CJ P w K mg base (blkSc S scope vi li gl) k X' B E) B (blkSc S scope vi li gl) tg elt ifs G1 fun acc G2 => Dd.nx (G2.set i (.ow (.lst acc))))
    (so : (blkSc S scope vi li gl).ok = true := by decide +kernel) (fo : blkFn (blkSc S scope vi li gl) scope = true := by decide +kernel) (bo : blkC S.N S.sc scope own = true := by decide +kernel) (hyl : S.sc.names.lookup x = some .local := by decide +kernel) (hsw : swB S.sc scope x (py.line == pos.line) = true := by decide +kernel)
    (hN : S.N[i]? = some x := by rfl) (ho : own.map (·.2) = li := by rfl) (hs : ∀ x, foldedSetIterable iter X.env x = pure x := by intro _; rfl) :
    JS X B (.Assign [.Name x py] (.ListComp elt [⟨tg, iter, ifs, 0⟩] scope pos) sp) G Dd := fun t s z F H De hl c kk => by
  have bo' : BlkOk X.N X.env.scope scope own := by rw [cj.hN, cj.hsc]; exact blkOk_by bo
  have ho' : own.map (·.2) = (blkSc S scope vi li gl).li := ho
  refine tSt_of (ps_setLcX hst hfr cj.tk (fun _ _ _ _ _ h => cj.ind _ _ _ _ _ h) cj.calm cj.nd (cj.xN hN) (by rw [cj.hsc]; exact hyl) (by rw [swaps_eq cj.hsc, hsw]) pi_sem bo' gBX_ok pBX_ok eBX_ok hs) ?_
  rw [ho']
  exact lc_runX cj (blkSc S scope vi li gl) ⟨rfl, rfl, so, fo⟩ h hl c fun p' F' H' acc G' c' hq => kk.nx _ F' H' _ (by simp) (c'.store hl) hq
end
end J

namespace J
open PySem PySem.Spec L2
section
variable {P : Program} {w : World} {K : PySem.W.Frag} {mg : Str → Option Value} {base : Heap} {S : Sc} {k : Nat} {X : Cx} {B : Bs} {E : XW} {G : List Ent} {a b e o tg : Expr} {es : List Expr} {pos p apos cp : Pos} {x : Str}
/-- isinstance(x, T), x an own list at a slot -/
theorem jv_isiO (cj : CJ P w K mg base S k X B E) (j i : Nat) {ds : List D} {xp : Pos} {Q : D → List Ent → Prop} (hm : mg "isinstance" = none) (hg : entOw G[i]? = some (.lst ds))
    (h : JV X B b G fun d2 G2 => ∃ T' r, d2 = .raw (.ty T') ∧ kitB "list" T' = some r ∧ entOw G2[i]? = some (.lst ds) ∧ Q (.bl r) G2) (hj : S.gl[j]? = some "isinstance" := by rfl) (hN : S.N[i]? = some x := by rfl) (hv : i ∈ S.vi := by decide)
    (he : starEach [.Name x xp, b] X.env = (false, eval (.Name x xp) X.env) :: starEach [b] X.env := by rfl) (he2 : starEach [b] X.env = (false, eval b X.env) :: starEach [] X.env := by rfl) (hpl : (backTo pos (starEach [b] X.env)).any (·.1) = false := by rfl) :
    JV X B (.Call (.Name "isinstance" p) [.Name x xp, b] [] pos) G Q := fun t s z F H VQ hl c q => by
  have hn := okName_of (Sc.vis cj.ok hv hN).1
  obtain ⟨y, e1, _, _⟩ := c.slot hl hg
  refine tS_of (pe_callB call_isi (cj.gl hj) (cj.mgx hm) (by decide +kernel) (pa_cons (pe_var (cj.xN hN) (cj.vis hv hN) hn.1 hn.2.1) (pa_cons pe_sem pa_nil he2) he) (cj.nnm hj) (cj.dbg hj) he hpl) ?_
  refine ⟨.ref y, e1, tS_of pe_sem (h t s z F H _ hl c fun u F' H' d2 G' c' ⟨T', r, e2, e3, hg', hq⟩ => ?_)⟩
  subst e2
  obtain ⟨y', e1', ⟨xs, hx, _⟩, _⟩ := c'.pop.slot hl hg'
  rw [e1] at e1'
  cases e1'
  have tv : TyX X.K H' (.ref y) (.type "list") := .base (.lst hx)
  cases c'.top
  exact ⟨_, _, _, _, r, rfl, .ty T', tv, kit_ty e3, q _ F' H' _ G' (c'.pop.fz (.bl r)) hq⟩
end
end J

namespace J
open PySem PySem.Spec L2
/-! ## exceptions that bear a value -/
/-- such a class: its own __init__ at f, the value's name n -/
def oexB (K : PySem.W.Frag) (C : Addr) : Bool :=
  match K.lookup C with
  | some ⟨.type "type", _, .cls cd, sl⟩ => (match cd.mro, sl.toList with
    | .ref C' :: bm, [_, _, _, _, some (.builtin i), _] => C' == C && i == "ValueError.__new__" && (!cd.hasDel && (cd.hasDict && PySem.HandSPX.refsVE bm))
    | _, _ => false)
  | _ => false
theorem oexB_cls {K : PySem.W.Frag} {C : Addr} (q : oexB K C = true) : ∃ nm qn N bs bm sn sub ab col dd k0 k1 k2 k3 k5, K.lookup C = some (excClassObj nm qn C N bs bm true sn sub ab col dd k0 k1 k2 k3 k5 "ValueError.__new__") ∧ PySem.HandSPX.refsVE bm = true := by
  unfold oexB at q
  split at q
  case h_2 => cases q
  case h_1 dd cd sl lk =>
    split at q
    case h_2 => cases q
    case h_1 C' bm k0 k1 k2 k3 i k5 em es =>
      simp only [Bool.and_eq_true, beq_iff_eq, Bool.not_eq_true'] at q
      obtain ⟨⟨e1, e2⟩, e3, e4, e5⟩ := q
      subst e1 e2
      obtain ⟨nm, bs, mro, ns, qn, hd, sn, sub, ab, col, del⟩ := cd
      dsimp only at em e3 e4
      subst em e3 e4
      obtain ⟨l⟩ := sl
      dsimp only at es
      subst es
      exact ⟨nm, qn, ns, bs, bm, sn, sub, ab, col, dd, k0, k1, k2, k3, k5, lk, e5⟩
structure XI (K : PySem.W.Frag) (C f : Addr) (n : Str) : Prop where
  ob : oexB K C = true
  sa : PySem.W.findIn K (.ref C) "__setattr__" = some (some (.builtin "object.__setattr__"))
  su : PySem.W.subIn K (.ref C) (.type "BaseException") = some true
  ty : PySem.W.typeIn K (.ref C) = some (.type "type")
  kp : PySem.W.keepIn K (.ref C) = true
  iC : PySem.W.findIn K (.ref C) "__init__" = some (some (.ref f))
  tI : PySem.W.typeIn K (.ref f) = some (.type "function")
  no : PySem.W.findIn K (.ref C) n = some none
theorem XI.oex {K : PySem.W.Frag} {C f : Addr} {n : Str} (x : XI K C f n) : OexC K C := ⟨oexB_cls x.ob, x.sa, x.su, x.ty, x.kp⟩
/-- what the base class says, where its __init__ is called by name -/
structure XB (K : PySem.W.Frag) (L : Addr) : Prop where
  g : PySem.W.specialIn K (.ref L) "__getattribute__" = some (some (.builtin "type.__getattribute__"))
  r : PySem.W.readsIn K L (.type "type") = true
  i : PySem.W.findCls K (.ref L) (.type "type") "__init__" = some (.val (.builtin "ValueError.__init__"))
section
variable {X : Cx} {e : Expr} {es : List Expr} {ta : TA} {p1 p2 pos : Pos}
theorem pe_linit {pl : Sem Bool} {L : Addr} (b : XB X.K L) (hg : Gl X "LongError") (hm : X.mg "LongError" = some (.ref L)) (ha : PA X (e :: es) ta)
    (hc : eval (.Call (.Attribute (.Name "LongError" p1) "__init__" p2) (e :: es) [] pos) X.env = (do
      let ov ← eval (.Name "LongError" p1) X.env
      standAt p2.atName
      let (f, first) ← holding [ov] (getMethod ov "__init__" pl)
      callWith pos f first (backTo pos (starEach (e :: es) X.env)) (backToKw pos (keywordEach [] X.env))) := by rfl)
    (he : starEach (e :: es) X.env = (false, eval e X.env) :: starEach es X.env := by rfl) (hpl : (backTo pos (starEach es X.env)).any (·.1) = false := by rfl) :
    PE X (.Call (.Attribute (.Name "LongError" p1) "__init__" p2) (e :: es) [] pos) (tVeI X.K ta) := ⟨fun pins s σ H Q I h => by
  refine PySem.W.methodCall_KW (ld_glob I hg hm ?_) hc
  refine PySem.W.method_cls I.kIn b.g (PySem.W.cls_value I.kIn b.r b.i (by decide +kernel) ?_)
  show wpAny _ _ (callWith pos (Value.builtin "ValueError.__init__") [] (backTo pos (starEach (e :: es) X.env)) []) _ _ _
  refine PyProof.Rows.callWith_method1 (thn (ha.run pos pins _ σ H _ (I.tok _) h) fun us t ⟨vs, H1, I1, r1, a, C, ws, ev, hl, T, ea, q⟩ => ?_) he hpl
  subst ev
  cases r1 with
  | @cons _ u0 _ ur ra rr =>
    obtain rfl : u0 = Value.ref a := ra
    refine oinit_ok T I1 ea ?_ fun t2 I2 => ⟨.non, H1, I2, rfl, q⟩
    rw [← rr.length, sizeLine_eq]
    omega⟩
/-- what such an __init__ promises -/
def spEx (C : Addr) (n : Str) : Sp := fun vs H Q _ => ∃ (a : Addr) (v : V), vs = [.ref a, v] ∧ H a = some (exo a C none) ∧ ∀ dx, H dx = none → dx ≠ a → Q .non (upd (upd H dx (exd dx [(n, v)])) a (exo a C (some dx)))
end
section
variable {P : Program} {w : World} {K : PySem.W.Frag} {mg : Str → Option Value} {base : Heap}
/-- def __init__(self, y): Base.__init__(self, '..'); self.n = y -/
theorem xinit_ok {x qual : Str} {st : Stmt} {f L C : Addr} {fd : FuncData} {m n v : Str} {jj : Nat} {q1 q2 q3 q4 q5 q6 r1 r2 r3 r4 : Pos} (Fu : Fun K x qual st f fd) (S : FnScope ["self", v] ["self", v] (defScope st))
    (hb : defBody st = [.Expr (.Call (.Attribute (.Name "LongError" q1) "__init__" q2) [.Name "self" q3, .Constant (.str m) jj q4] [] q5) q6, .Assign [.Attribute (.Name "self" r1) n r2] (.Name v r3) r4])
    (b : XB K L) (hm : mg "LongError" = some (.ref L)) (i : XI K C f n) (hgl : (defScope st).names.lookup ("LongError" : Str) = some .globalImplicit) (hs : (defScope st).names.lookup ("self" : Str) = some .local) (hv : (defScope st).names.lookup v = some .local) (hv2 : okName v = true)
    (hc : ∀ env : Env, ∃ pl : Sem Bool, eval (.Call (.Attribute (.Name "LongError" q1) "__init__" q2) [.Name "self" q3, .Constant (.str m) jj q4] [] q5) env = (do
      let ov ← eval (.Name "LongError" q1) env
      standAt q2.atName
      let (f, first) ← holding [ov] (getMethod ov "__init__" pl)
      callWith q5 f first (backTo q5 (starEach [.Name "self" q3, .Constant (.str m) jj q4] env)) (backToKw q5 (keywordEach [] env)))) :
    FnOk P w K mg base (L2.CX P w) 1 f fd ["self", v] (spEx C n) := by
  refine Fu.okX S (fun vs H Q E ⟨a, y, e, _⟩ => by rw [e]; rfl) fun cdv A outer s H vs Q E hr h => ?_
  obtain ⟨a, y, rfl, ha, hq⟩ := h
  have ov := okName_of hv2
  rw [hb]
  obtain ⟨pl, hc⟩ := hc (cxOf (L2.CX P w) P w K mg base ["self", v] qual (defScope st) f cdv A outer s H E).env
  refine ⟨_, pss_cons (ps_expr (pe_linit (L := L) b hgl hm (pa_cons (pe_var (i := 0) rfl (.inl hs) (by decide) (by decide)) (pa_cons pe_str pa_nil)) hc)) (pss_one (ps_ost (pe_var (i := 0) rfl (.inl hs) (by decide) (by decide)) (pe_var (i := 1) rfl (.inl hv) ov.1 ov.2.1))), ?_⟩
  refine ⟨.ref a, rfl, a, C, [.str m], rfl, (by decide : 1 ≤ 1000), i.oex, ha, y, rfl, .ref a, rfl, a, C, rfl, i.oex, i.no, .inl ⟨ha, fun dx h1 h2 => ?_⟩⟩
  exact hq dx h1 h2
end
section
variable {P : Program} {w : World} {K : PySem.W.Frag} {mg : Str → Option Value} {base : Heap} {S : Sc} {k : Nat} {X : Cx} {B : Bs} {E : XW} {G : List Ent} {a b e o tg : Expr} {es : List Expr} {pos p apos cp : Pos} {x : Str}
/-- raise C(e), C with an __init__ of its own that stores e -/
theorem js_raiseF (cj : CJ P w K mg base S k X B E) (hk : 2 ≤ k) (j : Nat) {C f : Addr} {n : Str} {fd : FuncData} {v : Str} {pos2 : Pos} {Dd : Dn} (i : XI K C f n) (Fo : FnOk P w K mg base (L2.CX P w) 1 f fd ["self", v] (spEx C n)) (bi : Binds K fd ["self", v] []) (hm : mg x = some (.ref C))
    (h : JV X B e G fun d G' => E.R ⟨C, [(n, d)]⟩ G') (hj : S.gl[j]? = some x := by rfl) (he : starEach [e] X.env = (false, eval e X.env) :: starEach [] X.env := by rfl) (hpl : (backTo pos2 (starEach [] X.env)).any (·.1) = false := by rfl) :
    JS X B (.Raise (some (.Call (.Name x p) [e] [] pos2)) none pos) G Dd := fun t s z F H De hl c kk => by
  have bi' : Binds X.K fd ["self", v] [] := by rw [cj.hK]; exact bi
  have T : OexC X.K C := by rw [cj.hK]; exact i.oex
  have iC : PySem.W.findIn X.K (.ref C) "__init__" = some (some (.ref f)) := by rw [cj.hK]; exact i.iC
  have tI : PySem.W.typeIn X.K (.ref f) = some (.type "function") := by rw [cj.hK]; exact i.tI
  have hx : Passes (L2.CX P w) X (fun _ _ _ => False) := fun pins σ H s e s' I c => by
    obtain ⟨_, _, _, _, _, _, _, _, _, _, _, _, q⟩ := c
    exact q.elim
  refine tSt_of (ps_raise cj.calm cj.tk (pmk_oex (CX := L2.CX P w) T iC tI (fnAt cj Fo) (cj.hr.mono hk) bi' .nil hx (cj.gl hj) (cj.mgx hm) (pa_cons pe_sem pa_nil he) (cj.dbg hj) he hpl)) ?_
  refine h t s z F H _ hl c fun y F1 H1 d G1 c1 q => ⟨(by decide : 1 ≤ 1000), fun a na => ⟨a, y, rfl, upd_same, fun dx nd ne => ⟨rfl, dx, [(n, y)], upd_same, ?_, ?_, ?_⟩⟩⟩
  · rw [upd_ne ne, upd_same]
  · rw [upd_ne ne] at nd; exact nd
  have nd : H1 dx = none := by rw [upd_ne ne] at nd; exact nd
  have eH : upd (del (upd (upd (upd H1 a (exo a C none)) dx (exd dx [(n, y)])) a (exo a C (some dx))) a) dx (.xd [(n, y)]) = upd H1 dx (.xd [(n, y)]) := by
    funext b
    by_cases hb : b = dx
    · subst hb; rw [upd_same, upd_same]
    · rw [upd_ne hb, upd_ne hb]
      by_cases hb2 : b = a
      · subst hb2; rw [del_same, na]
      · rw [del_ne hb2, upd_ne hb2, upd_ne hb, upd_ne hb2]
  rw [eH]
  have c2 := c1.alloc (o := .xd [(n, y)]) nd
  have dp : DP X.K (upd F1 dx (.xd [(n, y)])) y d := DP.mono (same_upd (c1.fresh nd)) _ _ c1.top
  exact cj.lk t s z _ _ G1 ⟨C, [(n, d)]⟩ (some dx) hl c2.pop (.inr ⟨by simp, dx, [(n, y)], rfl, upd_same, .cons ⟨rfl, dp⟩ .nil⟩) q
end
/-! ## a try whose suite may read such values -/
/-- what the suite's name holds -/
@[reducible] def xent (xd : XD) (a : Addr) : Option Addr → D
  | none => .raw (.ref a)
  | some dd => .exc a dd (xd.fs.map (·.1)) (xd.fs.map (·.2))
theorem xent_dp {K : PySem.W.Frag} {F H : Hp} {xd : XD} {a : Addr} {od : Option Addr} (xo : XOk K F H xd od) : DP K F (.ref a) (xent xd a od) := by
  rcases xo with ⟨_, rfl⟩ | ⟨_, dx, fv, rfl, h1, h2⟩
  · exact .raw _
  · refine .exc h1 ?_ ?_
    · have go : ∀ {l : List (Str × V)} {m : List (Str × D)}, PK K F l m → m.map (·.1) = l.map (·.1) := by
        intro l m h
        induction h with
        | nil => rfl
        | cons r _ ih => rw [List.map_cons, List.map_cons, ih, r.1]
      exact go h2
    · have go : ∀ {l : List (Str × V)} {m : List (Str × D)}, PK K F l m → Paired (DP K F) (l.map (·.2)) (m.map (·.2)) := by
        intro l m h
        induction h with
        | nil => exact .nil
        | cons r _ ih => exact .cons r.2 ih
      exact go h2
def TryQ (K : PySem.W.Frag) (X : Cx) (B : Bs) (E : XW) (i : Nat) (c : Value) (suite : List Stmt) (DS : Dn) (xd : XD) (G : List Ent) : Prop :=
  ∃ b, PySem.W.exmOne K (.ref xd.C) c = some b ∧
    (b = true → ∀ a od oe pn, (od = none ↔ xd.fs = []) → Zc (.ref xd.C) od oe → (∃ vs, oe.data = .fields vs) → JSs (X.suite a ((a, oe) :: pn)) B suite (G.set i (.fz (xent xd a od))) DS) ∧ (b = false → E.R xd G)
section
variable {P : Program} {w : World} {K : PySem.W.Frag} {mg : Str → Option Value} {base : Heap} {S : Sc} {k : Nat} {X : Cx} {B : Bs} {E : XW} {G : List Ent} {a b e o tg : Expr} {es : List Expr} {pos p apos cp : Pos} {x : Str}
theorem JSs0.tryQ (cj : CJ P w K mg base S k X B E) (i j : Nat) {n : Str} {body suite rest : List Stmt} {b₀ : Stmt} {c : Value} {np pos' : Pos} {D : Dn} (hst : X.stack = X.env :: X.outer) (hfr : X.env.frame = some X.env.locals) (hc : mg x = some c)
    (h : ∀ X' E', CT P w K mg base S k X' B E' → CJ P w K mg base S k X' B XW.non → (∀ xd G', TryQ K X B E i c (b₀ :: suite) ⟨fun G2 => JSs0 X B rest (G2.set i .no) D, D.rt, fun _ => False, fun _ => False⟩ xd G' → E'.R xd G') →
      JSs X' B body G ⟨fun G' => JSs0 X B rest G' D, D.rt, D.bk, D.ct⟩)
    (hj : S.gl[j]? = some x := by rfl) (hN : S.N[i]? = some n := by rfl) (hln : S.sc.names.lookup n = some .local := by decide +kernel) :
    JSs0 X B (.Try body [.ExceptHandler (some (.Name x np)) (some n) (b₀ :: suite) pos'] [] [] pos :: rest) G D := fun s F H De cf kk => by
  have nm : Names X x c := ⟨cj.gl hj, cj.dbg hj, .inl (cj.mgx hc)⟩
  have hln' : X.env.kindOf n = some .local := by show X.env.scope.names.lookup n = _; rw [cj.hsc]; exact hln
  refine tSs_of (pss_cons (ps_try_as (i := i) (Wout := E.W) (tb := fun W D σ H => ∀ (pn : List (Addr × Obj)) (xe : Value → Shared → Prop), Takes (X.tr pn xe) W → PassesOwn (model X.prog X.w) X.A X.env xe → tSs (X.tr pn xe) body D σ H)
    (ts := fun a cls d D σ H => ∀ oe pn, Zc cls d oe → (∃ vs, oe.data = .fields vs) → tSs (X.suite a ((a, oe) :: pn)) (b₀ :: suite) D σ H) hst hfr cj.nd (cj.xN hN) hln' nm cj.tk
    (fun W pn xe tk po => ⟨fun pins s _ _ _ I h => h pn xe tk po pins s I⟩) (fun a oe cls d pn hz hf => ⟨fun pins s _ _ _ I h => h oe pn hz hf pins s I⟩)) pss_sem) ?_
  intro pn xe tk po pins0 sh0 I0
  have slen : s.length = X.N.length := I0.len
  have tk2 : Takes (X.tr pn xe) (fun cls d σ H => σ.length = s.length → wAs X.K c i (fun a cls d D σ H => ∀ oe pn, Zc cls d oe → (∃ vs, oe.data = .fields vs) → tSs (X.suite a ((a, oe) :: pn)) (b₀ :: suite) D σ H) E.W
      { De with nx := fun σ H => tSs X rest De σ H } cls d σ H) := fun u s' ⟨a, B0, sI, pins, σ, H, cls, d, e1, I, q1, q2, q3, q4, q5, q6, W⟩ =>
    tk u s' ⟨a, B0, sI, pins, σ, H, cls, d, e1, I, q1, q2, q3, q4, q5, q6, W (by rw [slen]; exact I.len)⟩
  have c0 : CJ P w K mg base S k (X.tr pn xe) B XW.non := ⟨cj.hprog, cj.hw, cj.hK, cj.hmg, cj.hbase, cj.hN, cj.hsc, cj.ok, cj.fn, cj.calm, cj.hr, po, takes0, fun _ _ _ _ _ h => h, fun _ _ _ _ _ _ _ _ _ _ _ h => h.elim⟩
  revert pins0 sh0 I0
  refine h (X.tr pn xe) ⟨_, TryQ K X B E i c (b₀ :: suite) ⟨fun G2 => JSs0 X B rest (G2.set i .no) D, D.rt, fun _ => False, fun _ => False⟩⟩ ⟨cj.hprog, cj.hw, cj.hK, cj.hmg, cj.hbase, cj.hN, cj.hsc, cj.ok, cj.hr, tk2, ?_⟩ c0 (fun _ _ h => h) [] s [] F H _ rfl cf ?_
  · intro t s2 z F2 H2 G2 xd od hl cc xo ⟨b, hx, hb1, hb2⟩ hlen2
    refine ⟨b, by rw [cj.hK]; exact hx, fun eb a na => ?_, fun eb => cj.lk t s2 z F2 H2 G2 xd od hl cc xo (hb2 eb)⟩
    intro oe pn2 hz hf
    have xo' : XOk X.K F2 H2 xd od := xo
    have iff : od = none ↔ xd.fs = [] := by
      rcases xo' with ⟨h1, h2⟩ | ⟨h1, dx, fv, h2, _⟩
      · exact ⟨fun _ => h1, fun _ => h2⟩
      · exact ⟨fun z => (by rw [h2] at z; cases z), fun z => absurd z h1⟩
    have hs := hb1 eb a od oe pn2 iff hz hf
    have c1 : Conf X.K B s2 F2 H2 G2 := by
      have dropM : ∀ {hv : St} {he : List Ent} {u : St} {g : List Ent}, hv.length = he.length → Conf X.K B (hv ++ u) F2 H2 (he ++ g) → Conf X.K B u F2 H2 g := by
        intro hv
        induction hv with
        | nil => intro he u g hl c; cases he with
          | nil => exact c
          | cons _ _ => simp at hl
        | cons v hv ih => intro he u g hl c; cases he with
          | nil => simp at hl
          | cons e he => exact ih (by simpa using hl) c.pop
      exact dropM hl cc
    have c2 : Conf X.K B ([] ++ s2.set i (some (.ref a))) F2 H2 ([] ++ G2.set i (.fz (xent xd a od))) := Conf.store (t := []) (z := []) rfl (c1.fz (xent_dp xo'))
    refine hs [] _ [] F2 H2 _ rfl c2 ⟨fun s' F' H' G' e c' q => ?_, kk.rt, fun _ _ _ _ _ _ q => q.elim, fun _ _ _ _ _ _ q => q.elim⟩
    have c3 : Conf X.K B ([] ++ s'.set i none) F' H' ([] ++ G'.set i .no) := Conf.store (t := []) (z := []) rfl (Conf.push (v := none) (e := .no) c' trivial (oad_no _))
    have len2 : (s'.set i none).length = s.length := by
      have h1 := c1.len
      have h2 := c'.len
      have h3 := cf.len
      rw [List.length_set, e, List.length_set]
      exact hlen2
    exact q _ F' H' De c3 ⟨by rw [len2]; exact kk.nx, kk.rt, by rw [len2]; exact kk.bk, by rw [len2]; exact kk.ct⟩
  · exact ⟨fun s' F' H' G' e c' q => q s' F' H' De c' (by rw [e]; exact kk), kk.rt, kk.bk, kk.ct⟩
/-- e.n, e caught -/
theorem cs_fld {a0 C : Addr} {oe : Obj} {pn : List (Addr × Obj)} {dd : Addr} {n : Str} (cs : CS K mg S (X.suite a0 ((a0, oe) :: pn))) (xf : XfC K C) (no : PySem.W.findIn K (.ref C) n = some none) (hz : Zc (.ref C) (some dd) oe) (hf : ∃ vs, oe.data = .fields vs) {Q : D → List Ent → Prop}
    (h : JV (X.suite a0 ((a0, oe) :: pn)) B a G fun d1 G1 => ∃ ns ds d, d1 = .exc a0 dd ns ds ∧ (ns.zip ds).lookup n = some d ∧ Q d G1) (hb : attributeBase a n X.env (eval a X.env) = eval a X.env := by rfl) : JV (X.suite a0 ((a0, oe) :: pn)) B (.Attribute a n pos) G Q := fun t s z F H VQ hl c q => by
  have hK : X.K = K := cs.hK
  have xf' : XfC X.K C := by rw [hK]; exact xf
  have no' : PySem.W.findIn X.K (.ref C) n = some none := by rw [hK]; exact no
  refine tS_of (pe_xf xf' no' hz hf pe_sem hb) (h t s z F H _ hl c fun v F' H' d1 G' c' ⟨ns, ds, d, e1, hl2, hq⟩ => ?_)
  subst e1
  have sm := c'.fh
  cases c'.top with
  | @exc _ _ fs _ _ h1 h2 h3 =>
    obtain ⟨y, hy, dp⟩ := lookup_paired h2 h3 hl2
    exact ⟨rfl, rfl, dd, fs, y, rfl, sm _ _ h1, hy, q y F' H' d G' (c'.pop.fz dp) hq⟩
/-- the instance that a suite holds -/
theorem cs_inst {a0 D : Addr} {oe : Obj} {pn pins : List (Addr × Obj)} {σ : St} {H : Hp} {s : Shared} {od : Option Addr} (I : Inv (X.suite a0 ((a0, oe) :: pn)) pins σ H s) (hz : Zc (.ref D) od oe) (hf : ∃ vs, oe.data = .fields vs) (hd : ∀ dd, od = some dd → ∃ fs, H dd = some (.xd fs)) :
    ∃ oD, PySem.W.InstAt s.heap a0 oe D oD := by
  obtain ⟨hget, _⟩ := I.pin (a0, oe) (List.mem_append.mpr (.inl List.mem_cons_self))
  obtain ⟨vs, hv⟩ := hf
  cases od with
  | none => exact ⟨none, hget, hz.1, by unfold PySem.W.notCls; rw [hv] <;> rfl, by rw [hz.2]; trivial⟩
  | some dd =>
    obtain ⟨fs, hdd⟩ := hd dd rfl
    have q : ObjOk X.prog X.w H s.heap dd (.xd fs) := I.hok dd _ hdd
    obtain ⟨mA, hns, _⟩ := q
    obtain ⟨oD, ho, _⟩ := lookIn_ns hns
    exact ⟨some oD, hget, hz.1, by unfold PySem.W.notCls; rw [hv] <;> rfl, by rw [hz.2]; exact ho⟩
theorem excC_kit {K : PySem.W.Frag} {D x : Addr} {ox : Obj} {od : Option Obj} (C : ExcC K D) : PySem.W.KitX K (.ref x) (.ref D) (fun h => PySem.W.InstAt h x ox D od) :=
  PySem.W.kitx_exc (by obtain ⟨cd, hc, _⟩ := PySem.W.any_some C.hd; rw [hc]; rfl) C.hg C.hk C.hs C.ha C.hn C.ht C.hm
def rIsQ (K : PySem.W.Frag) (D a : Addr) (od : Option Addr) : List V → Hp → VK → Prop := fun xs H Q => (∀ dd, od = some dd → ∃ fs, H dd = some (.xd fs)) ∧ ∃ (c : V) (cv : Value) (b : Bool), xs = [.ref a, c] ∧ (∀ u, RelV c u → u = cv) ∧ PySem.W.kitOne K (.ref D) cv = some b ∧ Q (.bl b) H
def rIsQT (K : PySem.W.Frag) (D a : Addr) (od : Option Addr) : List V → Hp → VK → Prop := fun xs H Q => (∀ dd, od = some dd → ∃ fs, H dd = some (.xd fs)) ∧ ∃ (tp : Addr) (cs : List V) (us : List Value) (b : Bool), xs = [.ref a, .ref tp] ∧ SqT K H tp cs ∧ Paired ClsV cs us ∧ PySem.W.kitAny K (.ref D) us = some b ∧ Q (.bl b) H
theorem call_isQ {X : Cx} {a D : Addr} {oe : Obj} {pn : List (Addr × Obj)} {od : Option Addr} (C : ExcC X.K D) (hz : Zc (.ref D) od oe) (hf : ∃ vs, oe.data = .fields vs) : CallR (X.suite a ((a, oe) :: pn)) (.builtin "isinstance") (rIsQ X.K D a od) := fun pins s σ H xs us Q I r ⟨hd, c, cv, b, ex, hcv, e, q⟩ => by
  subst ex
  cases r with
  | cons rx rr => cases rr with
    | cons rt rr =>
      cases rr; cases rx
      obtain rfl := hcv _ rt
      obtain ⟨oD, J⟩ := cs_inst I hz hf hd
      exact PySem.W.kia_one (excC_kit C) I.kIn J e (fun z => nomatch z) fun tk => ⟨.bl b, H, I.kept (t' := tk) fun _ _ z => z, rfl, q⟩
theorem call_isQT {X : Cx} {a D : Addr} {oe : Obj} {pn : List (Addr × Obj)} {od : Option Addr} (C : ExcC X.K D) (hz : Zc (.ref D) od oe) (hf : ∃ vs, oe.data = .fields vs) : CallR (X.suite a ((a, oe) :: pn)) (.builtin "isinstance") (rIsQT X.K D a od) := fun pins s σ H xs us Q I r ⟨hd, tp, cs, ws, b, ex, hT, hcl, e, q⟩ => by
  subst ex
  cases r with
  | cons rx rr => cases rr with
    | cons rt rr =>
      cases rr; cases rx; cases rt
      obtain ⟨oD, J⟩ := cs_inst I hz hf hd
      obtain ⟨its, rv, ⟨⟨oc, odd, dt, sl⟩, ho, hc, n, hdt⟩, _⟩ := I.tuple hT
      simp only at hc hdt
      subst hc hdt
      obtain rfl := ClsV.all hcl rv
      exact PySem.W.kia_tup (excC_kit C) I.kIn J ho e (fun z => nomatch z) fun tk => ⟨.bl b, H, I.kept (t' := tk) fun _ _ z => z, rfl, q⟩
/-- the caught one's dict, by what its name holds -/
theorem xent_dd {K : PySem.W.Frag} {F H : Hp} {a0 : Addr} {xd : XD} {od : Option Addr} {v : V} (sm : Same F H) (h : DP K F v (xent xd a0 od)) : v = .ref a0 ∧ ∀ dd, od = some dd → ∃ fs, H dd = some (.xd fs) := by
  cases od with
  | none => cases h; exact ⟨rfl, fun dd z => nomatch z⟩
  | some dd =>
    cases h with
    | exc h1 _ _ => exact ⟨rfl, fun d2 z => by cases z; exact ⟨_, sm _ _ h1⟩⟩
/-- isinstance(e, C), e caught -/
theorem cs_isQ {a0 : Addr} {oe : Obj} {pn : List (Addr × Obj)} {D : Addr} {od : Option Addr} {xd : XD} (cs : CS K mg S (X.suite a0 ((a0, oe) :: pn))) (C : ExcC K D) (hz : Zc (.ref D) od oe) (hf : ∃ vs, oe.data = .fields vs) (j : Nat) {Q : J.D → List Ent → Prop} (hm : mg "isinstance" = none)
    (h : JV (X.suite a0 ((a0, oe) :: pn)) B a G fun d1 G1 => JV (X.suite a0 ((a0, oe) :: pn)) B b G1 fun d2 G2 => ∃ c cv r, d1 = xent xd a0 od ∧ d2 = .raw c ∧ ClsV c cv ∧ PySem.W.kitOne K (.ref D) cv = some r ∧ Q (.bl r) G2) (hj : S.gl[j]? = some ("isinstance" : Str) := by rfl)
    (he : starEach [a, b] X.env = (false, eval a X.env) :: starEach [b] X.env := by rfl) (he2 : starEach [b] X.env = (false, eval b X.env) :: starEach [] X.env := by rfl) (hpl : (backTo pos (starEach [b] X.env)).any (·.1) = false := by rfl) :
    JV (X.suite a0 ((a0, oe) :: pn)) B (.Call (.Name "isinstance" p) [a, b] [] pos) G Q := fun t s z F H VQ hl c q => by
  have hK : X.K = K := cs.hK
  have C' : ExcC X.K D := by rw [hK]; exact C
  have hn := okName_of (Sc.glb cs.ok hj).1
  refine tS_of (pe_callB (call_isQ C' hz hf) (cs.gl hj) (by rw [cs.hmg]; exact hm) (by decide +kernel) (pa_cons pe_sem (pa_cons pe_sem pa_nil he2) he) hn.2.2 hn.1 he hpl) (run2 h hl c fun v u F' H' d1 d2 G' c' ⟨cc, cv, r, e1, e2, hcv, hk, hq⟩ => ?_)
  subst e1 e2
  cases c'.top
  obtain ⟨rfl, hd⟩ := xent_dd c'.pop.fh c'.pop.top
  have hu : ∀ u', RelV u u' → u' = cv := fun u' hu => by
    cases hcv with
    | ty T => exact hu
    | own D => exact hu
  exact ⟨hd, u, cv, r, rfl, hu, by rw [hK]; exact hk, q _ F' H' _ G' (c'.pop.pop.fz (.bl r)) hq⟩
/-- isinstance(e, (C, ..)) -/
theorem cs_isQT {a0 : Addr} {oe : Obj} {pn : List (Addr × Obj)} {D : Addr} {od : Option Addr} {xd : XD} (cs : CS K mg S (X.suite a0 ((a0, oe) :: pn))) (C : ExcC K D) (hz : Zc (.ref D) od oe) (hf : ∃ vs, oe.data = .fields vs) (j : Nat) {Q : J.D → List Ent → Prop} (hm : mg "isinstance" = none)
    (h : JV (X.suite a0 ((a0, oe) :: pn)) B a G fun d1 G1 => JV (X.suite a0 ((a0, oe) :: pn)) B b G1 fun d2 G2 => ∃ (vs : List V) (us : List Value) (r : Bool), d1 = xent xd a0 od ∧ d2 = .tup (vs.map .raw) ∧ Paired ClsV vs us ∧ PySem.W.kitAny K (.ref D) us = some r ∧ Q (.bl r) G2) (hj : S.gl[j]? = some ("isinstance" : Str) := by rfl)
    (he : starEach [a, b] X.env = (false, eval a X.env) :: starEach [b] X.env := by rfl) (he2 : starEach [b] X.env = (false, eval b X.env) :: starEach [] X.env := by rfl) (hpl : (backTo pos (starEach [b] X.env)).any (·.1) = false := by rfl) :
    JV (X.suite a0 ((a0, oe) :: pn)) B (.Call (.Name "isinstance" p) [a, b] [] pos) G Q := fun t s z F H VQ hl c q => by
  have hK : X.K = K := cs.hK
  have C' : ExcC X.K D := by rw [hK]; exact C
  have hn := okName_of (Sc.glb cs.ok hj).1
  refine tS_of (pe_callB (call_isQT C' hz hf) (cs.gl hj) (by rw [cs.hmg]; exact hm) (by decide +kernel) (pa_cons pe_sem (pa_cons pe_sem pa_nil he2) he) hn.2.2 hn.1 he hpl) (run2 h hl c fun v u F' H' d1 d2 G' c' ⟨vs, us, r, e1, e2, hcv, hk, hq⟩ => ?_)
  subst e1 e2
  have sm := c'.fh
  have raws : ∀ {xs vs : List V}, Paired (DP X.K F') xs (vs.map J.D.raw) → xs = vs := by
    intro xs
    induction xs with
    | nil => intro vs h; cases vs with
      | nil => rfl
      | cons _ _ => cases h
    | cons x xs ih => intro vs h; cases vs with
      | nil => cases h
      | cons v vs => cases h with
        | cons r t => cases r; rw [ih t]
  obtain ⟨rfl, hd⟩ := xent_dd c'.pop.fh c'.pop.top
  cases c'.top with
  | @tup tp xs _ h1 h2 =>
    obtain rfl := raws h2
    exact ⟨hd, tp, _, us, r, rfl, sameT sm h1, hcv, by rw [hK]; exact hk, q _ F' H' _ G' (c'.pop.pop.fz (.bl r)) hq⟩
end
end J

namespace J
open PySem PySem.Spec L2
section
variable {P : Program} {w : World} {K : PySem.W.Frag} {mg : Str → Option Value} {base : Heap} {S : Sc} {k : Nat} {X : Cx} {B : Bs} {E : XW} {G : List Ent} {a b e o tg : Expr} {es : List Expr} {pos p apos cp : Pos} {x : Str}
/-- isinstance of a plain value, wherever one stands -/
theorem cs_isi (cs : CS K mg S X) (j : Nat) {Q : D → List Ent → Prop} (hm : mg "isinstance" = none) (h : JV X B a G fun d1 G1 => JV X B b G1 fun d2 G2 => ∃ T T' r, d1.tyn = some T ∧ d2 = .raw (.ty T') ∧ kitB T T' = some r ∧ Q (.bl r) G2) (hj : S.gl[j]? = some "isinstance" := by rfl)
    (he : starEach [a, b] X.env = (false, eval a X.env) :: starEach [b] X.env := by rfl) (he2 : starEach [b] X.env = (false, eval b X.env) :: starEach [] X.env := by rfl) (hpl : (backTo pos (starEach [b] X.env)).any (·.1) = false := by rfl) : JV X B (.Call (.Name "isinstance" p) [a, b] [] pos) G Q := fun t s z F H VQ hl c q => by
  have hn := okName_of (Sc.glb cs.ok hj).1
  refine tS_of (pe_callB call_isi (cs.gl hj) (by rw [cs.hmg]; exact hm) (by decide +kernel) (pa_cons pe_sem (pa_cons pe_sem pa_nil he2) he) hn.2.2 hn.1 he hpl) (run2 h hl c fun v u F' H' d1 d2 G' c' ⟨T, T', r, e1, e2, e3, hq⟩ => ?_)
  subst e2
  have tv : TyX X.K H' v (.type T) := D.ty c'.pop.topH e1
  cases c'.top
  exact ⟨v, _, _, _, r, rfl, .ty T', tv, kit_ty e3, q _ F' H' _ G' (c'.pop.pop.fz (.bl r)) hq⟩
/-- == wherever there is room -/
theorem cu_eqT (hu : X.A.units + 64 < cLine) {Q : Bool → List Ent → Prop} (h : JV X B a G fun d1 G1 => JV X B b G1 fun d2 G2 => (∃ n, Flat n d1 ∧ n ≤ 64) ∧ (∃ m, Flat m d2 ∧ m ≤ 64) ∧ Q (deq d1 d2) G2) : JT X B (.Compare a [.Eq] [b] pos) G Q :=
  jt_cmp (op_eqD hu) (nomark _) (JV.imp h fun _ _ h => JV.imp h fun _ _ ⟨⟨n, f, hn⟩, ⟨m, f', hm⟩, q⟩ => ⟨_, relB_eq f f' hn hm, q⟩)
theorem cu_eqV (hu : X.A.units + 64 < cLine) {Q : D → List Ent → Prop} (h : JV X B a G fun d1 G1 => JV X B b G1 fun d2 G2 => (∃ n, Flat n d1 ∧ n ≤ 64) ∧ (∃ m, Flat m d2 ∧ m ≤ 64) ∧ Q (.bl (deq d1 d2)) G2) : JV X B (.Compare a [.Eq] [b] pos) G Q :=
  jv_cmp (op_eqD hu) (nomark _) (JV.imp h fun _ _ h => JV.imp h fun _ _ ⟨⟨n, f, hn⟩, ⟨m, f', hm⟩, q⟩ => ⟨_, relB_eq f f' hn hm, q⟩)
/-- the room of a suite -/
theorem suite_u (cj : CJ P w K mg base S k X B E) {a : Addr} {pn : List (Addr × Obj)} : (X.suite a pn).A.units + 64 < cLine := cj.hr.units
/-- tests in a row, the last one -/
theorem jt_and {rest : List Expr} {Q : Bool → List Ent → Prop} (h : JT X B a G fun kk G' => (kk = true → JW X B (.BoolOp .And (b :: rest) pos) G' Q) ∧ (kk = false → Q false G')) : JT X B (.BoolOp .And (a :: b :: rest) pos) G Q := (jw_and h).jt
theorem jt_or {rest : List Expr} {Q : Bool → List Ent → Prop} (h : JT X B a G fun kk G' => (kk = false → JW X B (.BoolOp .Or (b :: rest) pos) G' Q) ∧ (kk = true → Q true G')) : JT X B (.BoolOp .Or (a :: b :: rest) pos) G Q := (jw_or h).jt
theorem flat_str {n : Nat} {x : Str} (h : (PyData.str x).canLay0 = true := by decide +kernel) : Flat n (.str x) := .str x h
end
end J

namespace J
open PySem PySem.Spec L2
/-- d in a list of plain data -/
theorem any_D {n m : Nat} {d : D} (f : Flat n d) : ∀ {ds : List D}, (∀ e ∈ ds, Flat m e) → (((D.pys ds).any fun z => PyData.eqv z (D.py d)) = true ↔ d ∈ ds)
  | [], _ => by simp [D.pys]
  | e :: ds, h => by
    show ((PyData.eqv (D.py e) (D.py d) || (D.pys ds).any fun z => PyData.eqv z (D.py d)) = true) ↔ _
    rw [Bool.or_eq_true, any_D f fun e he => h e (by simp [he])]
    have : PyData.eqv (D.py e) (D.py d) = true ↔ e = d := deq_iff (h e (by simp)) f
    rw [this, List.mem_cons]
    exact or_congr ⟨fun z => z.symm, fun z => z.symm⟩ Iff.rfl
theorem any_Db {n m : Nat} {d : D} (f : Flat n d) {ds : List D} (h : ∀ e ∈ ds, Flat m e) [Decidable (d ∈ ds)] : ((D.pys ds).any fun z => PyData.eqv z (D.py d)) = decide (d ∈ ds) := by
  rw [Bool.eq_iff_iff, any_D f h, decide_eq_true_iff]
section
variable {P : Program} {w : World} {K : PySem.W.Frag} {mg : Str → Option Value} {base : Heap} {S : Sc} {k : Nat} {X : Cx} {B : Bs} {E : XW} {G : List Ent} {a b e o tg : Expr} {es : List Expr} {pos p apos cp : Pos} {x : Str}
/-- the same as a proposition's Bool -/
theorem relB_inD {n m : Nat} {d : D} {ds : List D} (f : Flat n d) (h : ∀ e ∈ ds, Flat m e) [Decidable (d ∈ ds)] (hn : n ≤ 64 := by decide) (hm : m + 1 ≤ 64 := by decide) : RelB X (rInD X.K) d (.lst ds) (decide (d ∈ ds)) := fun v u H VQ h1 h2 q => by
  have fl : Flat (m + 1) (.lst ds) := .lst h
  exact ⟨_, _, DP.dp _ v h1 f, DP.dp _ u h2 fl, f.shaped hn, fl.shaped hm, by rw [any_Db f h]; exact q⟩
theorem relB_notinD {n m : Nat} {d : D} {ds : List D} (f : Flat n d) (h : ∀ e ∈ ds, Flat m e) [Decidable (d ∈ ds)] (hn : n ≤ 64 := by decide) (hm : m + 1 ≤ 64 := by decide) : RelB X (rNotInD X.K) d (.lst ds) (!decide (d ∈ ds)) := fun v u H VQ h1 h2 q => by
  have fl : Flat (m + 1) (.lst ds) := .lst h
  exact ⟨_, _, DP.dp _ v h1 f, DP.dp _ u h2 fl, f.shaped hn, fl.shaped hm, by rw [any_Db f h]; exact q⟩
theorem jt_notinD (cj : CJ P w K mg base S k X B E) {Q : Bool → List Ent → Prop} (h : JV X B a G fun d1 G1 => JV X B b G1 fun d2 G2 => ∃ (n m : Nat) (ds : List D) (_ : Decidable (d1 ∈ ds)), d2 = .lst ds ∧ Flat n d1 ∧ (∀ e ∈ ds, Flat m e) ∧ n ≤ 64 ∧ m + 1 ≤ 64 ∧ Q (!decide (d1 ∈ ds)) G2) (hm : behindInMarks .NotIn b = false := by with_unfolding_all rfl) : JT X B (.Compare a [.NotIn] [b] pos) G Q :=
  jt_cmp (op_notInD cj.u65) hm (JV.imp h fun _ _ h => JV.imp h fun _ _ ⟨n, m, ds, _, e2, f, fs, l1, l2, q⟩ => by subst e2; exact ⟨_, relB_notinD f fs l1 l2, q⟩)
theorem jt_inD (cj : CJ P w K mg base S k X B E) {Q : Bool → List Ent → Prop} (h : JV X B a G fun d1 G1 => JV X B b G1 fun d2 G2 => ∃ (n m : Nat) (ds : List D) (_ : Decidable (d1 ∈ ds)), d2 = .lst ds ∧ Flat n d1 ∧ (∀ e ∈ ds, Flat m e) ∧ n ≤ 64 ∧ m + 1 ≤ 64 ∧ Q (decide (d1 ∈ ds)) G2) (hm : behindInMarks .In b = false := by with_unfolding_all rfl) : JT X B (.Compare a [.In] [b] pos) G Q :=
  jt_cmp (op_inD cj.u65) hm (JV.imp h fun _ _ h => JV.imp h fun _ _ ⟨n, m, ds, _, e2, f, fs, l1, l2, q⟩ => by subst e2; exact ⟨_, relB_inD f fs l1 l2, q⟩)
/-- a op x, x an own list at a slot -/
theorem jt_cmpOR {xp : Pos} (cj : CJ P w K mg base S k X B E) (i : Nat) {op : CmpOp} {r : R2} {Q : Bool → List Ent → Prop} (ho : OpR X (compareOp op) r) (hm : behindInMarks op (.Name x xp) = false)
    (h : JV X B a G fun d1 G1 => ∃ ds kk, entOw G1[i]? = some (.lst ds) ∧ RelB X r d1 (.lst ds) kk ∧ Q kk G1) (hN : S.N[i]? = some x := by rfl) (hv : i ∈ S.vi := by decide) : JT X B (.Compare a [op] [.Name x xp] pos) G Q := fun t s z F H TQ hl c q => by
  have hn := okName_of (Sc.vis cj.ok hv hN).1
  refine tT_of (pt_cmpR ho pe_sem (pe_var (cj.xN hN) (cj.vis hv hN) hn.1 hn.2.1) hm) (h t s z F H _ hl c fun v F1 H1 d1 G1 c1 ⟨ds, kk, hg, hr, hq⟩ => ?_)
  obtain ⟨y, e1, dp⟩ := own_dp (X := X) hl c1.pop hg
  exact ⟨.ref y, e1, hr v (.ref y) H1 _ c1.topH dp ⟨_, rfl, q _ F1 H1 G1 c1.pop hq⟩⟩
theorem jt_notinOR {xp : Pos} (cj : CJ P w K mg base S k X B E) (i : Nat) {Q : Bool → List Ent → Prop} (h : JV X B a G fun d1 G1 => ∃ (n m : Nat) (ds : List D) (_ : Decidable (d1 ∈ ds)), entOw G1[i]? = some (.lst ds) ∧ Flat n d1 ∧ (∀ e ∈ ds, Flat m e) ∧ n ≤ 64 ∧ m + 1 ≤ 64 ∧ Q (!decide (d1 ∈ ds)) G1) (hN : S.N[i]? = some x := by rfl) (hv : i ∈ S.vi := by decide) (hm : behindInMarks .NotIn (.Name x xp) = false := by with_unfolding_all rfl) : JT X B (.Compare a [.NotIn] [.Name x xp] pos) G Q :=
  jt_cmpOR cj i (op_notInD cj.u65) hm (JV.imp h fun _ _ ⟨n, m, ds, _, e2, f, fs, l1, l2, q⟩ => ⟨ds, _, e2, relB_notinD f fs l1 l2, q⟩) hN hv
end
end J

namespace J
open PySem PySem.Spec L2
section
variable {P : Program} {w : World} {K : PySem.W.Frag} {mg : Str → Option Value} {base : Heap} {S : Sc} {k : Nat} {X : Cx} {B : Bs} {E : XW} {G : List Ent} {a b e o tg : Expr} {es : List Expr} {pos p apos cp : Pos} {x : Str}
/-- a sign of a text -/
theorem jv_ixS {Q : D → List Ent → Prop} (h : JV X B a G fun d1 G1 => JV X B b G1 fun d2 G2 => ∃ (z : List Nat) (i : Int) (c : Nat), d1 = .str (SX.S z) ∧ d2 = .int i ∧ z.length ≤ sizeLine ∧ atI z i = some c ∧ Q (.str (SX.S [c])) G2) (hs : PlainIx b := by exact fun _ _ => rfl) : JV X B (.Subscript a b pos) G Q := fun t s z F H VQ hl c q =>
  tS_of (pe_ix ix_str pe_sem pe_sem hs) (run2 h hl c fun v u F' H' d1 d2 G' c' ⟨ds, i, d, sd, e, hz, ha, hq⟩ => by
    subst e sd
    cases c'.top
    cases c'.pop.top
    exact ⟨_, i, d, rfl, rfl, by rw [SX.S_len]; exact hz, ha, q _ F' H' _ G' (c'.pop.pop.fz (.str _)) hq⟩)
/-- a part of a text -/
theorem jv_sliceS {lo hi : Option Expr} {p2 : Pos} {Q : D → List Ent → Prop} (h : JV X B e G fun d G1 => JO X B lo G1 fun i G2 => JO X B hi G2 fun j G3 => ∃ z : Str, d = .str z ∧ z.length ≤ sizeLine ∧ Q (.str (Txt.slice z i j)) G3) : JV X B (.Subscript e (.Slice lo hi none p2) pos) G Q := fun t s z F H VQ hl c q =>
  tS_of (pe_slice C8.sl_txt pe_sem (po_sem lo) (po_sem hi)) (h t s z F H _ hl c fun v F1 H1 d G1 c1 h1 => runO h1 (t := some v :: t) (z := .fz d :: z) (by simp [hl]) c1 fun i F2 H2 G2 c2 h2 => runO h2 (t := some v :: t) (z := .fz d :: z) (by simp [hl]) c2 fun j F3 H3 G3 c3 ⟨ds, e, hz, hq⟩ => by
    subst e
    cases c3.top
    exact ⟨_, rfl, hz, q _ F3 H3 _ G3 (c3.pop.fz (.str _)) hq⟩)
/-- == and != of texts -/
theorem relB_eqS {a b : List Nat} : RelB X rEq (.str (SX.S a)) (.str (SX.S b)) (decide (a = b)) := fun v u H VQ h1 h2 q => by
  cases h1; cases h2
  refine ⟨rfl, ?_⟩
  have : decide (V.str (SX.S a) = V.str (SX.S b)) = decide (a = b) := by
    rw [Bool.eq_iff_iff, decide_eq_true_iff, decide_eq_true_iff]
    exact ⟨fun h => SX.S_inj (V.str.inj h), fun h => by rw [h]⟩
  rw [this]; exact q
theorem relB_neS {a b : List Nat} : RelB X rNe (.str (SX.S a)) (.str (SX.S b)) (!decide (a = b)) := fun v u H VQ h1 h2 q => by
  cases h1; cases h2
  refine ⟨rfl, ?_⟩
  have : decide (V.str (SX.S a) = V.str (SX.S b)) = decide (a = b) := by
    rw [Bool.eq_iff_iff, decide_eq_true_iff, decide_eq_true_iff]
    exact ⟨fun h => SX.S_inj (V.str.inj h), fun h => by rw [h]⟩
  rw [this]; exact q
theorem jt_eqS {Q : Bool → List Ent → Prop} (h : JV X B a G fun d1 G1 => JV X B b G1 fun d2 G2 => ∃ y z : List Nat, d1 = .str (SX.S y) ∧ d2 = .str (SX.S z) ∧ Q (decide (y = z)) G2) : JT X B (.Compare a [.Eq] [b] pos) G Q :=
  jt_cmp op_eq (nomark _) (JV.imp h fun _ _ h => JV.imp h fun _ _ ⟨y, z, e1, e2, q⟩ => by subst e1 e2; exact ⟨_, relB_eqS, q⟩)
theorem jt_neS {Q : Bool → List Ent → Prop} (h : JV X B a G fun d1 G1 => JV X B b G1 fun d2 G2 => ∃ y z : List Nat, d1 = .str (SX.S y) ∧ d2 = .str (SX.S z) ∧ Q (!decide (y = z)) G2) : JT X B (.Compare a [.NotEq] [b] pos) G Q :=
  jt_cmp op_ne (nomark _) (JV.imp h fun _ _ h => JV.imp h fun _ _ ⟨y, z, e1, e2, q⟩ => by subst e1 e2; exact ⟨_, relB_neS, q⟩)
theorem jv_eqS {Q : D → List Ent → Prop} (h : JV X B a G fun d1 G1 => JV X B b G1 fun d2 G2 => ∃ y z : List Nat, d1 = .str (SX.S y) ∧ d2 = .str (SX.S z) ∧ Q (.bl (decide (y = z))) G2) : JV X B (.Compare a [.Eq] [b] pos) G Q :=
  jv_cmp op_eq (nomark _) (JV.imp h fun _ _ h => JV.imp h fun _ _ ⟨y, z, e1, e2, q⟩ => by subst e1 e2; exact ⟨_, relB_eqS, q⟩)
theorem jv_neS {Q : D → List Ent → Prop} (h : JV X B a G fun d1 G1 => JV X B b G1 fun d2 G2 => ∃ y z : List Nat, d1 = .str (SX.S y) ∧ d2 = .str (SX.S z) ∧ Q (.bl (!decide (y = z))) G2) : JV X B (.Compare a [.NotEq] [b] pos) G Q :=
  jv_cmp op_ne (nomark _) (JV.imp h fun _ _ h => JV.imp h fun _ _ ⟨y, z, e1, e2, q⟩ => by subst e1 e2; exact ⟨_, relB_neS, q⟩)
/-- a sign in a text -/
theorem jt_inS {Q : Bool → List Ent → Prop} (h : JV X B a G fun d1 G1 => JV X B b G1 fun d2 G2 => ∃ (c : Nat) (z : List Nat), d1 = .str (SX.S [c]) ∧ d2 = .str (SX.S z) ∧ Q (decide (c ∈ z)) G2) (hm : behindInMarks .In b = false := by with_unfolding_all rfl) : JT X B (.Compare a [.In] [b] pos) G Q :=
  jt_cmp op_in_sign hm (JV.imp h fun _ _ h => JV.imp h fun _ _ ⟨y, z, e1, e2, q⟩ => by subst e1 e2; exact ⟨_, fun v u H VQ h1 h2 q => by cases h1; cases h2; exact ⟨_, _, rfl, rfl, q⟩, q⟩)
theorem jt_notInS {Q : Bool → List Ent → Prop} (h : JV X B a G fun d1 G1 => JV X B b G1 fun d2 G2 => ∃ (c : Nat) (z : List Nat), d1 = .str (SX.S [c]) ∧ d2 = .str (SX.S z) ∧ Q (!decide (c ∈ z)) G2) (hm : behindInMarks .NotIn b = false := by with_unfolding_all rfl) : JT X B (.Compare a [.NotIn] [b] pos) G Q :=
  jt_cmp op_notIn_sign hm (JV.imp h fun _ _ h => JV.imp h fun _ _ ⟨y, z, e1, e2, q⟩ => by subst e1 e2; exact ⟨_, fun v u H VQ h1 h2 q => by cases h1; cases h2; exact ⟨_, _, rfl, rfl, q⟩, q⟩)
/-- int of a text of figures -/
theorem jv_intS (cj : CJ P w K mg base S k X B E) (j : Nat) {Q : D → List Ent → Prop} (hm : mg "int" = none) (h : JV X B e G fun d G' => ∃ z : List Nat, d = .str (SX.S z) ∧ (z.all (fun c => decide (48 ≤ c) && decide (c ≤ 57))) = true ∧ z ≠ [] ∧ z.length ≤ 640 ∧ Q (.int ((NumText.digitsVal z : Nat) : Int)) G') (hj : S.gl[j]? = some "int" := by rfl)
    (he : starEach [e] X.env = (false, eval e X.env) :: starEach [] X.env := by rfl) (hpl : (backTo pos (starEach [] X.env)).any (·.1) = false := by rfl) : JV X B (.Call (.Name "int" p) [e] [] pos) G Q :=
  jv_callTy cj j call_int_str hm (by decide +kernel) (JD.cons (JV.imp h fun d G' ⟨i, ed, h1, h2, h3, q⟩ => JD.nil ⟨_, _, .int _, fun vs H VQ dp hq => by
    subst ed
    cases dp with
    | cons r t => cases t; cases r; exact ⟨_, _, rfl, SX.int_S h1 h2 (by omega), by rw [SX.S_len]; exact h3, hq⟩, q⟩) he) hj he hpl
/-- a text, sign by sign -/
theorem ji_strS {Q : Nat → (Nat → D → Prop) → List Ent → Prop} (h : JV X B e G fun d G' => ∃ y : List Nat, d = .str (SX.S y) ∧ Q y.length (fun i d => ∃ c, y[i]? = some c ∧ d = .str (SX.S [c])) G') : JI X B tg e G Q :=
  ji_str (JV.imp h fun _ _ ⟨y, e1, q⟩ => by
    subst e1
    refine ⟨_, rfl, ?_⟩
    have e1 : (SX.S y).cps.size = y.length := by simp [SX.S]
    have e2 : (fun (i : Nat) (d : D) => ∃ c, (SX.S y).cps[i]? = some c ∧ d = .str ⟨#[c]⟩) = fun i d => ∃ c, y[i]? = some c ∧ d = .str (SX.S [c]) := by
      funext i d
      simp [SX.S]
    rw [e1, e2]; exact q)
theorem jv_lenSS (cj : CJ P w K mg base S k X B E) (j : Nat) {Q : D → List Ent → Prop} (hm : mg "len" = none) (h : JV X B e G fun d G' => ∃ y : List Nat, d = .str (SX.S y) ∧ y.length ≤ sizeLine ∧ Q (.int (y.length : Nat)) G') (hj : S.gl[j]? = some "len" := by rfl)
    (he : starEach [e] X.env = (false, eval e X.env) :: starEach [] X.env := by rfl) (hpl : (backTo pos (starEach [] X.env)).any (·.1) = false := by rfl) : JV X B (.Call (.Name "len" p) [e] [] pos) G Q :=
  jv_lenS cj j hm (JV.imp h fun _ _ ⟨y, e1, h1, q⟩ => ⟨_, e1, by rw [SX.S_len]; exact h1, by rw [SX.S_len]; exact q⟩) hj he hpl
theorem jv_strN (cj : CJ P w K mg base S k X B E) (j : Nat) {Q : D → List Ent → Prop} (hm : mg "str" = none) (h : JV X B e G fun d G' => ∃ n : Nat, d = .int (n : Int) ∧ n ≤ 1000000 ∧ Q (.str (SX.S (TL.numL n))) G') (hj : S.gl[j]? = some "str" := by rfl)
    (he : starEach [e] X.env = (false, eval e X.env) :: starEach [] X.env := by rfl) (hpl : (backTo pos (starEach [] X.env)).any (·.1) = false := by rfl) : JV X B (.Call (.Name "str" p) [e] [] pos) G Q :=
  jv_strI cj j hm (JV.imp h fun _ _ ⟨n, e1, h1, q⟩ => ⟨_, e1, by
    rcases Nat.eq_zero_or_pos n with z | z
    · subst z; decide
    · have : n.log2 < 20 := (Nat.log2_lt (by omega)).mpr (Nat.lt_of_le_of_lt h1 (by decide))
      show (Int.natAbs (n : Int)).log2 < 1920
      rw [Int.natAbs_natCast]; omega, by
    have : (((toString ((n : Nat) : Int)) : String) : Str) = SX.S (TL.numL n) := SX.num_S n
    rw [this]; exact q⟩) hj he hpl
/-- texts put together -/
theorem jv_addsS {Q : D → List Ent → Prop} (h : JV X B a G fun d1 G1 => JV X B b G1 fun d2 G2 => ∃ i j : List Nat, d1 = .str (SX.S i) ∧ d2 = .str (SX.S j) ∧ i.length + j.length ≤ sizeLine ∧ Q (.str (SX.S (i ++ j))) G2) : JV X B (.BinOp a .Add b pos) G Q :=
  jv_adds (JV.imp h fun _ _ h => JV.imp h fun _ _ ⟨i, j, e1, e2, hz, q⟩ => ⟨_, _, e1, e2, by rw [SX.S_len, SX.S_len]; exact hz, by rw [SX.S_cat]; exact q⟩)
theorem jv_joinS {Q : D → List Ent → Prop} (h : JV X B o G fun d1 G1 => ∃ s : List Nat, d1 = .str (SX.S s) ∧ JV X B e G1 fun d2 G2 => ∃ ys : List (List Nat), d2 = .lst (ys.map fun y => .str (SX.S y)) ∧ (ys.map (·.length)).sum + ys.length * s.length ≤ 16777216 ∧ Q (.str (SX.S (TL.joinL s ys))) G2)
    (hs : starEach [e] X.env = [(false, eval e X.env)] := by rfl) (hbase : attributeBase o "join" X.env (eval o X.env) = eval o X.env := by rfl) (hline : (apos.endLine == pos.line) = true := by rfl) : JV X B (.Call (.Attribute o "join" apos) [e] [] pos) G Q :=
  jv_join (JV.imp h fun _ _ ⟨s, e1, h⟩ => ⟨_, e1, JV.imp h fun _ _ ⟨ys, e2, hz, q⟩ => ⟨ys.map SX.S, by rw [e2, List.map_map]; rfl, by rw [SX.lens, List.length_map, SX.S_len]; exact hz, by rw [SX.join_S]; exact q⟩⟩) hs hbase hline
theorem je_splitS {Q : Ent → List Ent → Prop} (h : JV X B o G fun d1 G1 => ∃ s : List Nat, d1 = .str (SX.S s) ∧ JV X B e G1 fun d2 G2 => ∃ b : List Nat, d2 = .str (SX.S b) ∧ b ≠ [] ∧ b.all (· < 256) = true ∧ s.length + 2 ≤ sizeLine ∧ Q (.ow (.lst ((TL.spl b 0 [] s).map fun y => .str (SX.S y)))) G2)
    (hs : starEach [e] X.env = [(false, eval e X.env)] := by rfl) (hbase : attributeBase o "split" X.env (eval o X.env) = eval o X.env := by rfl) (hline : (apos.endLine == pos.line) = true := by rfl) : JE X B (.Call (.Attribute o "split" apos) [e] [] pos) G Q :=
  je_split (JV.imp h fun _ _ ⟨s, e1, h⟩ => ⟨_, e1, JV.imp h fun _ _ ⟨b, e2, hb, hk, hz, q⟩ => ⟨_, e2, by
    rw [SX.S_len]
    cases b with
    | nil => exact absurd rfl hb
    | cons _ _ => rfl, by rw [SX.S_len]; exact hz, by rw [SX.split_S hb hk, List.map_map]; exact q⟩⟩) hs hbase hline
/-- what partition gives, as codes -/
def parP (b s : List Nat) : List Nat × List Nat × List Nat :=
  match TL.par b [] s with
  | some (p, q) => (p, b, q)
  | none => (s, [], [])
theorem jv_partitionS {Q : D → List Ent → Prop} (h : JV X B o G fun d1 G1 => ∃ s : List Nat, d1 = .str (SX.S s) ∧ JV X B e G1 fun d2 G2 => ∃ b : List Nat, d2 = .str (SX.S b) ∧ b ≠ [] ∧ s.length ≤ sizeLine ∧ Q (.tup [.str (SX.S (parP b s).1), .str (SX.S (parP b s).2.1), .str (SX.S (parP b s).2.2)]) G2)
    (hs : starEach [e] X.env = [(false, eval e X.env)] := by rfl) (hbase : attributeBase o "partition" X.env (eval o X.env) = eval o X.env := by rfl) (hline : (apos.endLine == pos.line) = true := by rfl) : JV X B (.Call (.Attribute o "partition" apos) [e] [] pos) G Q :=
  jv_partition (JV.imp h fun _ _ ⟨s, e1, h⟩ => ⟨_, e1, JV.imp h fun _ _ ⟨b, e2, hb, hz, q⟩ => ⟨_, e2, by
    rw [SX.S_len]
    cases b with
    | nil => exact absurd rfl hb
    | cons _ _ => rfl, by rw [SX.S_len]; exact hz, by
      have : Txt.partition (SX.S s) (SX.S b) = (SX.S (parP b s).1, SX.S (parP b s).2.1, SX.S (parP b s).2.2) := by
        unfold parP
        cases hp : TL.par b [] s with
        | some pq => obtain ⟨p, q⟩ := pq; exact SX.partition_some hb hp
        | none => exact SX.partition_none hb hp
      rw [this]; exact q⟩⟩) hs hbase hline
/-- a text's data -/
theorem jv_strS {i j} (z : List Nat) {Q : D → List Ent → Prop} (h : Q (.str (SX.S z)) G) (hz : i = SX.S z := by rfl) : JV X B (.Constant (.str i) j pos) G Q := jv_str (by rw [hz]; exact h)
/-- a text kept globally -/
theorem jv_globS (cj : CJ P w K mg base S k X B E) (j : Nat) {y : Str} (z : List Nat) {Q : D → List Ent → Prop} (hm : ∃ t, mg x = some (.str y t)) (h : Q (.str (SX.S z)) G) (hz : y = SX.S z := by rfl) (hj : S.gl[j]? = some x := by rfl) : JV X B (.Name x pos) G Q := by
  obtain ⟨t, ht⟩ := hm
  subst hz
  exact jv_glob (v := .str (SX.S z)) cj j ht ⟨t, rfl⟩ (fun _ => .str _) h hj
/-- e[:n] and e[n:] of a text -/
theorem jv_takeS (n : Nat) {i : Int} {jj : Nat} {p2 p3 : Pos} {Q : D → List Ent → Prop} (h : JV X B e G fun d G1 => ∃ z : List Nat, d = .str (SX.S z) ∧ z.length ≤ sizeLine ∧ Q (.str (SX.S (z.take n))) G1) (hi : i = (n : Int) := by rfl) : JV X B (.Subscript e (.Slice none (some (.Constant (.int i) jj p3)) none p2) pos) G Q :=
  jv_sliceS (JV.imp h fun _ G1 ⟨z, e1, hz, q⟩ => JO.non (JO.som (jv_int ⟨_, rfl, SX.S z, e1, by rw [SX.S_len]; exact hz, by
    subst hi
    rw [SX.slice_to (by omega)]; exact q⟩)))
theorem jv_dropS (n : Nat) {i : Int} {jj : Nat} {p2 p3 : Pos} {Q : D → List Ent → Prop} (h : JV X B e G fun d G1 => ∃ z : List Nat, d = .str (SX.S z) ∧ z.length ≤ sizeLine ∧ Q (.str (SX.S (z.drop n))) G1) (hi : i = (n : Int) := by rfl) : JV X B (.Subscript e (.Slice (some (.Constant (.int i) jj p3)) none none p2) pos) G Q :=
  jv_sliceS (JV.imp h fun _ G1 ⟨z, e1, hz, q⟩ => JO.som (jv_int ⟨_, rfl, JO.non ⟨SX.S z, e1, by rw [SX.S_len]; exact hz, by
    subst hi
    rw [SX.slice_from (by omega)]; exact q⟩⟩))
/-- the parts of a text are no longer than it -/
theorem spl_len (S : List Nat) : ∀ (l : List Nat) (k : Nat) (acc : List Nat), (∀ x ∈ TL.spl S k acc l, x.length ≤ acc.length + l.length) ∧ (TL.spl S k acc l).length ≤ l.length + 1
  | [], k, acc => by rw [TL.spl_nil]; simp
  | c :: r, 0, acc => by
    show (∀ x ∈ (if TL.pre S (c :: r) = true then acc :: TL.spl S (S.length - 1) [] r else TL.spl S 0 (acc ++ [c]) r), _) ∧ (if TL.pre S (c :: r) = true then acc :: TL.spl S (S.length - 1) [] r else TL.spl S 0 (acc ++ [c]) r).length ≤ _
    by_cases h : TL.pre S (c :: r) = true
    · rw [if_pos h]
      obtain ⟨h1, h2⟩ := spl_len S r (S.length - 1) []
      refine ⟨fun x hx => ?_, by simp only [List.length_cons]; omega⟩
      rcases List.mem_cons.mp hx with rfl | hx
      · omega
      · have := h1 x hx
        simp only [List.length_nil, List.length_cons] at this ⊢; omega
    · rw [if_neg h]
      obtain ⟨h1, h2⟩ := spl_len S r 0 (acc ++ [c])
      refine ⟨fun x hx => ?_, by simp only [List.length_cons]; omega⟩
      have := h1 x hx
      simp only [List.length_append, List.length_cons, List.length_nil] at this ⊢; omega
  | c :: r, k + 1, acc => by
    obtain ⟨h1, h2⟩ := spl_len S r k acc
    refine ⟨fun x hx => ?_, by show (TL.spl S k acc r).length ≤ _; simp only [List.length_cons]; omega⟩
    have := h1 x hx
    simp only [List.length_cons]; omega
theorem spl_ne (S : List Nat) : ∀ (l : List Nat) (k : Nat) (acc : List Nat), 1 ≤ (TL.spl S k acc l).length
  | [], k, acc => by rw [TL.spl_nil]; simp
  | c :: r, 0, acc => by
    show 1 ≤ (if TL.pre S (c :: r) = true then acc :: TL.spl S (S.length - 1) [] r else TL.spl S 0 (acc ++ [c]) r).length
    by_cases h : TL.pre S (c :: r) = true
    · rw [if_pos h]; simp
    · rw [if_neg h]; exact spl_ne S r 0 (acc ++ [c])
  | c :: r, k + 1, acc => spl_ne S r k acc
theorem par_len (S : List Nat) : ∀ (l acc : List Nat) {p q : List Nat}, TL.par S acc l = some (p, q) → p.length ≤ acc.length + l.length ∧ q.length ≤ l.length
  | [], acc, p, q, h => by cases h
  | c :: r, acc, p, q, h => by
    have h : (if TL.pre S (c :: r) = true then some (acc, (c :: r).drop S.length) else TL.par S (acc ++ [c]) r) = some (p, q) := h
    by_cases z : TL.pre S (c :: r) = true
    · rw [if_pos z] at h
      cases h
      rw [List.length_drop]
      exact ⟨Nat.le_add_right _ _, Nat.sub_le _ _⟩
    · rw [if_neg z] at h
      obtain ⟨h1, h2⟩ := par_len S r (acc ++ [c]) h
      simp only [List.length_append, List.length_cons, List.length_nil] at h1 ⊢
      omega
end
end J

namespace J
open PySem PySem.Spec L2
/-- the texts that expressions write -/
def strEs : List Expr → Option (List Str)
  | [] => some []
  | .Constant (.str i) _ _ :: es => (strEs es).map (i :: ·)
  | _ => none
section
variable {P : Program} {w : World} {K : PySem.W.Frag} {mg : Str → Option Value} {base : Heap} {S : Sc} {k : Nat} {X : Cx} {B : Bs} {E : XW} {G : List Ent} {a b e o tg : Expr} {es : List Expr} {pos p apos cp : Pos} {x : Str}
theorem jd_strs0 : ∀ {es : List Expr} {ys : List Str} {Q : List D → List Ent → Prop}, strEs es = some ys → Q (ys.map .str) G → JD X B es G Q
  | [], ys, Q, h, q => by cases h; exact JD.nil q
  | .Constant (.str i) j pp :: es, ys, Q, h, q => by
    cases hs : strEs es with
    | none =>
      have h : (strEs es).map (i :: ·) = some ys := h
      rw [hs] at h; cases h
    | some zs =>
      have h : (strEs es).map (i :: ·) = some ys := h
      rw [hs] at h; cases h
      exact JD.cons (jv_str (jd_strs0 hs q))
/-- a display of texts -/
theorem jd_strs (zs : List (List Nat)) {Q : List D → List Ent → Prop} (q : Q (zs.map fun y => .str (SX.S y)) G) (h : strEs es = some (zs.map SX.S) := by rfl) : JD X B es G Q :=
  jd_strs0 h (by rw [List.map_map]; exact q)
end
end J

namespace J
open PySem PySem.Spec L2
section
variable {P : Program} {w : World} {K : PySem.W.Frag} {mg : Str → Option Value} {base : Heap} {S : Sc} {k : Nat} {X : Cx} {B : Bs} {E : XW} {G : List Ent} {a b cc e o tg : Expr} {es : List Expr} {pos p apos cp : Pos} {x : Str}
/-- xs[::-1] -/
theorem je_revL {kk : Nat} {p1 p2 p3 : Pos} {Q : Ent → List Ent → Prop} (h : JV X B e G fun d G1 => ∃ ds, (d = .lst ds ∨ d = .kls ds) ∧ Q (.ow (.lst ds.reverse)) G1) : JE X B (.Subscript e (.Slice none none (some (.UnaryOp .USub (.Constant (.int 1) kk p1) p2)) p3) pos) G Q := fun t s z F H VQ hl c q =>
  tS_of (pe_revL pe_sem) (h t s z F H _ hl c fun v F1 H1 d G1 c1 ⟨ds, e, hq⟩ => by
    have sm := c1.fh
    rcases e with e | e
    · subst e
      cases c1.top with
      | lst h3 h4 => exact ⟨_, _, rfl, .of (sm _ _ h3), fun p np => q (.ref p) F1 _ _ G1 (c1.pop.newL np (prev h4)) trivial hq⟩
    · subst e
      cases c1.top with
      | kls h3 h4 => exact ⟨_, _, rfl, sm.seq h3, fun p np => q (.ref p) F1 _ _ G1 (c1.pop.newL np (prev h4)) trivial hq⟩)
/-- a < b < c of ints -/
theorem jt_ltlt {Q : Bool → List Ent → Prop} (h : JV X B a G fun d1 G1 => JV X B b G1 fun d2 G2 => ∃ i j, d1 = .int i ∧ d2 = .int j ∧ (i < j → JV X B cc G2 fun d3 G3 => ∃ m, d3 = .int m ∧ Q (decide (j < m)) G3) ∧ (¬ i < j → Q false G2)) (h2 : behindInMarks .Lt cc = false := by exact nomark _) : JT X B (.Compare a [.Lt, .Lt] [b, cc] pos) G Q :=
  jt_chain op_lt op_lt (h.imp fun d1 G1 h1 => h1.imp fun d2 G2 ⟨i, j, e1, e2, ht, hf⟩ => by
    subst e1 e2
    exact ⟨_, relB_lt, fun hk => (ht (of_decide_eq_true hk)).imp fun d3 G3 ⟨m, e3, q⟩ => by subst e3; exact ⟨_, relB_lt, q⟩, fun hk => hf (of_decide_eq_false hk)⟩) h2
end
end J

namespace J
open PySem PySem.Spec L2
/-! ## dicts whose keys are tuples of ints -/
abbrev KTD := List (List Int × D)
def ik (ns : List Int) : List Key := ns.map Sum.inl
theorem ik_inj : ∀ {a b : List Int}, ik a = ik b → a = b
  | [], [], _ => rfl
  | [], _ :: _, h => by simp [ik] at h
  | _ :: _, [], h => by simp [ik] at h
  | x :: a, y :: b, h => by
    have h : (Sum.inl x : Key) :: ik a = Sum.inl y :: ik b := h
    obtain ⟨h1, h2⟩ := List.cons.inj h
    rw [Sum.inl.inj h1, ik_inj h2]
theorem ik_kV (ns : List Int) : (ik ns).map kV = ns.map V.int := by
  unfold ik
  rw [List.map_map]; rfl
def kt (m : KTD) : List (List Key × D) := m.map fun p => (ik p.1, p.2)
def tget (m : KTD) (k : List Int) : Option D := (m.find? fun p => decide (p.1 = k)).map (·.2)
def tput (m : KTD) (k : List Int) (d : D) : KTD := if (m.any fun p => decide (p.1 = k)) = true then m.map (fun p => if p.1 = k then (p.1, d) else p) else m ++ [(k, d)]
theorem pt_get {K : PySem.W.Frag} {F : Hp} (k : List Int) : ∀ {kvs : List (List Key × V)} {m : KTD}, PK K F kvs (kt m) → (tget m k = none → valV kvs (ik k) = none) ∧ (∀ d, tget m k = some d → ∃ v, valV kvs (ik k) = some v ∧ DP K F v d)
  | _, [], h => by cases h; exact ⟨fun _ => rfl, fun d h => by simp [tget] at h⟩
  | _, (n, d0) :: m, h => by
    cases h with
    | @cons p _ kvs _ r t =>
      obtain ⟨kk, v⟩ := p
      obtain ⟨e, dp⟩ := r
      simp only at e dp
      subst e
      by_cases z : n = k
      · subst z
        refine ⟨fun h => by simp [tget] at h, fun d hd => ⟨v, by rw [valV_pos rfl], ?_⟩⟩
        simp [tget] at hd; subst hd; exact dp
      · have ih := pt_get (K := K) (F := F) k t
        have hz : ¬ ik n = ik k := fun e => z (ik_inj e)
        have e1 : tget ((n, d0) :: m) k = tget m k := by simp [tget, List.find?_cons, z]
        rw [valV_neg hz, e1]
        exact ih
theorem pt_put {K : PySem.W.Frag} {F : Hp} (k : List Int) {v : V} {d : D} (dp : DP K F v d) {kvs : List (List Key × V)} {m : KTD} (h : PK K F kvs (kt m)) : PK K F (putK kvs (ik k) v) (kt (tput m k d)) := by
  have any_eq : ∀ {kvs : List (List Key × V)} {m : KTD}, PK K F kvs (kt m) → (kvs.any fun kv => decide (kv.1 = ik k)) = (m.any fun p => decide (p.1 = k)) := by
    intro kvs m
    induction m generalizing kvs with
    | nil => intro h; cases h; rfl
    | cons p m ih =>
      intro h
      cases h with
      | cons r t =>
        rw [List.any_cons, List.any_cons, ih t]
        congr 1
        rw [r.1]
        by_cases z : p.1 = k
        · rw [decide_eq_true z, decide_eq_true (show ik p.1 = ik k by rw [z])]
        · rw [decide_eq_false z, decide_eq_false fun e => z (ik_inj e)]
  have map_eq : ∀ {kvs : List (List Key × V)} {m : KTD}, PK K F kvs (kt m) → PK K F (kvs.map fun kv => if kv.1 = ik k then (kv.1, v) else kv) (kt (m.map fun p => if p.1 = k then (p.1, d) else p)) := by
    intro kvs m
    induction m generalizing kvs with
    | nil => intro h; cases h; exact .nil
    | cons p m ih =>
      intro h
      cases h with
      | @cons q _ _ _ r t =>
        refine .cons ?_ (ih t)
        obtain ⟨r1, r2⟩ := r
        have r1 : q.1 = ik p.1 := r1
        show (if q.1 = ik k then (q.1, v) else q).1 = ik (if p.1 = k then (p.1, d) else p).1 ∧ DP K F (if q.1 = ik k then (q.1, v) else q).2 (if p.1 = k then (p.1, d) else p).2
        by_cases z : p.1 = k
        · rw [if_pos (by rw [r1, z]), if_pos z]; exact ⟨r1, dp⟩
        · rw [if_neg (by rw [r1]; exact fun e => z (ik_inj e)), if_neg z]; exact ⟨r1, r2⟩
  unfold putK tput
  rw [any_eq h]
  split
  · exact map_eq h
  · unfold kt
    rw [List.map_append]
    exact papp h (.cons ⟨rfl, dp⟩ .nil)
theorem pt_vals {K : PySem.W.Frag} {F : Hp} : ∀ {kvs : List (List Key × V)} {m : KTD}, PK K F kvs (kt m) → DPs K F (kvs.map (·.2)) (m.map (·.2))
  | _, [], h => by cases h; exact .nil
  | _, _ :: _, h => by
    cases h with
    | cons r t => exact .cons r.2 (pt_vals t)
theorem pt_len {K : PySem.W.Frag} {F : Hp} {kvs : List (List Key × V)} {m : KTD} (h : PK K F kvs (kt m)) : kvs.length = m.length := by
  have := Paired.length h
  unfold kt at this
  rwa [List.length_map] at this
/-- such a dict, free or locked -/
inductive IsT (m : KTD) : Ow → Prop
  | free : IsT m (.dT (kt m))
  | lock {d : Addr} {o : Obj} {ks : List (List Key × V)} : IsT m (.lkT d o ks (kt m))
  | pin {d : Addr} : IsT m (.dTA d (kt m))
theorem IsT.rd {K : PySem.W.Frag} {F H : Hp} {a : Addr} {o : Ow} {m : KTD} (h : IsT m o) (q : OwAt K F H a o) : ∃ ks, Rd H a (.dT ks) ∧ PK K F ks (kt m) := by
  cases h with
  | free => obtain ⟨ks, h1, h2⟩ := q; exact ⟨ks, .inl h1, h2⟩
  | lock => obtain ⟨_, h1, h2⟩ := q; exact ⟨_, .inr ⟨_, h1⟩, h2⟩
  | pin => obtain ⟨_, ks, h1, h2⟩ := q; exact ⟨ks, .inl h1, h2⟩
theorem tp_key {K : PySem.W.Frag} {F H : Hp} {v : V} {ns : List Int} (sm : Same F H) (h : DP K F v (.tp (ns.map .int))) : ∃ b, v = .ref b ∧ H b = some (.tup ((ik ns).map kV)) := by
  cases h with
  | @tp a xs _ h1 h2 =>
    have := ints_of_dps h2
    subst this
    exact ⟨a, rfl, by rw [ik_kV]; exact sm _ _ h1⟩
/-- the display of one pair, the key a tuple -/
def tDisp1T (tk tv : TE) : TE := fun σ H Q => ∀ p, H p = none → tPairs [(tk, tv)] σ (upd H p (.dT [])) fun ps H2 => H2 p = some (.dT []) ∧ ∃ k b v, ps = [(.ref b, v)] ∧ H2 b = some (.tup (k.map kV)) ∧ Q (.ref p) (upd H2 p (.dT [(k, v)]))
theorem pe_disp1T {X : Cx} {pos : Pos} {k v : Expr} {tk tv : TE} (hu : X.A.units + 1 < cLine) (hk : PE X k tk) (hv : PE X v tv) : PE X (.Dict [some k] [v] pos) (tDisp1T tk tv) := by
  refine ⟨fun pins s σ H Q I q => ?_⟩
  have hn := I.hok.fresh (Nat.le_refl s.heap.objs.size)
  have I1 := I.laid (a := s.heap.objs.size) (o := .dT []) (h' := s.heap.push { cls := .type "dict", data := .dict #[] }) (t' := s.toks) (fun _ _ q => Heap.get?_push_of_some _ q) (Nat.le_refl _) (dt_empty s.heap I.big)
  have hp : PPs X pos [some k] [v] [(tk, tv)] := pps_cons hk hv pps_nil
  have h0 : pairTrees [some k] [v] X.env pos ≠ [] := fun z => by cases z
  rw [arm_eval_Dict, zip_pairTrees [some k] [v] X.env pos rfl rfl, dictDisplay_pairs (pairTrees [some k] [v] X.env pos) h0 (by show 1 < 17; decide)]
  refine wpAny_bind (wpAny_standAt (wpAny_bind (wpAny_subDictH (knd := tupleKind (mixKind X.prog X.w)) (Q := fun d s' => wpAny (model X.prog X.w) X.A (pure (Value.ref d)) (EP X pins σ Q) X.xe s') (by show X.A.units < cLine; omega) (by decide : 1 ≤ 15)
    (thn (hp.run pins _ σ _ _ I1 (q _ hn)) fun ws s2 ⟨ps, H2, I2, rel, e, k0, b, v0, ep, eb, q2⟩ => ?_))))
  subst ep
  cases rel with
  | @cons _ uu _ _ r t =>
    cases t
    obtain ⟨u1, u2⟩ := uu
    obtain ⟨r1, r2⟩ := r
    have r1 : u1 = Value.ref b := r1
    have r2 : RelV v0 u2 := r2
    subst r1
    obtain ⟨z, hd, xs, r0, dd⟩ := dt_of I2.hok e
    cases r0
    refine ⟨[(k0, b, u2)], ⟨rfl, rfl, key_of I2.hok eb, trivial⟩, dd, fun h' tk dd' hs => wpAny_pure ⟨.ref s.heap.objs.size, _, ?_, rfl, q2⟩⟩
    obtain ⟨q0, es0, ep0, hq, h2, h3, h4, _, h5⟩ := dd'
    refine d_write I2 (by rw [e]; exact True.intro) hs ⟨q0, hq⟩ ⟨by show 1 ≤ sizeLine; decide, hd, _, KT.keeps (H := H2) (kvs := [(k0, v0)]) (xs := [(k0, b, u2)]) (Paired.cons ⟨rfl, eb, r2⟩ .nil) fun c ys ec => ?_, q0, es0, ep0, hq, h2, h3, h4, h5⟩
    rw [upd_ne (ne_of ec e (fun z => nomatch z))]
    exact ec
/-- the view x.values() -/
def valuesO (p d : Addr) : HO := .ext fun h => h.IsValuesView p d
theorem valuesO_ok {P : Program} {w : World} {H : Hp} {h : Heap} {p d : Addr} (e : h.get? p = some { cls := .type "dict_values", data := .fields #[.ref d] }) : ObjOk P w H h p (valuesO p d) :=
  ⟨⟨_, e, rfl, rfl⟩, ⟨_, e⟩, fun h1 h2 x k => let ⟨o, ho, r⟩ := x; ⟨o, k o ho, r⟩⟩
def rValuesT : V → List V → Hp → VK → Prop := fun x xs H Q => ∃ (a : Addr) (kvs : List (List L2.Key × V)), x = .ref a ∧ xs = [] ∧ Rd H a (.dT kvs) ∧ ∀ p, H p = none → Q (.ref p) (upd H p (valuesO p a))
theorem mt_valuesT {X : Cx} : MtR X "dict.values" rValuesT := by
  intro pins s σ H x xs v us Q I rx rxs h
  obtain ⟨a, kvs, rfl, rfl, ha, q⟩ := h
  cases rx
  cases rxs
  obtain ⟨z, hd, xs', rel, o, es, ep, ho, hx, hdat, _⟩ := dt_rd I.hok ha
  refine call_meetsIn F.slot_dict_values ⟨o, ho, hx.1⟩ F.entry_dict_values (F.args_dict_values_1 _) (PySem.meets_dict_values_raw a hd) ⟨⟨es, ep, o, ho, hx, hdat⟩, ?_⟩
  have hf : H s.heap.objs.size = none := I.hok.fresh (Nat.le_refl _)
  exact ⟨.ref s.heap.objs.size, upd H s.heap.objs.size (valuesO s.heap.objs.size a), I.laid (t' := s.toks) (fun b u e => Heap.get?_push_of_some _ e) (Nat.le_refl _) (valuesO_ok (Heap.get?_push_size _ rfl)), rfl, q _ hf⟩
def rListVals : List V → Hp → VK → Prop := fun xs H Q => ∃ (p a : Addr) (kvs : List (List L2.Key × V)), xs = [.ref p] ∧ H p = some (valuesO p a) ∧ Rd H a (.dT kvs) ∧ ∀ l, H l = none → Q (.ref l) (upd H l (.lst (kvs.map (·.2))))
theorem kt_vals {H : Hp} : ∀ {kvs : List (List L2.Key × V)} {xs : List (List L2.Key × Addr × Value)}, KT H kvs xs → Vals (kvs.map (·.2)) (xs.map (·.2.2))
  | _, _, .nil => .nil
  | _, _, .cons r t => .cons r.2.2 (kt_vals t)
theorem items_eq {α : Type} {es : Array α} {f : α → Value} {acc : Array Value} (h : ItemsOf (fun i v => ∃ hi : i < es.size, v = f es[i]) acc es.size) : acc.toList = es.toList.map f := by
  apply List.ext_getElem?
  intro i
  by_cases hi : i < es.size
  · have hl : i < acc.size := by rw [h.1]; exact hi
    obtain ⟨hi', e⟩ := h.2 i acc[i] (Array.getElem?_eq_getElem hl)
    rw [Array.getElem?_toList, Array.getElem?_eq_getElem hl, List.getElem?_map, Array.getElem?_toList, Array.getElem?_eq_getElem hi, e]; rfl
  · rw [Array.getElem?_toList, List.getElem?_map, Array.getElem?_toList, Array.getElem?_eq_none (by rw [h.1]; omega), Array.getElem?_eq_none (by omega)]; rfl
theorem call_listVals {X : Cx} (hcalm : X.calm = true) : CallR X (.type "list") rListVals := by
  intro pins s σ H xs us Q I r h
  obtain ⟨p, a, kvs, rfl, hp, ha, q⟩ := h
  rw [Vals.ref1 r]
  obtain ⟨z, hd, xs', rel, o, es, ep, ho, hx, hdat, he, _⟩ := dt_rd I.hok ha
  have vw : s.heap.IsValuesView p a := (I.hok p _ hp).1
  have hsz : es.size ≤ sizeLine := by
    have := congrArg List.length he
    rw [Array.length_toList, List.length_map, ← Paired.length rel] at this
    omega
  refine PySem.W.kdl_call (PySem.KdlSrc.rawValues (es := es) (ep := ep)) (I.ok.hd hcalm) ⟨vw, o, ho, hx, hdat⟩ hsz fun h' tk acc' c' hk hS hacc => ?_
  have hf : H s.heap.objs.size = none := I.hok.fresh (Nat.le_refl _)
  have ea : acc'.toList = xs'.map (·.2.2) := by
    rw [items_eq (f := fun e : DictEntry => e.val) hacc, he, List.map_map]; rfl
  refine ⟨.ref s.heap.objs.size, upd H s.heap.objs.size (.lst (kvs.map (·.2))), I.laid (t' := tk) hk (Nat.le_refl _) (show ObjOk X.prog X.w _ _ _ (.lst (kvs.map (·.2))) from ⟨by rw [List.length_map]; exact z, acc'.toList, c', by rw [ea]; exact kt_vals rel, by rw [Array.toArray_toList]; exact hS⟩), rfl, q _ hf⟩
/-- list(d): the keys' own tuples -/
def rListKeys : List V → Hp → VK → Prop := fun xs H Q => ∃ (a : Addr) (kvs : List (List L2.Key × V)), xs = [.ref a] ∧ Rd H a (.dT kvs) ∧ ∀ l qs, H l = none → Paired (fun (q : Addr) (p : List L2.Key × V) => H q = some (.tup (p.1.map kV))) qs kvs → Q (.ref l) (upd H l (.lst (qs.map V.ref)))
theorem kt_keys {H : Hp} : ∀ {kvs : List (List L2.Key × V)} {xs : List (List L2.Key × Addr × Value)}, KT H kvs xs → Paired (fun (q : Addr) (p : List L2.Key × V) => H q = some (.tup (p.1.map kV))) (xs.map (·.2.1)) kvs
  | _, _, .nil => .nil
  | _, _, .cons r t => .cons r.2.1 (kt_keys t)
theorem vals_refs : ∀ (qs : List Addr), Vals (qs.map V.ref) (qs.map Value.ref)
  | [] => .nil
  | q :: qs => .cons rfl (vals_refs qs)
theorem call_listKeys {X : Cx} (hcalm : X.calm = true) : CallR X (.type "list") rListKeys := by
  intro pins s σ H xs us Q I r h
  obtain ⟨a, kvs, rfl, ha, q⟩ := h
  rw [Vals.ref1 r]
  obtain ⟨z, hd, xs', rel, o, es, ep, ho, hx, hdat, he, _⟩ := dt_rd I.hok ha
  have hsz : es.size ≤ sizeLine := by
    have := congrArg List.length he
    rw [Array.length_toList, List.length_map, ← Paired.length rel] at this
    omega
  refine PySem.W.kdl_call (PySem.KdlSrc.rawDict (es := es) (ep := ep) hd) (I.ok.hd hcalm) ⟨o, ho, hx, hdat⟩ hsz fun h' tk acc' c' hk hS hacc => ?_
  have hf : H s.heap.objs.size = none := I.hok.fresh (Nat.le_refl _)
  have ea : acc'.toList = (xs'.map (·.2.1)).map Value.ref := by
    rw [items_eq (f := fun e : DictEntry => e.key) hacc, he, List.map_map, List.map_map]; rfl
  refine ⟨.ref s.heap.objs.size, upd H s.heap.objs.size (.lst ((xs'.map (·.2.1)).map V.ref)), I.laid (t' := tk) hk (Nat.le_refl _) (show ObjOk X.prog X.w _ _ _ (.lst ((xs'.map (·.2.1)).map V.ref)) from ⟨by rw [List.length_map, List.length_map, ← Paired.length rel]; exact z, acc'.toList, c', by rw [ea]; exact vals_refs _, by rw [Array.toArray_toList]; exact hS⟩), rfl, q _ _ hf (kt_keys rel)⟩
end J

namespace J
open PySem PySem.Spec L2
theorem DP.tp_tup {K : PySem.W.Frag} {F : Hp} {v : V} {ds : List D} (h : DP K F v (.tp ds)) : DP K F v (.tup ds) := by
  cases h with
  | tp h1 h2 => exact .tup (.inl (.inl h1)) h2
/-- what may be told more loosely -/
def Lo (d d' : D) : Prop := ∀ (K : PySem.W.Frag) (F : Hp) (v : V), DP K F v d → DP K F v d'
theorem Lo.tp (ds : List D) : Lo (.tp ds) (.tup ds) := fun _ _ _ h => h.tp_tup
theorem Lo.refl (d : D) : Lo d d := fun _ _ _ h => h
theorem Lo.all {α : Type} {f g : α → D} (h : ∀ x, Lo (f x) (g x)) {K : PySem.W.Frag} {F : Hp} : ∀ {l : List α} {xs : List V}, DPs K F xs (l.map f) → DPs K F xs (l.map g)
  | [], _, q => by cases q; exact .nil
  | x :: l, _, q => by cases q with | cons r t => exact .cons (h x _ _ _ r) (Lo.all h t)
theorem Lo.lst {α : Type} {f g : α → D} (l : List α) (h : ∀ x, Lo (f x) (g x)) : Lo (.lst (l.map f)) (.lst (l.map g)) := fun _ _ _ q => by
  cases q with
  | lst h1 h2 => exact .lst h1 (Lo.all h h2)
section
variable {P : Program} {w : World} {K : PySem.W.Frag} {mg : Str → Option Value} {base : Heap} {S : Sc} {k : Nat} {X : Cx} {B : Bs} {E : XW} {G : List Ent} {a b e f o tg : Expr} {es : List Expr} {sts : List Stmt} {D : Dn} {pos p apos cp : Pos} {x : Str}
theorem Conf.loose {F H : Hp} {s : St} {g : List Ent} {v : Option V} {d d' : J.D} (lo : Lo d d') (c : Conf K B (v :: s) F H (.fz d :: g)) : Conf K B (v :: s) F H (.fz d' :: g) := by
  cases c.env with
  | cons q _ =>
    obtain ⟨x, e, dp⟩ := q
    subst e
    exact c.pop.fz (lo _ _ _ dp)
theorem JV.loose {Q : J.D → List Ent → Prop} (h : JV X B e G fun d G' => ∃ d', Lo d d' ∧ Q d' G') : JV X B e G Q := fun t s z F H VQ hl c q =>
  h t s z F H VQ hl c fun v F' H' d G' c' ⟨d', lo, hq⟩ => q v F' H' d' G' (c'.loose lo) hq
/-- a slot's entry is told more loosely -/
theorem Conf.relE {F H : Hp} {s : St} {g : List Ent} {i : Nat} {e1 e2 : Ent} (c : Conf K B s F H g) (hi : g[i]? = some e1) (h : ∀ v, EntOk K B F H v e1 → EntOk K B F H v e2) (ho : ∀ v, oad v e2 = oad v e1) : Conf K B s F H (g.set i e2) := by
  have hl : i < g.length := (List.getElem?_eq_some_iff.mp hi).1
  have hs : s[i]? = some (s[i]'(by rw [c.len]; exact hl)) := List.getElem?_eq_getElem _
  obtain ⟨v, hv, ok⟩ := c.at hi
  rw [hs] at hv
  obtain ⟨nd', sub⟩ := oads_same (e' := e2) hs hi (fun b hb => by rwa [ho] at hb) (by
    rw [ho]
    cases e1 with
    | no => rw [oad_no]; exact List.nodup_nil
    | fz d => rw [oad_fz]; exact List.nodup_nil
    | ow o => cases hh : s[i]'(by rw [c.len]; exact hl) with
      | none => exact List.nodup_nil
      | some y => cases y <;> simp [oad]
    | bw k o => cases hh : s[i]'(by rw [c.len]; exact hl) with
      | none => exact List.nodup_nil
      | some y => cases y <;> simp [oad]) c.nd
  have e3 : Paired (EntOk K B F H) (s.set i (s[i]'(by rw [c.len]; exact hl))) (g.set i e2) := pset (h _ (by rw [Option.some.inj hv]; exact ok)) i c.env
  rw [List.set_getElem_self] at e3
  exact ⟨c.fh, c.ff, c.keep, c.there, c.old, e3, nd', fun b hb => c.own b (sub b hb)⟩
theorem JSs.looseF (i : Nat) {d d' : J.D} (lo : Lo d d') (h : JSs X B sts (G.set i (.fz d')) D) (hi : G[i]? = some (.fz d) := by rfl) : JSs X B sts G D := fun t s z F H De hl c kk => by
  have hi' : (z ++ G)[z.length + i]? = some (.fz d) := by rw [get_app]; exact hi
  have c2 := c.relE (e2 := .fz d') hi' (fun v ⟨x, e, dp⟩ => ⟨x, e, lo _ _ _ dp⟩) (fun v => by rw [oad_fz, oad_fz])
  rw [set_app] at c2
  exact h t s z F H De hl c2 kk
/-- (e, ..), a new tuple -/
theorem Conf.newP {F H : Hp} {s : St} {g : List Ent} {p : Addr} {vs : List V} {ds : List J.D} (c : Conf K B s F H g) (np : H p = none) (dp : DPs K F vs ds) : Conf K B (some (.ref p) :: s) (upd F p (.tup vs)) (upd H p (.tup vs)) (.fz (.tp ds) :: g) :=
  (c.alloc np).fz (.tp upd_same (DP.monoL (same_upd (c.fresh np)) _ _ dp))
theorem jv_tupP {x1} {Q : J.D → List Ent → Prop} (h : JD X B es G fun ds G' => ds.length ≤ sizeLine ∧ Q (.tp ds) G') : JV X B (.Tuple es x1 pos) G Q := fun t s z F H VQ hl c q =>
  tS_of (pe_tup pa_sem) (runD h hl c fun vs ds F' H' G' dp c' ⟨hz, hq⟩ => ⟨by rw [dp.length]; exact hz, fun p np => by
    exact q (.ref p) _ _ _ G' (c'.newP np dp) hq⟩)
theorem jv_tupleP (cj : CJ P w K mg base S k X B E) (j : Nat) {Q : J.D → List Ent → Prop} (hm : mg "tuple" = none) (h : JV X B e G fun d G' => ∃ ds, (d = .lst ds ∨ d = .kls ds ∨ d = .tp ds) ∧ Q (.tp ds) G') (hj : S.gl[j]? = some "tuple" := by rfl)
    (he : starEach [e] X.env = (false, eval e X.env) :: starEach [] X.env := by rfl) (hpl : (backTo pos (starEach [] X.env)).any (·.1) = false := by rfl) : JV X B (.Call (.Name "tuple" p) [e] [] pos) G Q := fun t s z F H VQ hl c q =>
  tS_of (pe_callTy call_tuple_of (cj.gl hj) (cj.mgx hm) (by decide +kernel) (pa_cons pe_sem pa_nil he) (cj.nnm hj) (cj.dbg hj) he hpl) (h t s z F H _ hl c fun v F' H' d G' c' ⟨ds, sd, hq⟩ => by
    have sm := c'.fh
    rcases sd with sd | sd | sd
    · subst sd; cases c'.top with
      | lst h1 h2 => exact ⟨_, _, rfl, .inl ⟨.of (sm _ _ h1), fun p' np => q _ _ _ _ G' (c'.pop.newP np h2) hq⟩⟩
    · subst sd; cases c'.top with
      | kls h1 h2 => exact ⟨_, _, rfl, .inl ⟨sm.seq h1, fun p' np => q _ _ _ _ G' (c'.pop.newP np h2) hq⟩⟩
    · subst sd; cases c'.top with
      | tp h1 h2 => exact ⟨_, _, rfl, .inr ⟨.inl (.inl (sm _ _ h1)), q _ F' H' _ G' (c'.pop.fz (.tp h1 h2)) hq⟩⟩)
theorem jv_tupRgP (cj : CJ P w K mg base S k X B E) (j j2 : Nat) {p2 q2 : Pos} {Q : J.D → List Ent → Prop} (hm : mg "tuple" = none) (hm2 : mg "range" = none) (h : JV X B e G fun d G' => ∃ n : Int, d = .int n ∧ RgOk 0 n ∧ Q (.tp ((rgI 0 n).map .int)) G') (hj : S.gl[j]? = some "tuple" := by rfl) (hj2 : S.gl[j2]? = some "range" := by rfl)
    (na : starEach [e] X.env = (false, eval e X.env) :: starEach [] X.env := by rfl) : JV X B (.Call (.Name "tuple" p) [.Call (.Name "range" p2) [e] [] q2] [] pos) G Q := fun t s z F H VQ hl c q =>
  tS_of (pe_tupRg cj.calm (cj.gl hj) (cj.mgx hm) (prg_1 (cj.gl hj2) (cj.mgx hm2) pe_sem na)) (h t s z F H _ hl c fun v F' H' d G' c' ⟨n, ed, hr, hq⟩ => by
    subst ed
    cases c'.top
    refine ⟨n, rfl, hr, fun p' np => ?_⟩
    rw [rgV_eq]
    exact q _ _ _ _ G' (c'.pop.newP np (dps_ints _)) hq)
theorem ji_tp {Q : Nat → (Nat → J.D → Prop) → List Ent → Prop} (h : JV X B e G fun d G' => ∃ ds, d = .tp ds ∧ Q ds.length (fun i d => ds[i]? = some d) G') : JI X B tg e G Q :=
  ji_tup (JV.loose (h.imp fun d G' ⟨ds, e1, hq⟩ => ⟨.tup ds, by rw [e1]; exact Lo.tp ds, ds, rfl, hq⟩))
/-! ### the dicts -/
theorem je_tnew {Q : Ent → List Ent → Prop} (h : Q (.ow (.dT (kt []))) G) : JE X B (.Dict [] [] pos) G Q := fun t s z F H VQ hl c q =>
  tS_of pe_dnewT fun p np => q (.ref p) F _ _ G (c.new (o := .dT (kt [])) np ⟨[], upd_same, .nil⟩) trivial h
theorem je_tdisp1 (cj : CJ P w K mg base S k X B E) {Q : Ent → List Ent → Prop} (h : JV X B a G fun d1 G1 => JV X B b G1 fun d2 G2 => ∃ n : List Int, d1 = .tp (n.map .int) ∧ Q (.ow (.dT (kt [(n, d2)]))) G2) : JE X B (.Dict [some a] [b] pos) G Q := fun t s z F H VQ hl c q => by
  refine tS_of (pe_disp1T (by have := cj.hr.units; omega) pe_sem pe_sem) ?_
  intro p np
  have c1 : Conf X.K B ((some (.ref p) :: t) ++ s) F (upd H p (.dT [])) ((.ow (.dT (kt [])) :: z) ++ G) := c.new (o := .dT (kt [])) np ⟨[], upd_same, .nil⟩
  refine h (some (.ref p) :: t) s (.ow (.dT (kt [])) :: z) F _ _ (by simp [hl]) c1 fun v F1 H1 d1 G1 c2 h2 => ?_
  refine h2 (some v :: some (.ref p) :: t) s (.fz d1 :: .ow (.dT (kt [])) :: z) F1 H1 _ (by simp [hl]) c2 fun u F2 H2 d2 G2 c3 ⟨n, e1, hq⟩ => ?_
  subst e1
  have dp : DP X.K F2 u d2 := c3.top
  have c4 := c3.pop
  obtain ⟨kb, rfl, hkb⟩ := tp_key c4.fh c4.top
  have c5 : Conf X.K B (some (.ref p) :: (t ++ s)) F2 H2 (.ow (.dT (kt [])) :: (z ++ G2)) := c4.pop
  obtain ⟨v0, e2, a0, e3, ⟨ks, o1, o2⟩, _⟩ := c5.at (i := 0) rfl
  cases e2
  cases e3
  have : ks = [] := by cases o2; rfl
  subst this
  refine ⟨o1, ik n, kb, u, rfl, hkb, ?_⟩
  have c6 := c5.write (i := 0) (o' := .dT (kt [(n, d2)])) (ho := .dT [(ik n, u)]) rfl rfl ⟨_, upd_same, .cons ⟨rfl, dp⟩ .nil⟩
  exact q _ F2 _ _ G2 c6 trivial hq
/-- x[e], x such a dict -/
theorem jv_tget (cj : CJ P w K mg base S k X B E) (i : Nat) {xp : Pos} {Q : J.D → List Ent → Prop} (h : JV X B e G fun d2 G2 => ∃ (m : KTD) (n : List Int) (d : J.D) (ow : Ow), entOw G2[i]? = some ow ∧ IsT m ow ∧ d2 = .tp (n.map .int) ∧ tget m n = some d ∧ Q d G2) (hN : S.N[i]? = some x := by rfl) (hv : i ∈ S.vi := by decide) (hg : (entOw G[i]?).isSome = true := by rfl) (hs : NoSl e := by exact fun _ _ => rfl) :
    JV X B (.Subscript (.Name x xp) e pos) G Q := fun t s z F H VQ hl c q => by
  have hn := okName_of (Sc.vis cj.ok hv hN).1
  refine tS_of (pe_dget (by have := cj.hr.units; omega) (pe_var (cj.xN hN) (cj.vis hv hN) hn.1 hn.2.1) pe_sem hs) ?_
  obtain ⟨o, ho⟩ := Option.isSome_iff_exists.mp hg
  obtain ⟨y, e1, _⟩ := c.slot hl ho
  refine ⟨.ref y, e1, h t s z F H _ hl c fun u F' H' d2 G2 c2 ⟨m, n, d, ow, h1, it, h2, h3, h4⟩ => ?_⟩
  subst h2
  obtain ⟨kb, rfl, hkb⟩ := tp_key c2.fh c2.top
  obtain ⟨y', e1', oa, _⟩ := c2.pop.slot hl h1
  obtain ⟨ks, o1, o2⟩ := it.rd oa
  rw [e1] at e1'
  cases e1'
  obtain ⟨v, h5, h6⟩ := (pt_get n o2).2 d h3
  refine ⟨y, v, rfl, .inr ⟨ks, ik n, kb, o1, rfl, hkb, h5.symm⟩, q v F' H' d G2 (c2.pop.fz h6) h4⟩
/-- x[e] = v -/
theorem js_tput (cj : CJ P w K mg base S k X B E) (i : Nat) {xp tp sp : Pos} {Dd : Dn} (h : JV X B e G fun d G1 => JV X B b G1 fun d2 G2 => ∃ (m : KTD) (n : List Int), entOw G2[i]? = some (.dT (kt m)) ∧ d2 = .tp (n.map .int) ∧ m.length < sizeLine ∧ Dd.nx (setOw G2 i (.dT (kt (tput m n d))))) (hN : S.N[i]? = some x := by rfl) (hv : i ∈ S.vi := by decide)
    (hls : (entOw G[i]?).isSome = true := by rfl) (hs : swapsWith e (some (.Subscript (.Name x xp) b tp)) sp.line X.env = pure false := by rfl) : JS X B (.Assign [.Subscript (.Name x xp) b tp] e sp) G Dd := fun t s z F H De hl c kk => by
  have hn := okName_of (Sc.vis cj.ok hv hN).1
  refine tSt_of (ps_dput (by have := cj.hr.units; omega) (pe_var (cj.xN hN) (cj.vis hv hN) hn.1 hn.2.1) pe_sem pe_sem hs) ?_
  obtain ⟨o, ho⟩ := Option.isSome_iff_exists.mp hls
  obtain ⟨y, e1, _⟩ := c.slot hl ho
  refine h t s z F H _ hl c fun v F1 H1 d G1 c1 h2 => ?_
  refine ⟨.ref y, e1, h2 (some v :: t) s (.fz d :: z) F1 H1 _ (by simp [hl]) c1 fun u F2 H2 d2 G2 c2 ⟨m, n, h3, h4, h5, h6⟩ => ?_⟩
  subst h4
  obtain ⟨kb, rfl, hkb⟩ := tp_key c2.fh c2.top
  have dp : DP X.K F2 v d := c2.pop.top
  obtain ⟨y', e1', ⟨ks, o1, o2⟩, _, wr⟩ := c2.pop.pop.slot hl h3
  rw [e1] at e1'
  cases e1'
  have hlen : ks.length < sizeLine := by rw [pt_len o2]; exact h5
  exact ⟨y, _, rfl, DPut.t o1 hkb hlen, kk.nx s F2 _ _ rfl (wr _ (.dT (kt (tput m n d))) ⟨_, upd_same, pt_put n dp o2⟩) h6⟩
theorem tget_none {K : PySem.W.Frag} {F : Hp} {ks : List (List Key × V)} {m : KTD} (o2 : PK K F ks (kt m)) (n : List Int) : (valV ks (ik n)).isSome = (tget m n).isSome := by
  cases hd : tget m n with
  | none => rw [(pt_get n o2).1 hd]; rfl
  | some d => obtain ⟨v, h, _⟩ := (pt_get n o2).2 d hd; rw [h]; rfl
/-- e in x, e not in x -/
theorem jt_tnotin (cj : CJ P w K mg base S k X B E) (i : Nat) {xp : Pos} {Q : Bool → List Ent → Prop} (h : JV X B e G fun d2 G2 => ∃ (m : KTD) (n : List Int) (ow : Ow), entOw G2[i]? = some ow ∧ IsT m ow ∧ d2 = .tp (n.map .int) ∧ Q (!(tget m n).isSome) G2) (hN : S.N[i]? = some x := by rfl) (hv : i ∈ S.vi := by decide) :
    JT X B (.Compare e [.NotIn] [.Name x xp] pos) G Q := fun t s z F H TQ hl c q => by
  have hn := okName_of (Sc.vis cj.ok hv hN).1
  refine tT_of (pt_cmp (pc_dnotin (by have := cj.hr.units; omega) pe_sem (pe_var (cj.xN hN) (cj.vis hv hN) hn.1 hn.2.1))) ?_
  refine h t s z F H _ hl c fun u F2 H2 d2 G2 c2 ⟨m, n, ow, h3, it, h4, h5⟩ => ?_
  subst h4
  obtain ⟨kb, rfl, hkb⟩ := tp_key c2.fh c2.top
  obtain ⟨y, e1, oa, _⟩ := c2.pop.slot hl h3
  obtain ⟨ks, o1, o2⟩ := it.rd oa
  refine ⟨.ref y, e1, y, _, rfl, .inr ⟨ks, ik n, kb, o1, rfl, hkb, rfl⟩, ?_⟩
  rw [tget_none o2]
  exact ⟨_, rfl, q _ F2 H2 G2 c2.pop h5⟩
theorem jt_tin (cj : CJ P w K mg base S k X B E) (i : Nat) {xp : Pos} {Q : Bool → List Ent → Prop} (h : JV X B e G fun d2 G2 => ∃ (m : KTD) (n : List Int) (ow : Ow), entOw G2[i]? = some ow ∧ IsT m ow ∧ d2 = .tp (n.map .int) ∧ Q (tget m n).isSome G2) (hN : S.N[i]? = some x := by rfl) (hv : i ∈ S.vi := by decide) :
    JT X B (.Compare e [.In] [.Name x xp] pos) G Q := fun t s z F H TQ hl c q => by
  have hn := okName_of (Sc.vis cj.ok hv hN).1
  refine tT_of (pt_cmp (pc_din (by have := cj.hr.units; omega) pe_sem (pe_var (cj.xN hN) (cj.vis hv hN) hn.1 hn.2.1))) ?_
  refine h t s z F H _ hl c fun u F2 H2 d2 G2 c2 ⟨m, n, ow, h3, it, h4, h5⟩ => ?_
  subst h4
  obtain ⟨kb, rfl, hkb⟩ := tp_key c2.fh c2.top
  obtain ⟨y, e1, oa, _⟩ := c2.pop.slot hl h3
  obtain ⟨ks, o1, o2⟩ := it.rd oa
  refine ⟨.ref y, e1, y, _, rfl, .inr ⟨ks, ik n, kb, o1, rfl, hkb, rfl⟩, ?_⟩
  rw [tget_none o2]
  exact ⟨_, rfl, q _ F2 H2 G2 c2.pop h5⟩
/-- x.get(e, f) -/
theorem jv_tget2 (cj : CJ P w K mg base S k X B E) (i : Nat) {xp : Pos} {Q : J.D → List Ent → Prop} (h : JV X B e G fun d2 G2 => JV X B f G2 fun d3 G3 => ∃ (m : KTD) (n : List Int) (ow : Ow), entOw G3[i]? = some ow ∧ IsT m ow ∧ d2 = .tp (n.map .int) ∧ Q ((tget m n).getD d3) G3) (hN : S.N[i]? = some x := by rfl) (hv : i ∈ S.vi := by decide)
    (hg : ∃ (m : KTD) (ow : Ow), entOw G[i]? = some ow ∧ IsT m ow)
    (m2 : M2 X (.Name x xp) "get" apos e f cp := by exact ⟨rfl, rfl, rfl, rfl⟩) :
    JV X B (.Call (.Attribute (.Name x xp) "get" apos) [e, f] [] cp) G Q := fun t s z F H VQ hl c q => by
  have hn := okName_of (Sc.vis cj.ok hv hN).1
  refine tS_of (pe_dget2 (by have := cj.hr.units; omega) (pe_var (cj.xN hN) (cj.vis hv hN) hn.1 hn.2.1) pe_sem pe_sem m2) ?_
  obtain ⟨m0, o0, ho, it0⟩ := hg
  obtain ⟨y, e1, oa0, _⟩ := c.slot hl ho
  obtain ⟨ks0, o10, _⟩ := it0.rd oa0
  refine ⟨.ref y, e1, y, rfl, .inr ⟨ks0, o10⟩, h t s z F H _ hl c fun u F1 H1 d2 G2 c2 h2 => ?_⟩
  refine h2 (some u :: t) s (.fz d2 :: z) F1 H1 _ (by simp [hl]) c2 fun v F2 H2 d3 G3 c3 ⟨m, n, ow, h3, it, h4, h5⟩ => ?_
  subst h4
  obtain ⟨kb, rfl, hkb⟩ := tp_key c3.fh c3.pop.top
  have dp : DP X.K F2 v d3 := c3.top
  obtain ⟨y', e1', oa, _⟩ := c3.pop.pop.slot hl h3
  obtain ⟨ks, o1, o2⟩ := it.rd oa
  rw [e1] at e1'
  cases e1'
  refine ⟨_, .inr ⟨ks, ik n, kb, o1, rfl, hkb, rfl⟩, q _ F2 H2 _ G3 (c3.pop.pop.fz ?_) h5⟩
  cases hd : tget m n with
  | none => rw [(pt_get n o2).1 hd]; exact dp
  | some d => obtain ⟨v', h, hdp⟩ := (pt_get n o2).2 d hd; rw [h]; exact hdp
/-- list(x.values()) -/
theorem je_listVals (cj : CJ P w K mg base S k X B E) (j i : Nat) {m : KTD} {xp mp : Pos} {Q : Ent → List Ent → Prop} (hm : mg "list" = none) (h : Q (.ow (.lst (m.map (·.2)))) G) (hg : entOw G[i]? = some (.dT (kt m)) := by rfl) (hj : S.gl[j]? = some "list" := by rfl) (hN : S.N[i]? = some x := by rfl) (hv : i ∈ S.vi := by decide)
    (hbase : attributeBase (.Name x xp) "values" X.env (eval (.Name x xp) X.env) = eval (.Name x xp) X.env := by rfl) (hline : (apos.endLine == mp.line) = true := by rfl)
    (he : starEach [.Call (.Attribute (.Name x xp) "values" apos) [] [] mp] X.env = (false, eval (.Call (.Attribute (.Name x xp) "values" apos) [] [] mp) X.env) :: starEach [] X.env := by rfl) (hpl : (backTo pos (starEach [] X.env)).any (·.1) = false := by rfl) :
    JE X B (.Call (.Name "list" p) [.Call (.Attribute (.Name x xp) "values" apos) [] [] mp] [] pos) G Q := fun t s z F H VQ hl c q => by
  have hn := okName_of (Sc.vis cj.ok hv hN).1
  refine tS_of (pe_callTy (call_listVals cj.calm) (cj.gl hj) (cj.mgx hm) (by decide +kernel) (pa_cons (pe_bm0 PySem.F.plainAttrs_dict PySem.F.slot_dict_values PySem.F.type_dict_values mt_valuesT (pe_var (cj.xN hN) (cj.vis hv hN) hn.1 hn.2.1) hbase hline) pa_nil he) (cj.nnm hj) (cj.dbg hj) he hpl) ?_
  obtain ⟨y, e1, ⟨ks, o1, o2⟩, _⟩ := c.slot hl hg
  refine ⟨.ref y, e1, .inr (.inr (.inl ⟨rfl, .inr ⟨ks, o1⟩⟩)), y, ks, rfl, rfl, .inl o1, fun p1 np1 => ?_⟩
  refine ⟨p1, y, ks, rfl, upd_same, ?_, fun l nl => ?_⟩
  · have ne : y ≠ p1 := fun z => by
      subst z
      rw [np1] at o1; cases o1
    exact .inl (by rw [upd_ne ne]; exact o1)
  · exact q _ _ _ _ G ((c.alloc np1).newL nl (DP.monoL (same_upd (c.fresh np1)) _ _ (pt_vals o2))) trivial h
end
end J

namespace J
open PySem PySem.Spec L2
section
variable {P : Program} {w : World} {K : PySem.W.Frag} {mg : Str → Option Value} {base : Heap} {S : Sc} {k : Nat} {X : Cx} {B : Bs} {E : XW} {G : List Ent} {a b e f o tg : Expr} {es : List Expr} {sts : List Stmt} {D : Dn} {pos p apos cp : Pos} {x : Str}
/-- a tuple that stands is frozen -/
theorem Conf.tupF {F H : Hp} {s : St} {g : List Ent} {q : Addr} {ys : List V} (c : Conf K B s F H g) (hq : H q = some (.tup ys)) : ∃ F', Same F F' ∧ F' q = some (.tup ys) ∧ Conf K B s F' H g := by
  cases hf : F q with
  | some o =>
    have := c.fh q o hf
    rw [hq] at this
    cases this
    exact ⟨F, Same.refl F, hf, c⟩
  | none =>
    have sm : Same F (upd F q (.tup ys)) := same_upd hf
    have ne : ∀ b, (∃ o, H b = some o ∧ NT o) → b ≠ q := fun b ⟨o, h1, h2⟩ z => by
      subst z; rw [hq] at h1; exact h2 ys (Option.some.inj h1).symm
    refine ⟨_, sm, upd_same, ?_, c.ff.trans sm, c.keep, c.there, fun b n m => ?_, env_mono sm (fun b _ => rfl) c.env, c.nd, fun b hb => ?_⟩
    · intro b y e
      by_cases hb : b = q
      · subst hb; rw [upd_same] at e; cases e; exact hq
      · rw [upd_ne hb] at e; exact c.fh b y e
    · obtain ⟨q1, q2⟩ := c.old b n m
      exact ⟨by rw [upd_ne (ne b q2)]; exact q1, q2⟩
    · rw [upd_ne (ne b (env_nt c.env b hb))]; exact c.own b hb
theorem pt_at {F : Hp} : ∀ {kvs : List (List Key × V)} {m : KTD} {i : Nat} {k : List Key} {v : V}, PK K F kvs (kt m) → kvs[i]? = some (k, v) → ∃ p, m[i]? = some p ∧ k = ik p.1 ∧ DP K F v p.2
  | _, [], i, _, _, h, e => by cases h; simp at e
  | _, p :: m, 0, k, v, h, e => by
    cases h with
    | cons r t => cases e; exact ⟨p, rfl, r.1, r.2⟩
  | _, p :: m, i + 1, k, v, h, e => by
    cases h with
    | cons r t =>
      obtain ⟨p', h1, h2⟩ := pt_at (i := i) t (by simpa using e)
      exact ⟨p', by simpa using h1, h2⟩
/-- for .. in x, x an own dict with tuple keys that the body leaves as it is -/
theorem js_forT (cj : CJ P w K mg base S k X B E) (i : Nat) {m : KTD} {xp : Pos} {body : List Stmt} {Dd : Dn}
    (h : ∀ (dd : Addr) (o : Obj) (ks : List (List Key × V)), ∃ I : Nat → List Ent → Prop, I 0 (G.set i (.ow (.lkT dd o ks (kt m)))) ∧ (∀ j G2, I j G2 → G2[i]? = some (.ow (.lkT dd o ks (kt m)))) ∧
      (∀ j p G2, m[j]? = some p → I j G2 → JG X B S.li tg (.fz (.tp (p.1.map .int))) G2 fun G3 => JSs X B body G3 { nx := I (j + 1), rt := fun _ _ => False, bk := fun _ => False, ct := I (j + 1) }) ∧ (∀ G2, I m.length G2 → Dd.nx (G2.set i (.ow (.dT (kt m))))))
    (hg : G[i]? = some (.ow (.dT (kt m))) := by rfl) (hN : S.N[i]? = some x := by rfl) (hv : i ∈ S.vi := by decide) (hs : ∀ v, foldedSetIterable (.Name x xp) X.env v = pure v := by intro _; rfl) : JS X B (.For tg (.Name x xp) body [] pos) G Dd := fun t s z F H De hl c kk => by
  have hn := okName_of (Sc.vis cj.ok hv hN).1
  refine tSt_of (ps_lock (ps_for cj.po cj.calm (pi_keys (pe_var (cj.xN hN) (cj.vis hv hN) hn.1 hn.2.1)) pg_sem pss_sem hs)) ?_
  have hg' : entOw G[i]? = some (.dT (kt m)) := by rw [hg]; rfl
  obtain ⟨y, e1, ⟨ks, o1, o2⟩, _, wr⟩ := c.slot hl hg'
  refine ⟨y, .dT ks, o1, True.intro, fun od => ?_⟩
  have c1 := wr (.frz od (.dT ks)) (.lkT y od ks (kt m)) ⟨rfl, upd_same, o2⟩
  rw [setOw_ow hg] at c1
  obtain ⟨I, i0, iG, step, fin⟩ := h y od ks
  refine ⟨.ref y, e1, y, od, rfl, .inr ⟨ks, upd_same, ?_⟩⟩
  have hlen : ks.length = m.length := pt_len o2
  refine ⟨fun j n s' H' => n = m.length - j ∧ j ≤ m.length ∧ s'.length = s.length ∧ ∃ F G, Conf X.K B (t ++ s') F H' (z ++ G) ∧ I j G, ⟨m.length, by simp, Nat.zero_le _, rfl, F, _, c1, i0⟩, ?_⟩
  rintro j n s1 H1 ⟨rfl, hj, hs1, F1, G1, c2, ii⟩
  have ig := iG j G1 ii
  obtain ⟨v, q1, a', q2, ⟨q3, q4, q5⟩, _⟩ := c2.at (i := z.length + i) (by rw [get_app]; exact ig)
  subst q2
  subst q3
  by_cases hlt : j < m.length
  · refine .inr ⟨⟨q4, by omega⟩, fun s' H' => s'.length = s.length ∧ ∃ F G, Conf X.K B (t ++ s') F H' (z ++ G) ∧ I (j + 1) G, fun s' H' ⟨h1, F, G, h3, h4⟩ => ⟨m.length - (j + 1), by omega, rfl, hlt, h1, F, G, h3, h4⟩, fun x H2 yl => ?_⟩
    obtain ⟨eH, k0, v0, q0, hk, ex, hq⟩ := yl
    subst eH ex
    obtain ⟨p0, hp, ek, _⟩ := pt_at q5 hk
    subst ek
    rw [ik_kV] at hq
    obtain ⟨F2, sm, hF2, c3⟩ := c2.tupF hq
    refine step j p0 G1 hp ii t s1 z F2 _ _ _ hl (c3.fz (.tp hF2 (dps_ints _))) trivial fun s3 F3 H3 G3 hs3 _ c4 q6 => ?_
    exact q6 t s3 z F3 H3 _ hl c4 ⟨fun s' F' H' G' e c' q => ⟨by rw [e, hs3, hs1], F', G', c', q⟩, fun v s' F' H' r G' c' ir q => q.elim, fun s' F' H' G' e c' q => q.elim, fun s' F' H' G' e c' q => ⟨by rw [e, hs3, hs1], F', G', c', q⟩⟩
  · have e : j = m.length := by omega
    subst e
    refine .inl ⟨⟨q4, by rw [hlen]; exact Nat.le_refl _⟩, q4, ?_⟩
    obtain ⟨y', e1', _, _, wr2⟩ := c2.slot (o := .lkT a' od ks (kt m)) hl (by rw [ig]; rfl)
    have ey : y' = a' := by
      rw [← hl, get_app] at q1
      rw [q1] at e1'; cases e1'; rfl
    subst ey
    have c5 := wr2 (.dT ks) (.dT (kt m)) ⟨ks, upd_same, q5⟩
    rw [setOw_ow ig] at c5
    exact kk.nx s1 F1 _ _ hs1 c5 (fin G1 ii)
end
end J

namespace J
open PySem PySem.Spec L2 PyProof.Rows
theorem tuple_mul1 (l : Addr) (items : Array Value) (n : Nat) (dd : Option Addr) (sl : Array (Option Value)) (u : Tok) :
    Meets (Builtin.«tuple.__mul__» ⟨[.ref l, .int 1 u], []⟩) (fun _ R s => s.heap.get? l = some { cls := .type "tuple", dict := dd, data := .seq items n, slots := sl } ∧ R (.ok (.ret (Value.ref l))) s) :=
  .of_wp fun prog w A R s h => by
    obtain ⟨hp, g, d, tk, os⟩ := s
    obtain ⟨hl, h⟩ := h
    have f1 := AutoSeq1.idx_int
    wp_walk using wpAny_loadPart' hl
    exact ⟨_, rfl, h⟩
def rRep1 (K : PySem.W.Frag) : R2 := fun x y H Q => ∃ l xs, x = .ref l ∧ y = .int 1 ∧ SqT K H l xs ∧ Q (.ref l) H
theorem op_rep1 {X : Cx} : OpR X (binaryOp .Mult) (rRep1 X.K) := by
  intro pins s σ H x y v u Q I rx ry h
  obtain ⟨l, xs, rfl, rfl, hT, q⟩ := h
  cases rx
  obtain ⟨t, rfl⟩ := ry
  obtain ⟨its, r, ⟨⟨cls, dd, data, sl⟩, ho, hc, n, hd⟩, hs⟩ := I.tuple hT
  simp only at hc hd
  subst hc hd
  refine wpAny_binaryOp_repeat_ref (T := "tuple") (U := "int") (by decide) ⟨_, ho, rfl⟩ (fun s' => typeIs_int s' 1 t) noFill_tuple_mul F.fills_int_mul F.slot_int_rmul repeat_tuple F.slot_int_index.lookup
    (call_meets F.slot_int_rmul (typeIs_int s 1 t) F.entry_int_rmul (F.args_int_rmul_2 _ _) (int_rmul_tuple 1 t l its.toArray n dd sl)
      ⟨ho, rfl, ⟨_, ho, rfl⟩, call_meets F.slot_tuple_mul ⟨_, ho, rfl⟩ F.entry_tuple_mul (F.args_tuple_mul_2 _ _) (tuple_mul1 l its.toArray n dd sl t) ⟨ho, ?_⟩⟩)
  exact ⟨.ref l, H, I, rfl, q⟩
section
variable {P : Program} {w : World} {K : PySem.W.Frag} {mg : Str → Option Value} {base : Heap} {S : Sc} {k : Nat} {X : Cx} {B : Bs} {E : XW} {G : List Ent} {a b e : Expr} {pos : Pos}
theorem OpR.or {op : Value → Value → Sem Value} {r r' : R2} (h : OpR X op r) (h' : OpR X op r') : OpR X op (fun x y H Q => r x y H Q ∨ r' x y H Q) := by
  intro pins s σ H x y v u Q I rx ry q
  rcases q with q | q
  · exact h pins s σ H x y v u Q I rx ry q
  · exact h' pins s σ H x y v u Q I rx ry q
/-- (e, ..) * n, one time at least: a new tuple, or the one handed in -/
theorem jv_repP {Q : D → List Ent → Prop} (h : JV X B a G fun d1 G1 => JV X B b G1 fun d2 G2 => ∃ ds n, d1 = .tp ds ∧ d2 = .int n ∧ ds ≠ [] ∧ 1 ≤ n ∧ n ≤ 1000 ∧ ds.length ≤ 1000 ∧ Q (.tp (List.replicate n.toNat ds).flatten) G2) : JV X B (.BinOp a .Mult b pos) G Q := fun t s z F H VQ hl c q =>
  tS_of (pe_op (OpR.or op_repT op_rep1) pe_sem pe_sem) (run2 h hl c fun v u F' H' d1 d2 G' c' ⟨ds, n, e1, e2, h0, h1, h2, hz, hq⟩ => by
    subst e1 e2
    have sm := c'.fh
    cases c'.top
    cases c'.pop.top with
    | @tp l xs _ h3 h4 =>
      by_cases z : n = 1
      · subst z
        refine .inr ⟨l, xs, rfl, rfl, .inl (.inl (sm _ _ h3)), q (.ref l) _ _ _ G' c'.pop ?_⟩
        have e : (List.replicate (1 : Int).toNat ds).flatten = ds := by
          show (List.replicate 1 ds).flatten = ds
          simp
        rw [e] at hq
        exact hq
      · refine .inl ⟨_, n, _, rfl, rfl, .inl (.inl (sm _ _ h3)), fun z => ?_, by omega, h2, by rw [h4.length]; exact hz, fun p np => ?_⟩
        · subst z; cases h4; exact h0 rfl
        · exact q (.ref p) _ _ _ G' (c'.pop.pop.newP np (pflat (prep h4 _))) hq)
end
end J

namespace J
open PySem PySem.Spec L2
/-! ## things within an own list: each stands in a slot whose name no text has -/
theorem Inv.ghostE {X : Cx} {pins : List (Addr × Obj)} {s s' : St} {H : Hp} {sh : Shared} (I : L2.Inv X pins s H sh) (hl : s'.length = s.length) (h : ∀ (i : Nat) (x : Str), X.N[i]? = some x → Vis X.env.scope x → s'[i]? = s[i]?) : L2.Inv X pins s' H sh :=
  { I with
    loc := by
      obtain ⟨m, h1, h2⟩ := I.loc
      exact ⟨m, h1, fun i x v hN hs hv => h2 i x v hN (by rw [← h i x hN hv]; exact hs) hv⟩
    len := by rw [hl]; exact I.len }
/-- slots that no name of the text stands for -/
def Ghost (X : Cx) (gs : List Nat) : Prop := ∀ g ∈ gs, ∀ x, X.N[g]? = some x → ¬ Vis X.env.scope x
def SameBut (gs : List Nat) (s s' : St) : Prop := s'.length = s.length ∧ ∀ i : Nat, i ∉ gs → s'[i]? = s[i]?
theorem Ghost.inv {X : Cx} {gs : List Nat} (hg : Ghost X gs) {pins : List (Addr × Obj)} {s s' : St} {H : Hp} {sh : Shared} (sb : SameBut gs s s') (I : L2.Inv X pins s H sh) : L2.Inv X pins s' H sh :=
  Inv.ghostE I sb.1 fun i x hN hv => sb.2 i fun hi => hg i hi x hN hv
theorem tSt_ghost {X : Cx} {gs : List Nat} (hg : Ghost X gs) {st : Stmt} {De : Ends} {s : St} {H : Hp} (h : tSt X st { De with nx := fun s1 H1 => ∃ s2, SameBut gs s1 s2 ∧ De.nx s2 H1 } s H) : tSt X st De s H := fun pins sh I => by
  refine thn (h pins sh I) fun f s1 q => ?_
  cases f with
  | next => obtain ⟨s', H', I2, s2, sb, q⟩ := q; exact ⟨s2, H', hg.inv sb I2, q⟩
  | brk => exact q
  | cont => exact q
  | ret v => exact q
/-- the names that are no names of the text -/
def Sc.noName (S : Sc) (gs : List Nat) : Bool := gs.all fun g => match S.N[g]? with
  | some x => match S.sc.names.lookup x with
    | some .local => false
    | some .cell => false
    | some .free => false
    | _ => true
  | none => true
section
variable {P : Program} {w : World} {K : PySem.W.Frag} {mg : Str → Option Value} {base : Heap} {S : Sc} {k : Nat} {X : Cx} {B : Bs} {E : XW} {G : List Ent} {a b e f o tg : Expr} {es : List Expr} {sts : List Stmt} {D : Dn} {pos p apos cp : Pos} {x : Str}
theorem CJ.ghost (cj : CJ P w K mg base S k X B E) {gs : List Nat} (h : S.noName gs = true) : Ghost X gs := fun g hg x hN hv => by
  have := List.all_eq_true.mp h g hg
  rw [cj.hN] at hN
  rw [hN] at this
  rw [cj.hsc] at hv
  rcases hv with hv | hv | hv <;> (simp only [hv] at this; cases this)
/-- an own list of lists, by their addresses -/
abbrev RL := List (Addr × List J.D)
def refD (p : Addr × List J.D) : J.D := .raw (.ref p.1)
def rowE (p : Addr × List J.D) : Ent := .ow (.lsA p.1 p.2)
theorem dps_refs {F : Hp} : ∀ (acc : RL), DPs K F (acc.map fun p => V.ref p.1) (acc.map refD)
  | [] => .nil
  | p :: acc => .cons (.raw _) (dps_refs acc)
theorem refs_of {F : Hp} : ∀ {acc : RL} {xs : List V}, DPs K F xs (acc.map refD) → xs = acc.map fun p => V.ref p.1
  | [], _, h => by cases h; rfl
  | p :: acc, _, h => by
    cases h with
    | cons r t =>
      cases r
      rw [refs_of t]; rfl
/-- an own list is told with its address -/
theorem Conf.pinL {F H : Hp} {s : St} {g : List Ent} {a : Addr} {ds : List J.D} (c : Conf K B (some (.ref a) :: s) F H (.ow (.lst ds) :: g)) : Conf K B (some (.ref a) :: s) F H (.ow (.lsA a ds) :: g) := by
  cases c.env with
  | cons q t =>
    obtain ⟨a', e, ⟨xs, h1, h2⟩, n⟩ := q
    cases e
    exact ⟨c.fh, c.ff, c.keep, c.there, c.old, .cons ⟨a, rfl, ⟨rfl, xs, h1, h2⟩, n⟩ t, c.nd, c.own⟩
/-- the rows in the ghost slots, the last one of the list first -/
def gS (gb : Nat) : RL → St → St
  | [], s => s
  | p :: l, s => gS gb l (s.set (gb + l.length) (some (.ref p.1)))
def gG (gb : Nat) : RL → List Ent → List Ent
  | [], G => G
  | p :: l, G => gG gb l (G.set (gb + l.length) (rowE p))
theorem Conf.ghosts {F H : Hp} {gb : Nat} : ∀ {l : RL} {t s : St} {z G : List Ent}, t.length = z.length → Conf K B ((l.map fun p => some (V.ref p.1)) ++ (t ++ s)) F H (l.map rowE ++ (z ++ G)) → Conf K B (t ++ gS gb l s) F H (z ++ gG gb l G)
  | [], _, _, _, _, _, c => c
  | p :: l, t, s, z, G, hl, c => by
    have hl2 : ((l.map fun p => some (V.ref p.1)) ++ t).length = (l.map rowE ++ z).length := by simp [hl]
    have c1 : Conf K B (some (V.ref p.1) :: (((l.map fun p => some (V.ref p.1)) ++ t) ++ s)) F H (rowE p :: ((l.map rowE ++ z) ++ G)) := by simpa [List.append_assoc] using c
    have c2 := c1.store (i := gb + l.length) hl2
    refine Conf.ghosts (l := l) hl ?_
    simpa [List.append_assoc] using c2
theorem gS_same {gb : Nat} : ∀ (l : RL) (s : St), (gS gb l s).length = s.length ∧ ∀ i : Nat, (i < gb ∨ gb + l.length ≤ i) → (gS gb l s)[i]? = s[i]?
  | [], s => ⟨rfl, fun _ _ => rfl⟩
  | p :: l, s => by
    obtain ⟨h1, h2⟩ := gS_same l (s.set (gb + l.length) (some (.ref p.1)))
    refine ⟨by show (gS gb l _).length = _; rw [h1, List.length_set], fun i hi => ?_⟩
    show (gS gb l _)[i]? = _
    rw [List.length_cons] at hi
    rw [h2 i (by omega), List.getElem?_set_ne (by omega)]
/-- a comprehension whose every turn makes an own list -/
def LcN (n : Nat) (item : Nat → J.D → Prop) (CJX : Cx → Prop) (B : Bs) (S' : Sc) (tg elt : Expr) (G : List Ent) (Q : RL → List Ent → Prop) : Prop :=
  n ≤ sizeLine ∧ ∃ (V : Nat → List J.D → Prop) (I : List Ent → Prop), I (wipeE G S'.li) ∧
    (∀ i d G2, i < n → item i d → I G2 → ∀ X1, CJX X1 → JG X1 B S'.li tg (.fz d) G2 fun G3 => ∀ X3, CJX X3 → JE X3 B elt G3 fun r G5 => ∃ ds, r = .ow (.lst ds) ∧ V i ds ∧ I (wipeE G5 S'.li)) ∧
    (∀ acc G2, acc.length = n → (∀ (i : Nat) p, acc[i]? = some p → V i p.2) → I G2 → Q acc G2)
theorem lc_runN (cj : CJ P w K mg base S k X B E) {elt iter : Expr} {scope : Scope} (S' : Sc) (so : ScOk S S' scope) {Q : RL → List Ent → Prop}
    (h : JI X B tg iter G fun n item G1 => LcN n item (fun X' => CJ P w K mg base S' k X' B XW.non) B S' tg elt G1 Q) {t s : St} {z : List Ent} {F H : Hp} {VQ : VK} (hl : t.length = z.length) (c : Conf X.K B (t ++ s) F H (z ++ G))
    (q : ∀ p F' H' acc G', Conf X.K B (some (V.ref p) :: ((acc.reverse.map fun r => some (V.ref r.1)) ++ (t ++ s))) F' H' (Ent.ow (.lst (acc.map refD)) :: (acc.reverse.map rowE ++ (z ++ G'))) → Q acc G' → VQ (V.ref p) H') :
    tLc (tIt X tg iter) (gB X scope tg) (pB X scope []) (eB X scope elt) S'.li s H VQ :=
  h t s z F H _ hl c fun Jt n hv he item F1 H1 G1 hlv wd c1 ⟨hn, VV0, I, i0, step, fin⟩ => fun D hD => by
    obtain ⟨hN, hsc, hok, hfn⟩ := so
    have slen : s.length = G1.length := by
      have := c1.len
      simp only [List.length_append] at this
      omega
    have c2 : Conf X.K B ((hv ++ t) ++ s) F1 H1 ((he ++ z) ++ G1) := by simpa [List.append_assoc] using c1
    have c3 := (c2.wipe (by simp [hl, hlv]) S'.li).newL (vs := []) (ds := []) hD .nil
    have c4 : Conf X.K B (hv ++ ([some (V.ref D)] ++ (t ++ L2.wipe s S'.li))) F1 (upd H1 D (.lst [])) (he ++ ([Ent.ow (.lst [])] ++ (z ++ wipeE G1 S'.li))) := by
      have : Conf X.K B ([some (V.ref D)] ++ (hv ++ (t ++ L2.wipe s S'.li))) F1 (upd H1 D (.lst [])) ([Ent.ow (.lst [])] ++ (he ++ (z ++ wipeE G1 S'.li))) := by simpa [List.append_assoc] using c3
      exact this.rot rfl hlv
    refine ⟨fun i m H => m = n - i ∧ i ≤ n ∧ ∃ F G acc, acc.length = i ∧ (∀ (j : Nat) p, acc[j]? = some p → VV0 j p.2) ∧ G.length = s.length ∧ (∀ j, j ∈ S'.li → j < G.length → G[j]? = some Ent.no) ∧ Conf X.K B (hv ++ ([some (V.ref D)] ++ ((acc.reverse.map fun r => some (V.ref r.1)) ++ (t ++ L2.wipe s S'.li)))) F H (he ++ ([Ent.ow (.lst (acc.map refD))] ++ (acc.reverse.map rowE ++ (z ++ G)))) ∧ I G,
      ⟨n, by simp, Nat.zero_le _, F1, _, [], rfl, fun j p hp => by simp at hp, by rw [wipeE_len]; exact slen.symm, fun j hj hlt => wipeE_no hj (by rw [wipeE_len] at hlt; exact hlt), c4, i0⟩, ?_⟩
    rintro i m H2 ⟨rfl, hi, F2, G2, acc, hacc, hV, gl, gno, c5, ii⟩
    have tl : (hv ++ ([some (V.ref D)] ++ ((acc.reverse.map fun r => some (V.ref r.1)) ++ t))).length = (he ++ ([Ent.ow (.lst (acc.map refD))] ++ (acc.reverse.map rowE ++ z))).length := by simp [hlv, hl]
    by_cases hlt : i < n
    · refine .inr ⟨wd.goes i _ F2 H2 _ hlt c5, fun H => ∃ F G acc, acc.length = i + 1 ∧ (∀ (j : Nat) p, acc[j]? = some p → VV0 j p.2) ∧ G.length = s.length ∧ (∀ j, j ∈ S'.li → j < G.length → G[j]? = some Ent.no) ∧ Conf X.K B (hv ++ ([some (V.ref D)] ++ ((acc.reverse.map fun r => some (V.ref r.1)) ++ (t ++ L2.wipe s S'.li)))) F H (he ++ ([Ent.ow (.lst (acc.map refD))] ++ (acc.reverse.map rowE ++ (z ++ G)))) ∧ I G, fun H' ⟨F, G, acc, a1, a2, a3, a4, a5, a6⟩ => ⟨n - (i + 1), by omega, rfl, hlt, F, G, acc, a1, a2, a3, a4, a5, a6⟩, fun x H3 y => ?_⟩
      obtain ⟨F3, d, hd, c6⟩ := wd.yields i x _ F2 H2 _ H3 hlt c5 y
      intro s0 H0 C cl fp
      refine step i d G2 hlt hd ii _ (cj.blk hN hsc hok hfn s0 H0 C cl fp) (hv ++ ([some (V.ref D)] ++ ((acc.reverse.map fun r => some (V.ref r.1)) ++ t))) (L2.wipe s S'.li) (he ++ ([Ent.ow (.lst (acc.map refD))] ++ (acc.reverse.map rowE ++ z))) F3 H3 x _ tl (by simpa [List.append_assoc] using c6) trivial fun s4 F4 H4 G4 hs4 ho4 c7 q4 => ?_
      have hs4' : s4.length = s.length := by rw [hs4, wipe_length]
      have ws : L2.wipe s4 S'.li = L2.wipe s S'.li := wipe_same hs4' ho4
      refine ⟨ws, fun s0 H0 C cl fp => ?_⟩
      refine JTs.nil (B := B) (G := G4) (X := X.blk s0 H0 scope (compEnvC scope cl C X.env) fp) (Q := fun bb G' => bb = true ∧ G' = G4) ⟨rfl, rfl⟩ (hv ++ ([some (V.ref D)] ++ ((acc.reverse.map fun r => some (V.ref r.1)) ++ t))) s4 (he ++ ([Ent.ow (.lst (acc.map refD))] ++ (acc.reverse.map rowE ++ z))) F4 H4 _ tl c7 fun bb F5 H5 G5 c8 ⟨eb, eG⟩ => ?_
      subst eb eG
      rw [if_pos rfl]
      intro s0 H0 C cl fp
      refine q4 _ (cj.blk hN hsc hok hfn s0 H0 C cl fp) (hv ++ ([some (V.ref D)] ++ ((acc.reverse.map fun r => some (V.ref r.1)) ++ t))) s4 (he ++ ([Ent.ow (.lst (acc.map refD))] ++ (acc.reverse.map rowE ++ z))) F5 H5 _ tl c8 fun y F6 H6 r G6 c9 ir q6 => ?_
      obtain ⟨ds, er, hds, q6⟩ := q6
      subst er
      obtain ⟨v0, ev, y0, ey, _, _⟩ := c9.at (i := 0) rfl
      cases ev
      cases ey
      have c9 := c9.pinL
      -- the list stands at D as it was left
      have ig : (Ent.ow (.lsA y0 ds) :: ((he ++ ([Ent.ow (.lst (acc.map refD))] ++ (acc.reverse.map rowE ++ z))) ++ G6))[he.length + 1]? = some (Ent.ow (.lst (acc.map refD))) := by simp
      have is : (some (V.ref y0) :: ((hv ++ ([some (V.ref D)] ++ ((acc.reverse.map fun r => some (V.ref r.1)) ++ t))) ++ s4))[he.length + 1]? = some (some (V.ref D)) := by rw [← hlv]; simp
      obtain ⟨v, e1, a, e2, ⟨xs, o1, o2⟩, _⟩ := c9.at ig
      have is' := is
      rw [e1] at is'
      cases is'
      cases e2
      have ex := refs_of o2
      subst ex
      refine ⟨_, o1, by rw [List.length_map]; omega, ?_⟩
      have cw := c9.write (i := he.length + 1) (ho := .lst ((acc.map fun p => V.ref p.1) ++ [V.ref y0])) (o' := .lst ((acc ++ [(y0, ds)]).map refD)) ig is ⟨_, upd_same, by rw [List.map_append]; exact papp o2 (.cons (.raw _) .nil)⟩
      have es : (Ent.ow (.lsA y0 ds) :: ((he ++ ([Ent.ow (.lst (acc.map refD))] ++ (acc.reverse.map rowE ++ z))) ++ G6)).set (he.length + 1) (Ent.ow (.lst ((acc ++ [(y0, ds)]).map refD))) = Ent.ow (.lsA y0 ds) :: ((he ++ ([Ent.ow (.lst ((acc ++ [(y0, ds)]).map refD))] ++ (acc.reverse.map rowE ++ z))) ++ G6) := by simp
      rw [es] at cw
      -- the new list goes to the others
      have cr : Conf X.K B ((hv ++ [some (V.ref D)]) ++ ([some (V.ref y0)] ++ ((acc.reverse.map fun r => some (V.ref r.1)) ++ (t ++ s4)))) F6 (upd H6 D (.lst ((acc.map fun p => V.ref p.1) ++ [V.ref y0]))) ((he ++ [Ent.ow (.lst ((acc ++ [(y0, ds)]).map refD))]) ++ ([Ent.ow (.lsA y0 ds)] ++ (acc.reverse.map rowE ++ (z ++ G6)))) := by
        refine Conf.rot (a := [some (V.ref y0)]) (a' := [Ent.ow (.lsA y0 ds)]) rfl (by simp [hlv]) ?_
        simpa [List.append_assoc] using cw
      have gl' : s4.length = G6.length := by
        have := cr.len
        simp only [List.length_append, List.length_cons, List.length_nil, List.length_map] at this
        omega
      have tl' : (hv ++ ([some (V.ref D)] ++ (([some (V.ref y0)] ++ (acc.reverse.map fun r => some (V.ref r.1))) ++ t))).length = (he ++ ([Ent.ow (.lst ((acc ++ [(y0, ds)]).map refD))] ++ (([Ent.ow (.lsA y0 ds)] ++ acc.reverse.map rowE) ++ z))).length := by simp [hlv, hl]
      have cr2 : Conf X.K B ((hv ++ ([some (V.ref D)] ++ (([some (V.ref y0)] ++ (acc.reverse.map fun r => some (V.ref r.1))) ++ t))) ++ s4) F6 (upd H6 D (.lst ((acc.map fun p => V.ref p.1) ++ [V.ref y0]))) ((he ++ ([Ent.ow (.lst ((acc ++ [(y0, ds)]).map refD))] ++ (([Ent.ow (.lsA y0 ds)] ++ acc.reverse.map rowE) ++ z))) ++ G6) := by simpa [List.append_assoc] using cr
      have cw2 := cr2.wipe tl' S'.li
      rw [ws] at cw2
      refine ⟨F6, wipeE G6 S'.li, acc ++ [(y0, ds)], by simp [hacc], fun j p hp => ?_, by rw [wipeE_len, ← gl', hs4'], fun j hj hlt => wipeE_no hj (by rw [wipeE_len] at hlt; exact hlt), ?_, q6⟩
      · by_cases hj : j < acc.length
        · rw [List.getElem?_append_left hj] at hp
          exact hV j p hp
        · rw [List.getElem?_append_right (by omega)] at hp
          have : j - acc.length = 0 := by
            cases hh : j - acc.length with
            | zero => rfl
            | succ m => rw [hh] at hp; simp at hp
          rw [this] at hp
          cases hp
          have : j = i := by omega
          subst this; exact hds
      · have er : (acc ++ [(y0, ds)]).reverse = (y0, ds) :: acc.reverse := by simp
        rw [er]
        simpa [List.append_assoc, rowE] using cw2
    · have e : i = n := by omega
      subst e
      refine .inl ⟨wd.stops _ F2 H2 _ c5, ?_⟩
      have c7 : Conf X.K B (some (V.ref D) :: ((acc.reverse.map fun r => some (V.ref r.1)) ++ (t ++ L2.wipe s S'.li))) F2 H2 (Ent.ow (.lst (acc.map refD)) :: (acc.reverse.map rowE ++ (z ++ G2))) := by
        have dropM : ∀ {hv : St} {he : List Ent} {u : St} {g : List Ent}, hv.length = he.length → Conf X.K B (hv ++ u) F2 H2 (he ++ g) → Conf X.K B u F2 H2 g := by
          intro hv
          induction hv with
          | nil => intro he u g hl c; cases he with
            | nil => exact c
            | cons _ _ => simp at hl
          | cons v hv ih => intro he u g hl c; cases he with
            | nil => simp at hl
            | cons e he => exact ih (by simpa using hl) c.pop
        exact dropM hlv c5
      refine q D F2 H2 acc G2 ?_ (fin acc G2 hacc hV ii)
      have c8 : Conf X.K B ((some (V.ref D) :: ((acc.reverse.map fun r => some (V.ref r.1)) ++ t)) ++ L2.wipe s S'.li) F2 H2 ((Ent.ow (.lst (acc.map refD)) :: (acc.reverse.map rowE ++ z)) ++ G2) := by simpa [List.append_assoc] using c7
      have c9 : Conf X.K B ((some (V.ref D) :: ((acc.reverse.map fun r => some (V.ref r.1)) ++ t)) ++ s) F2 H2 ((Ent.ow (.lst (acc.map refD)) :: (acc.reverse.map rowE ++ z)) ++ G2) := by
        refine c8.slots (by simp [wipe_length]) fun j => ?_
        have hl3 : (some (V.ref D) :: ((acc.reverse.map fun r => some (V.ref r.1)) ++ t)).length = (Ent.ow (.lst (acc.map refD)) :: (acc.reverse.map rowE ++ z)).length := by simp [hl]
        by_cases hj : j < (some (V.ref D) :: ((acc.reverse.map fun r => some (V.ref r.1)) ++ t)).length
        · exact .inl (by rw [List.getElem?_append_left hj, List.getElem?_append_left hj])
        · rw [List.getElem?_append_right (by omega), List.getElem?_append_right (by omega), List.getElem?_append_right (by omega), hl3]
          by_cases hm : j - (Ent.ow (.lst (acc.map refD)) :: (acc.reverse.map rowE ++ z)).length ∈ S'.li
          · by_cases hlt2 : j - (Ent.ow (.lst (acc.map refD)) :: (acc.reverse.map rowE ++ z)).length < G2.length
            · exact .inr (gno _ hm hlt2)
            · exact .inl (by rw [List.getElem?_eq_none (by rw [wipe_length]; omega), List.getElem?_eq_none (by omega)])
          · exact .inl (wipe_out' hm)
      simpa [List.append_assoc] using c9
def ghs (S : Sc) (gb : Nat) : List Nat := (List.range (S.N.length - gb)).map fun j => gb + j
/-- name = [.. for ..] on one line, the turns' lists in the ghost slots from gb on -/
theorem js_setLcN (cj : CJ P w K mg base S k X B E) (i gb : Nat) {elt iter : Expr} {scope : Scope} {py sp : Pos} (vi li : List Nat) (gl : List Str) (own : List (Str × Nat)) {Dd : Dn}
    (h : JI X B tg iter G fun n item G1 => n + gb ≤ S.N.length ∧ LcN n item (InB P w K mg base (blkSc S scope vi li gl) k B) B (blkSc S scope vi li gl) tg elt G1 fun acc G2 => Dd.nx (gG gb acc.reverse (G2.set i (.ow (.lst (acc.map refD))))))
    (hgs : S.noName (ghs S gb) = true := by decide +kernel)
    (so : (blkSc S scope vi li gl).ok = true := by decide +kernel) (fo : blkFn (blkSc S scope vi li gl) scope = true := by decide +kernel)
    (bo : blkC S.N S.sc scope own = true := by decide +kernel) (hyl : S.sc.names.lookup x = some .local := by decide +kernel) (hsw : swB S.sc scope x (py.line == pos.line) = true := by decide +kernel)
    (hN : S.N[i]? = some x := by rfl) (ho : own.map (·.2) = li := by rfl) (hs : ∀ x, foldedSetIterable iter X.env x = pure x := by intro _; rfl) :
    JS X B (.Assign [.Name x py] (.ListComp elt [⟨tg, iter, [], 0⟩] scope pos) sp) G Dd := fun t s z F H De hl c kk => by
  have bo' : BlkOk X.N X.env.scope scope own := by rw [cj.hN, cj.hsc]; exact blkOk_by bo
  refine tSt_ghost (cj.ghost hgs) ?_
  refine tSt_of (ps_setLc cj.calm cj.nd (cj.xN hN) (by rw [cj.hsc]; exact hyl) (by rw [swaps_eq cj.hsc, hsw]) pi_sem bo' gB_ok pB_ok eB_ok hs) ?_
  rw [ho]
  have h2 : JI X B tg iter G fun n item G1 => LcN n item (fun X' => CJ P w K mg base (blkSc S scope vi li gl) k X' B XW.non) B (blkSc S scope vi li gl) tg elt G1 fun acc G2 => acc.length + gb ≤ S.N.length ∧ Dd.nx (gG gb acc.reverse (G2.set i (.ow (.lst (acc.map refD))))) := fun t s z F H R hl c q =>
    h t s z F H R hl c fun J n hv he item F' H' G' e wd c' ⟨hn, a1, V, I, a2, a3, a4⟩ => q J n hv he item F' H' G' e wd c' ⟨a1, V, I, a2, a3, fun acc G2 b1 b2 b3 => ⟨by omega, a4 acc G2 b1 b2 b3⟩⟩
  exact lc_runN cj (blkSc S scope vi li gl) ⟨rfl, rfl, so, fo⟩ h2 hl c fun p' F' H' acc G' c' ⟨hn, hq⟩ => by
    obtain ⟨g1, g2⟩ := gS_same (gb := gb) acc.reverse (s.set i (some (.ref p')))
    refine ⟨gS gb acc.reverse (s.set i (some (.ref p'))), ⟨g1, fun j hj => g2 j ?_⟩, ?_⟩
    · rw [List.length_reverse]
      by_cases z1 : j < gb
      · exact .inl z1
      · refine .inr ?_
        apply Classical.byContradiction
        intro z2
        exact hj (List.mem_map.mpr ⟨j - gb, List.mem_range.mpr (by omega), by omega⟩)
    · refine kk.nx _ F' H' _ (by rw [g1, List.length_set]) ?_ hq
      have hl2 : ((acc.reverse.map fun r => some (V.ref r.1)) ++ t).length = (acc.reverse.map rowE ++ z).length := by simp [hl]
      have c1 : Conf X.K B (some (V.ref p') :: (((acc.reverse.map fun r => some (V.ref r.1)) ++ t) ++ s)) F' H' (Ent.ow (.lst (acc.map refD)) :: ((acc.reverse.map rowE ++ z) ++ G')) := by simpa [List.append_assoc] using c'
      have c2 := c1.store (i := i) hl2
      exact Conf.ghosts hl (by simpa [List.append_assoc] using c2)
/-- o[e], o an own list in a ghost slot -/
theorem jv_ixG {Q : J.D → List Ent → Prop} (h : JV X B o G fun d1 G1 => JV X B b G1 fun d2 G2 => ∃ (a : Addr) (g : Nat) (ds : List J.D) (j : Int) (d : J.D), d1 = .raw (.ref a) ∧ G2[g]? = some (.ow (.lsA a ds)) ∧ d2 = .int j ∧ atI ds j = some d ∧ Q d G2) (hs : PlainIx b := by exact fun _ _ => rfl) : JV X B (.Subscript o b pos) G Q := fun t s z F H VQ hl c q =>
  tS_of (pe_ix ix_list pe_sem pe_sem hs) (run2 h hl c fun v u F' H' d1 d2 G' c' ⟨a, g, ds, j, d, e1, hg, e2, ha, hq⟩ => by
    subst e1 e2
    cases c'.top
    cases c'.pop.top
    obtain ⟨y, _, ⟨ey, xs, o1, o2⟩, _⟩ := c'.pop.pop.slot (i := g) (o := .lsA a ds) hl (by rw [hg]; rfl)
    subst ey
    obtain ⟨v, h5, h6⟩ := atI_paired o2 ha
    exact ⟨y, xs, j, v, rfl, rfl, .of o1, h5, q v F' H' d G' (c'.pop.pop.fz h6) hq⟩)
/-- o[e] = v, o an own list in a ghost slot -/
theorem js_setixG {tp sp : Pos} {Dd : Dn} (h : JV X B e G fun d G1 => JV X B o G1 fun d1 G2 => JV X B b G2 fun d2 G3 => ∃ (a : Addr) (g : Nat) (ds : List J.D) (j : Int) (m : Nat), d1 = .raw (.ref a) ∧ G3[g]? = some (.ow (.lsA a ds)) ∧ d2 = .int j ∧ ixN ds.length j = some m ∧ Dd.nx (G3.set g (.ow (.lsA a (ds.set m d)))))
    (ha : ∀ v, assign (.Subscript o b tp) X.env v = (do
      let ov ← holding [v] (eval o X.env)
      let iv ← holding [v, ov] (eval b X.env)
      standAt tp
      holding [v, ov, iv] (setItem ov iv v)
      release [v, ov, iv] []) := by intro _; rfl)
    (hs : swapsWithSole [.Subscript o b tp] e sp.line X.env = pure false := by rfl) (hw : swappedStores [.Subscript o b tp] e X.env = pure none := by rfl)
    (h1 : (assignEach [.Subscript o b tp] X.env).map (·.2) = [assign (.Subscript o b tp) X.env] := by rfl) : JS X B (.Assign [.Subscript o b tp] e sp) G Dd := fun t s z F H De hl c kk => by
  refine tSt_of (ps_asg pe_sem (pg_sub pe_sem pe_sem set_list ha) hs hw h1) ?_
  refine h t s z F H _ hl c fun v F' H' d G1 c1 h2 => ?_
  refine h2 (some v :: t) s (.fz d :: z) F' H' _ (by simp [hl]) c1 fun u F2 H2 d1 G2 c2 h3 => ?_
  refine h3 (some u :: some v :: t) s (.fz d1 :: .fz d :: z) F2 H2 _ (by simp [hl]) c2 fun y F3 H3 d2 G3 c3 ⟨a, g, ds, j, m, e1, hg, e2, hm, hq⟩ => ?_
  subst e1 e2
  cases c3.top
  cases c3.pop.top
  have dp := c3.pop.pop.top
  obtain ⟨y2, _, ⟨ey, xs, o1, o2⟩, _, wr⟩ := c3.pop.pop.pop.slot (i := g) (o := .lsA a ds) hl (by rw [hg]; rfl)
  subst ey
  refine ⟨y2, xs, j, m, rfl, rfl, o1, by rw [o2.length]; exact hm, ?_⟩
  have c4 := wr (.lst (xs.set m v)) (.lsA y2 (ds.set m d)) ⟨rfl, _, upd_same, pset dp m o2⟩
  rw [setOw_ow hg] at c4
  exact kk.nx s F3 _ _ rfl c4 hq
/-- a row goes back into its list, frozen -/
theorem Conf.unghost {F H : Hp} {s : St} {g : List Ent} {i gi j : Nat} {ds row : List J.D} {a : Addr} (c : Conf K B s F H g) (hi : g[i]? = some (.ow (.lst ds))) (hg : g[gi]? = some (.ow (.lsA a row))) (hj : ds[j]? = some (.raw (.ref a))) :
    ∃ F', Same F F' ∧ Conf K B s F' H ((g.set gi .no).set i (.ow (.lst (ds.set j (.lst row))))) := by
  have ne : gi ≠ i := fun z => by subst z; rw [hi] at hg; cases hg
  obtain ⟨v, hv, b, ev, ⟨eb, _⟩, _⟩ := c.at hg
  subst ev eb
  obtain ⟨F2, sm, c2⟩ := c.freeze hg (d := .lst row) rfl
  have hgl : gi < g.length := (List.getElem?_eq_some_iff.mp hg).1
  obtain ⟨v2, hv2, x2, e2, dp⟩ := c2.at (i := gi) (List.getElem?_set_self hgl)
  rw [hv] at hv2
  cases hv2
  cases e2
  have c3 : Conf K B s F2 H ((g.set gi (.fz (.lst row))).set gi .no) := c2.forget
  rw [List.set_set] at c3
  have hi3 : (g.set gi Ent.no)[i]? = some (.ow (.lst ds)) := by rw [List.getElem?_set_ne ne]; exact hi
  refine ⟨F2, sm, c3.relE (e2 := .ow (.lst (ds.set j (.lst row)))) hi3 (fun v ⟨y, ey, ⟨xs, h1, h2⟩, n⟩ => ⟨y, ey, ⟨xs, h1, ?_⟩, n⟩) fun v => by
    cases v with
    | none => rfl
    | some y => cases y <;> rfl⟩
  obtain ⟨u, hu, du⟩ := pget h2 hj
  cases du
  have h5 := pset (F := DP K F2) (a := V.ref b) (b := D.lst row) dp j h2
  have e5 : xs.set j (V.ref b) = xs := by
    obtain ⟨hl, he⟩ := List.getElem?_eq_some_iff.mp hu
    rw [← he]; exact List.set_getElem_self hl
  rwa [e5] at h5
theorem JSs.unghost (i gi j : Nat) {ds row : List J.D} {a : Addr} (hi : G[i]? = some (.ow (.lst ds))) (hg : G[gi]? = some (.ow (.lsA a row))) (hj : ds[j]? = some (.raw (.ref a))) (h : JSs X B sts ((G.set gi .no).set i (.ow (.lst (ds.set j (.lst row))))) D) : JSs X B sts G D := fun t s z F H De hl c kk => by
  have hi' : (z ++ G)[z.length + i]? = some (.ow (.lst ds)) := by rw [get_app]; exact hi
  have hg' : (z ++ G)[z.length + gi]? = some (.ow (.lsA a row)) := by rw [get_app]; exact hg
  obtain ⟨F2, _, c2⟩ := c.unghost hi' hg' hj
  rw [set_app, set_app] at c2
  exact h t s z F2 H De hl c2 kk
end
end J

namespace J
open PySem PySem.Spec L2
theorem gG_eq {gb : Nat} : ∀ (l : RL) (pre rest : List Ent), pre.length = gb → l.length ≤ rest.length → gG gb l (pre ++ rest) = pre ++ (l.reverse.map rowE ++ rest.drop l.length)
  | [], pre, rest, _, _ => rfl
  | p :: l, pre, rest, hp, hl => by
    rw [List.length_cons] at hl
    show gG gb l ((pre ++ rest).set (gb + l.length) (rowE p)) = _
    rw [← hp, List.set_append_right _ _ (by omega), Nat.add_sub_cancel_left, hp, gG_eq l pre _ hp (by rw [List.length_set]; omega)]
    congr 1
    rw [List.reverse_cons, List.map_append, List.append_assoc, List.length_cons]
    congr 1
    rw [List.drop_set, if_neg (by omega), Nat.sub_self, List.drop_eq_getElem_cons (by omega : l.length < rest.length)]
    rfl
theorem gh_get {pre R : List Ent} {acc : RL} {k : Nat} {p : Addr × List D} (h : acc[k]? = some p) : (pre ++ (acc.map rowE ++ R))[pre.length + k]? = some (rowE p) := by
  rw [List.getElem?_append_right (by omega), Nat.add_sub_cancel_left, List.getElem?_append_left (by rw [List.length_map]; exact (List.getElem?_eq_some_iff.mp h).1), List.getElem?_map, h]; rfl
theorem gh_set {pre R : List Ent} {acc : RL} {k : Nat} {p q : Addr × List D} (h : acc[k]? = some p) : (pre ++ (acc.map rowE ++ R)).set (pre.length + k) (rowE q) = pre ++ ((acc.set k q).map rowE ++ R) := by
  have hk := (List.getElem?_eq_some_iff.mp h).1
  rw [List.set_append_right _ _ (by omega), Nat.add_sub_cancel_left, List.set_append_left _ _ (by rw [List.length_map]; exact hk), List.map_set]
theorem refs_set {acc : RL} {k : Nat} {p q : Addr × List D} (h : acc[k]? = some p) (e : q.1 = p.1) : (acc.set k q).map refD = acc.map refD := by
  rw [List.map_set]
  have h2 : (acc.map refD)[k]? = some (refD p) := by rw [List.getElem?_map, h]; rfl
  have : refD q = refD p := by unfold refD; rw [e]
  rw [this]
  obtain ⟨hl, he⟩ := List.getElem?_eq_some_iff.mp h2
  rw [← he]; exact List.set_getElem_self hl
section
variable {X : Cx} {B : Bs} {sts : List Stmt} {Dn' : Dn}
theorem JSs.unghosts (i : Nat) {pre R : List Ent} (hi : i < pre.length) : ∀ (todo done : RL), JSs X B sts (pre.set i (.ow (.lst ((done ++ todo).map fun p => .lst p.2))) ++ (List.replicate (done ++ todo).length .no ++ R)) Dn' →
    JSs X B sts (pre.set i (.ow (.lst (done.map (fun p => .lst p.2) ++ todo.map refD))) ++ (List.replicate done.length .no ++ (todo.map rowE ++ R))) Dn'
  | [], done, h => by simpa using h
  | p :: todo, done, h => by
    have hpl : (pre.set i (.ow (.lst (done.map (fun p => D.lst p.2) ++ (p :: todo).map refD)))).length = pre.length := List.length_set
    have h1 : (pre.set i (.ow (.lst (done.map (fun p => D.lst p.2) ++ (p :: todo).map refD))) ++ (List.replicate done.length Ent.no ++ ((p :: todo).map rowE ++ R)))[i]? = some (.ow (.lst (done.map (fun p => D.lst p.2) ++ (p :: todo).map refD))) := by
      rw [List.getElem?_append_left (by rw [hpl]; exact hi), List.getElem?_set_self hi]
    have h2 : (pre.set i (.ow (.lst (done.map (fun p => D.lst p.2) ++ (p :: todo).map refD))) ++ (List.replicate done.length Ent.no ++ ((p :: todo).map rowE ++ R)))[pre.length + done.length]? = some (.ow (.lsA p.1 p.2)) := by
      rw [List.getElem?_append_right (by rw [hpl]; omega), hpl, Nat.add_sub_cancel_left, List.getElem?_append_right (by simp)]
      simp [rowE]
    have h3 : (done.map (fun p => D.lst p.2) ++ (p :: todo).map refD)[done.length]? = some (.raw (.ref p.1)) := by
      rw [List.getElem?_append_right (by simp)]
      simp [refD]
    refine JSs.unghost i (pre.length + done.length) done.length h1 h2 h3 ?_
    have e : (((pre.set i (.ow (.lst (done.map (fun p => D.lst p.2) ++ (p :: todo).map refD))) ++ (List.replicate done.length Ent.no ++ ((p :: todo).map rowE ++ R))).set (pre.length + done.length) .no).set i (.ow (.lst ((done.map (fun p => D.lst p.2) ++ (p :: todo).map refD).set done.length (.lst p.2))))) = pre.set i (.ow (.lst ((done ++ [p]).map (fun p => D.lst p.2) ++ todo.map refD))) ++ (List.replicate (done ++ [p]).length Ent.no ++ (todo.map rowE ++ R)) := by
      rw [List.set_append_right _ _ (by rw [hpl]; omega), hpl, Nat.add_sub_cancel_left, List.set_append_left _ _ (by rw [hpl]; exact hi), List.set_set]
      congr 1
      · congr 3
        rw [List.set_append_right _ _ (by simp), List.length_map, Nat.sub_self]
        simp
      · rw [List.set_append_right _ _ (by simp), List.length_replicate, Nat.sub_self, List.length_append, List.length_singleton, List.replicate_succ', List.append_assoc]
        rfl
    rw [e]
    refine JSs.unghosts i hi todo (done ++ [p]) ?_
    simpa [List.append_assoc] using h
theorem bws_app : ∀ (a b : List Ent), bws (a ++ b) = bws a ++ bws b
  | [], _ => rfl
  | .no :: a, b => bws_app a b
  | .fz _ :: a, b => bws_app a b
  | .ow _ :: a, b => bws_app a b
  | .bw k o :: a, b => by show (k, o) :: bws (a ++ b) = (k, o) :: (bws a ++ bws b); rw [bws_app a b]
theorem bws_nos : ∀ n : Nat, bws (List.replicate n Ent.no) = []
  | 0 => rfl
  | n + 1 => bws_nos n
end
end J

namespace J
open PySem PySem.Spec L2 PyProof.Rows
/-- // by any divisor below 2 ^ 9000, not 0 -/
def CDivG (_ j : Int) : Prop := j ≠ 0 ∧ j.natAbs.log2 < 9000
theorem op_fdivG {X : Cx} : OpR X (binaryOp .FloorDiv) (rI CDivG fun i j => .int (i.fdiv j)) := opI fun i j _ _ _ _ _ hc q => floordiv_int hc.1 q (.inl (PyProof.noPylong_of_log2 hc.2))
section
variable {X : Cx} {B : Bs} {G : List Ent} {a b : Expr} {pos : Pos}
theorem jv_fdivG {Q : D → List Ent → Prop} (h : JV X B a G fun d1 G1 => JV X B b G1 fun d2 G2 => ∃ i j, d1 = .int i ∧ d2 = .int j ∧ CDivG i j ∧ Q (.int (i.fdiv j)) G2) : JV X B (.BinOp a .FloorDiv b pos) G Q :=
  jv_op2 op_fdivG (JV.imp h fun _ _ h => JV.imp h fun _ _ hh => by
    obtain ⟨i, j, e1, e2, c, q⟩ := hh
    subst e1 e2
    exact ⟨.int i, .int j, _, _, .int i, .int j, .int _, fun H VQ hq => ⟨i, j, rfl, rfl, c, hq⟩, q⟩)
end
end J

namespace J
open PySem PySem.Spec L2
section
variable {P : Program} {w : World} {K : PySem.W.Frag} {mg : Str → Option Value} {base : Heap} {S : Sc} {k : Nat} {X : Cx} {B : Bs} {E : XW} {G : List Ent} {a b e : Expr} {pos p : Pos} {x : Str}
/-- x[e] as a target, x an own list -/
theorem JG.setix (cj : CJ P w K mg base S k X B E) (i : Nat) {L : List Nat} {xp tp : Pos} {d : D} {Q : List Ent → Prop} (h : JV X B b G fun d2 G2 => ∃ ds j m, entOw G2[i]? = some (.lst ds) ∧ d2 = .int j ∧ ixN ds.length j = some m ∧ Q (setOw G2 i (.lst (ds.set m d)))) (hN : S.N[i]? = some x := by rfl) (hv : i ∈ S.vi := by decide) (hls : (entOw G[i]?).isSome = true := by rfl)
    (ha : ∀ v, assign (.Subscript (.Name x xp) b tp) X.env v = (do
      let ov ← holding [v] (eval (.Name x xp) X.env)
      let iv ← holding [v, ov] (eval b X.env)
      standAt tp
      holding [v, ov, iv] (setItem ov iv v)
      release [v, ov, iv] []) := by intro _; rfl) : JG X B L (.Subscript (.Name x xp) b tp) (.fz d) G Q := fun t s z F H v GQ hl c ir q => by
  have hn := okName_of (Sc.vis cj.ok hv hN).1
  refine tGt_of (pg_sub (pe_var (cj.xN hN) (cj.vis hv hN) hn.1 hn.2.1) pe_sem set_list ha) ?_
  obtain ⟨o0, h0⟩ := Option.isSome_iff_exists.mp hls
  obtain ⟨y, e1, _⟩ := c.pop.slot hl h0
  refine ⟨.ref y, e1, h (some v :: t) s (.fz d :: z) F H _ (by simp [hl]) c fun u F2 H2 d2 G2 c2 ⟨ds, j, m, g2, ed, hm, hq⟩ => ?_⟩
  subst ed
  cases c2.top
  obtain ⟨y2, e2, ⟨xs, h3, h4⟩, hF, wr⟩ := c2.pop.pop.slot hl g2
  rw [e1] at e2
  cases e2
  refine ⟨y, xs, j, m, rfl, rfl, h3, by rw [h4.length]; exact hm, ?_⟩
  exact q s F2 _ _ rfl (fun _ _ => rfl) (wr (.lst (xs.set m v)) (.lst (ds.set m d)) ⟨_, upd_same, pset c2.pop.top m h4⟩) hq
end
end J

namespace J
open PySem PySem.Spec L2
section
variable {P : Program} {w : World} {K : PySem.W.Frag} {mg : Str → Option Value} {base : Heap} {S : Sc} {k : Nat} {X : Cx} {B : Bs} {E : XW} {G : List Ent} {a b e : Expr} {pos p : Pos} {x : Str}
/-- a in x, x an own list at a slot -/
theorem jt_inOR {xp : Pos} (cj : CJ P w K mg base S k X B E) (i : Nat) {Q : Bool → List Ent → Prop} (h : JV X B a G fun d1 G1 => ∃ (n m : Nat) (ds : List D) (_ : Decidable (d1 ∈ ds)), entOw G1[i]? = some (.lst ds) ∧ Flat n d1 ∧ (∀ e ∈ ds, Flat m e) ∧ n ≤ 64 ∧ m + 1 ≤ 64 ∧ Q (decide (d1 ∈ ds)) G1) (hN : S.N[i]? = some x := by rfl) (hv : i ∈ S.vi := by decide) (hm : behindInMarks .In (.Name x xp) = false := by with_unfolding_all rfl) : JT X B (.Compare a [.In] [.Name x xp] pos) G Q :=
  jt_cmpOR cj i (op_inD cj.u65) hm (JV.imp h fun _ _ ⟨n, m, ds, _, e2, f, fs, l1, l2, q⟩ => ⟨ds, _, e2, relB_inD f fs l1 l2, q⟩) hN hv
end
end J

namespace J
open PySem PySem.Spec L2 PyProof.Rows
theorem perm_lift {α β : Type} {f : α → β} {out m : List β} (h : out.Perm m) : ∀ {l : List α}, m = l.map f → ∃ l' : List α, l'.Perm l ∧ out = l'.map f := by
  induction h with
  | nil => intro l e; exact ⟨l, List.Perm.refl _, e⟩
  | @cons x a b _ ih =>
    intro l e
    cases l with
    | nil => simp at e
    | cons y l =>
      rw [List.map_cons] at e
      injection e with e1 e2
      obtain ⟨l', p, q⟩ := ih e2
      exact ⟨y :: l', p.cons y, by rw [List.map_cons, e1, q]⟩
  | swap x y a =>
    intro l e
    match l, e with
    | u :: v :: l, e =>
      rw [List.map_cons, List.map_cons] at e
      injection e with e1 e2
      injection e2 with e2 e3
      exact ⟨v :: u :: l, List.Perm.swap _ _ _, by rw [List.map_cons, List.map_cons, e1, e2, e3]⟩
  | trans _ _ ih1 ih2 =>
    intro l e
    obtain ⟨l1, p1, q1⟩ := ih2 e
    obtain ⟨l2, p2, q2⟩ := ih1 q1
    exact ⟨l2, p2.trans p1, q2⟩
/-- sorted(d), d a dict with tuples of ints as keys -/
def rSortedDT (d : Nat) (B : Int) : List V → Hp → VK → Prop := fun xs H Q => ∃ (a : Addr) (kvs : List (List L2.Key × V)) (ks : List (List Int)), xs = [.ref a] ∧ Rd H a (.dT kvs) ∧ kvs.map (·.1) = ks.map ik ∧ ks.length < 64 ∧ (∀ k ∈ ks, k.length = d ∧ TS.Bd B k) ∧
  ∀ (L : List (Addr × List Int)) (p : Addr), (L.map (·.2)).Perm ks → (∀ q ∈ L, H q.1 = some (.tup (q.2.map V.int))) → L.Pairwise (fun q r => TS.code B q.2 ≤ TS.code B r.2) → H p = none → Q (.ref p) (upd H p (.lst (L.map fun q => V.ref q.1)))
theorem kt_addrs {H : Hp} : ∀ {kvs : List (List L2.Key × V)} {xs : List (List L2.Key × Addr × Value)} {ks : List (List Int)}, KT H kvs xs → kvs.map (·.1) = ks.map ik → ∃ L0 : List (Addr × List Int), xs.map (·.2.1) = L0.map (·.1) ∧ L0.map (·.2) = ks ∧ ∀ q ∈ L0, H q.1 = some (.tup (q.2.map V.int))
  | _, _, ks, .nil, e => by
    cases ks with
    | nil => exact ⟨[], rfl, rfl, fun _ h => by cases h⟩
    | cons _ _ => simp at e
  | p :: kvs, x :: xs, ks, .cons r t, e => by
    cases ks with
    | nil => simp at e
    | cons k ks =>
      rw [List.map_cons, List.map_cons] at e
      injection e with e1 e2
      obtain ⟨L0, a, b, c⟩ := kt_addrs t e2
      refine ⟨(x.2.1, k) :: L0, by rw [List.map_cons, List.map_cons, a], by rw [List.map_cons, b], fun q hq => ?_⟩
      rcases List.mem_cons.mp hq with rfl | hq
      · have := r.2.1
        rw [e1, ik_kV] at this
        exact this
      · exact c q hq
theorem call_sortedDT {X : Cx} (hcalm : X.calm = true) {d : Nat} {B : Int} (hd1 : 1 ≤ d) : CallR X (.builtin "sorted") (rSortedDT d B) := by
  intro pins s σ H xs us Q I r h
  obtain ⟨a, kvs, ks, rfl, ha, hks, h64, hk, q⟩ := h
  rw [Vals.ref1 r]
  obtain ⟨z, hd, xs', rel, o, es, ep, ho, hx, hdat, he, _⟩ := dt_rd I.hok ha
  obtain ⟨L0, l1, l2, l3⟩ := kt_addrs rel hks
  have hsz : es.size ≤ sizeLine := by
    have := congrArg List.length he
    rw [Array.length_toList, List.length_map, ← Paired.length rel] at this
    omega
  have n0 : L0.length = ks.length := by rw [← l2, List.length_map]
  refine Calls.call_function_entry PyProof.Rows.kind_sorted PyProof.Rows.plain_sorted PyProof.Rows.entry_sorted (PyProof.Rows.args_sorted1 _) ?_
  unfold Builtin.«sorted»
  refine wpAny_bind (m := checkCount "sorted" 1 1 _) (wpAny_pure ?_)
  refine wpAny_bind (PySem.W.kdu_collect (A := X.A.in1) (PySem.KdlSrc.rawDict (es := es) (ep := ep) hd) (I.ok.hd hcalm) ⟨o, ho, hx, hdat⟩ hsz fun h' tk acc hkeep hacc => ?_)
  have ea : acc.toList = (L0.map (·.1)).map Value.ref := by
    rw [items_eq (f := fun e : DictEntry => e.key) hacc, he, List.map_map, ← l1, List.map_map]; rfl
  have hal : acc.toList.length = ks.length := by rw [ea, List.length_map, List.length_map, n0]
  have I1 : Inv X pins σ H { s with heap := h', toks := tk } := I.kept hkeep
  refine wpAny_bind (wpAny_newList ?_ (by rw [hal, sizeLine_eq]; omega))
  have hoL : (h'.push (seqObj "list" acc.toList.toArray 0)).get? h'.objs.size = some (seqObj "list" acc.toList.toArray 0) := Heap.get?_push_size _ rfl
  show wpAny _ _ _ _ _ { s with heap := h'.push (seqObj "list" acc.toList.toArray 0), toks := tk }
  have raw : ∀ q ∈ L0, TS.TupInts h' (.ref q.1) q.2 := fun q hq => tupI_raw I1 (.inl (.inl (l3 q hq)))
  have keep : ∀ b o, h'.get? b = some o → o.cls = .type "tuple" → (h'.push (seqObj "list" acc.toList.toArray 0)).get? b = some o := fun b o e _ => Heap.get?_push_of_some _ e
  have x : TS.TupsOk (h'.push (seqObj "list" acc.toList.toArray 0)) d B acc.toList := fun v hv => by
    rw [ea, List.map_map] at hv
    obtain ⟨q, hq, rfl⟩ := List.mem_map.mp hv
    have := hk q.2 (by rw [← l2]; exact List.mem_map.mpr ⟨q, hq, rfl⟩)
    exact ⟨q.2, (raw q hq).keeps keep, this.1, this.2⟩
  refine wpAny_bind (wpAny_holding (wpAny_call_entry PyProof.Rows.slot_list_sort ⟨_, hoL, rfl⟩ PyProof.Rows.entry_list_sort (TS.sort_tups hoL (by rw [hal]; exact h64) hd1 x (fun v => TS.code B (TS.intsOf h' v)) (fun v hv ns t => ?_) fun out g1 g2 => ⟨_, rfl, ?_⟩) (PyProof.Rows.args_list_sort _)))
  · rw [ea, List.map_map] at hv
    obtain ⟨q, hq, rfl⟩ := List.mem_map.mp hv
    have e : ns = q.2 := t.ints.symm.trans ((raw q hq).keeps keep).ints
    rw [e]
    show TS.code B (TS.intsOf h' (.ref q.1)) = _
    rw [(raw q hq).ints]
  obtain ⟨e', he'⟩ := PyProof.Rows.sortedHeap_at (vs := acc.toList) (out := out) hoL
  rw [ea, List.map_map] at g1
  obtain ⟨L, pm, eL⟩ := perm_lift g1 rfl
  have hLm : ∀ q ∈ L, q ∈ L0 := fun q hq => pm.mem_iff.mp hq
  have hlen : (L.map fun q => V.ref q.1).length ≤ sizeLine := by
    rw [List.length_map, pm.length_eq, n0]
    exact Nat.le_trans (Nat.le_of_lt h64) (by decide)
  have pw : L.Pairwise (fun q r => TS.code B q.2 ≤ TS.code B r.2) := by
    rw [eL, List.pairwise_map] at g2
    refine List.Pairwise.imp_of_mem (fun {u v} hu hv h => ?_) g2
    have h : TS.code B (TS.intsOf h' (.ref u.1)) ≤ TS.code B (TS.intsOf h' (.ref v.1)) := h
    rw [(raw u (hLm u hu)).ints, (raw v (hLm v hv)).ints] at h
    exact h
  refine wpAny_pure ⟨_, rfl, .ref h'.objs.size, upd H h'.objs.size (.lst (L.map fun q => V.ref q.1)), I1.laid (t' := tk) (fun b u e => ?_) (Nat.le_refl _)
    (show ObjOk X.prog X.w _ _ _ (.lst (L.map fun q => V.ref q.1)) from ⟨hlen, out.toList, e', by rw [eL]; exact vals_of_refs L, by rw [Array.toArray_toList]; exact he'⟩), rfl, q L _ (by rw [← l2]; exact pm.map _) (fun u hu => l3 u (hLm u hu)) pw (I1.hok.fresh (Nat.le_refl _))⟩
  have hb : b < h'.objs.size := Heap.lt_size e
  rw [PyProof.Rows.sortedHeap_old (Nat.ne_of_lt hb) (by rw [size_push']; exact Nat.lt_succ_of_lt hb)]
  exact Heap.get?_push_of_some _ e
section
variable {P : Program} {w : World} {K : PySem.W.Frag} {mg : Str → Option Value} {base : Heap} {S : Sc} {k : Nat} {X : Cx} {B : Bs} {E : XW} {G : List Ent} {a b e : Expr} {pos p : Pos} {x : Str}
theorem Conf.tupsF {F H : Hp} {s : L2.St} {g : List Ent} (c : Conf K B s F H g) : ∀ (L : List (Addr × List Int)), (∀ q ∈ L, H q.1 = some (.tup (q.2.map V.int))) → ∃ F', Same F F' ∧ (∀ q ∈ L, F' q.1 = some (.tup (q.2.map V.int))) ∧ Conf K B s F' H g
  | [], _ => ⟨F, Same.refl F, fun _ h => (by cases h), c⟩
  | q :: L, h => by
    obtain ⟨F1, s1, f1, c1⟩ := Conf.tupsF c L fun r hr => h r (by simp [hr])
    obtain ⟨F2, s2, f2, c2⟩ := c1.tupF (h q (by simp))
    refine ⟨F2, s1.trans s2, fun r hr => ?_, c2⟩
    rcases List.mem_cons.mp hr with rfl | hr
    · exact f2
    · exact s2 _ _ (f1 r hr)
theorem dps_tups {F : Hp} : ∀ {L : List (Addr × List Int)}, (∀ q ∈ L, F q.1 = some (.tup (q.2.map V.int))) → DPs K F (L.map fun q => V.ref q.1) ((L.map (·.2)).map fun k => .tup (k.map .int))
  | [], _ => .nil
  | q :: L, h => .cons (DP.tp_tup (.tp (h q (by simp)) (dps_ints _))) (dps_tups fun r hr => h r (by simp [hr]))
/-- sorted(x), x an own dict with pairs as keys -/
theorem je_sortedT (cj : CJ P w K mg base S k X B E) (j i : Nat) {m : KTD} {xp : Pos} {Q : Ent → List Ent → Prop} (hm : mg "sorted" = none) (hl64 : m.length < 64) (hk : ∀ q ∈ m, q.1.length = 2 ∧ TS.Bd 64 q.1)
    (h : ∀ ks : List (List Int), ks.Perm (m.map (·.1)) → ks.Pairwise (fun a b => TS.code 64 a ≤ TS.code 64 b) → Q (.ow (.lst (ks.map fun k => .tup (k.map .int)))) G) (hg : entOw G[i]? = some (.dT (kt m)) := by rfl) (hj : S.gl[j]? = some "sorted" := by rfl) (hN : S.N[i]? = some x := by rfl) (hv : i ∈ S.vi := by decide)
    (he : starEach [.Name x xp] X.env = (false, eval (.Name x xp) X.env) :: starEach [] X.env := by rfl) (hpl : (backTo pos (starEach [] X.env)).any (·.1) = false := by rfl) : JE X B (.Call (.Name "sorted" p) [.Name x xp] [] pos) G Q := fun t s z F H VQ hl c q => by
  have hn := okName_of (Sc.vis cj.ok hv hN).1
  refine tS_of (pe_callB (call_sortedDT cj.calm (d := 2) (B := 64) (by decide)) (cj.gl hj) (cj.mgx hm) (by decide +kernel) (pa_cons (pe_var (cj.xN hN) (cj.vis hv hN) hn.1 hn.2.1) pa_nil he) (cj.nnm hj) (cj.dbg hj) he hpl) ?_
  obtain ⟨y, e1, ⟨ks, o1, o2⟩, _⟩ := c.slot hl hg
  have keys : ∀ {kvs : List (List Key × V)} {m : KTD}, PK X.K F kvs (kt m) → kvs.map (·.1) = (m.map (·.1)).map ik := by
    intro kvs m
    induction m generalizing kvs with
    | nil => intro h; cases h; rfl
    | cons p m ih => intro h; cases h with
      | cons r t => rw [List.map_cons, ih t, r.1]; rfl
  refine ⟨.ref y, e1, y, ks, m.map (·.1), rfl, .inl o1, keys o2, by rw [List.length_map]; exact hl64, fun k hk2 => ?_, fun L r pm hL pw nr => ?_⟩
  · obtain ⟨q, hq, rfl⟩ := List.mem_map.mp hk2
    exact hk q hq
  obtain ⟨F2, sm, hF2, c2⟩ := Conf.tupsF c L hL
  have pw2 : (L.map (·.2)).Pairwise (fun a b => TS.code 64 a ≤ TS.code 64 b) := List.pairwise_map.mpr pw
  exact q _ F2 _ _ G (c2.newL nr (dps_tups hF2)) trivial (h _ pm pw2)
end
end J

namespace J
open PySem PySem.Spec L2
section
variable {P : Program} {w : World} {K : PySem.W.Frag} {mg : Str → Option Value} {base : Heap} {S : Sc} {k : Nat} {X : Cx} {B : Bs} {E : XW} {G : List Ent} {a b e : Expr} {pos p : Pos} {x : Str}
theorem relB_loose {r : R2} {d d' e : D} {kk : Bool} (lo : Lo d d') (h : RelB X r d' e kk) : RelB X r d e kk := fun v u H VQ h1 h2 q => h v u H VQ (lo _ _ _ h1) h2 q
/-- x != b, x an own list of keys -/
theorem jt_neOL {b : Expr} {x : Str} {xp : Pos} (cj : CJ P w K mg base S k X B E) (i : Nat) {Q : Bool → List Ent → Prop}
    (h : JV X B b G fun d2 G2 => ∃ ds ds', entOw G2[i]? = some (.lst ds) ∧ Lo (.lst ds) (.lst ds') ∧ (∃ n, Flat n (.lst ds') ∧ n ≤ 64) ∧ (∃ m, Flat m d2 ∧ m ≤ 64) ∧ Q (!deq (.lst ds') d2) G2) (hN : S.N[i]? = some x := by rfl) (hv : i ∈ S.vi := by decide) (hg : (entOw G[i]?).isSome = true := by rfl) : JT X B (.Compare (.Name x xp) [.NotEq] [b] pos) G Q :=
  jt_cmpO cj i (op_neD cj.hr.units) (nomark _) (h.imp fun d2 G2 ⟨ds, ds', h1, lo, ⟨n, f, hn⟩, ⟨m, f', hm⟩, q⟩ => ⟨ds, _, h1, relB_loose lo (relB_ne f f' hn hm), q⟩) hN hv hg
end
end J

namespace J
open PySem PySem.Spec L2
section
variable {P : Program} {w : World} {K : PySem.W.Frag} {mg : Str → Option Value} {base : Heap} {S : Sc} {k : Nat} {X : Cx} {B : Bs} {E : XW} {G : List Ent} {a b e : Expr} {pos p : Pos} {x : Str}
theorem key_addrs {H : Hp} : ∀ {qs : List Addr} {kvs : List (List L2.Key × V)} {ks : List (List Int)}, Paired (fun (q : Addr) (p : List L2.Key × V) => H q = some (.tup (p.1.map kV))) qs kvs → kvs.map (·.1) = ks.map ik → ∃ L0 : List (Addr × List Int), qs = L0.map (·.1) ∧ L0.map (·.2) = ks ∧ ∀ q ∈ L0, H q.1 = some (.tup (q.2.map V.int))
  | [], _, ks, .nil, e => by
    cases ks with
    | nil => exact ⟨[], rfl, rfl, fun _ h => (by cases h)⟩
    | cons _ _ => simp at e
  | q :: qs, p :: kvs, ks, .cons r t, e => by
    cases ks with
    | nil => simp at e
    | cons k ks =>
      rw [List.map_cons, List.map_cons] at e
      injection e with e1 e2
      obtain ⟨L0, a, b, c⟩ := key_addrs t e2
      refine ⟨(q, k) :: L0, by rw [List.map_cons, a], by rw [List.map_cons, b], fun u hu => ?_⟩
      rcases List.mem_cons.mp hu with rfl | hu
      · rw [e1, ik_kV] at r
        exact r
      · exact c u hu
theorem dps_tps {F : Hp} : ∀ {L : List (Addr × List Int)}, (∀ q ∈ L, F q.1 = some (.tup (q.2.map V.int))) → DPs K F (L.map fun q => V.ref q.1) ((L.map (·.2)).map fun k => .tp (k.map .int))
  | [], _ => .nil
  | q :: L, h => .cons (.tp (h q (by simp)) (dps_ints _)) (dps_tps fun r hr => h r (by simp [hr]))
/-- list(x), x an own dict with tuples as keys -/
theorem je_listKeysT (cj : CJ P w K mg base S k X B E) (j i : Nat) {m : KTD} {xp : Pos} {Q : Ent → List Ent → Prop} (hm : mg "list" = none) (h : Q (.ow (.lst ((m.map (·.1)).map fun k => .tp (k.map .int)))) G) (hg : entOw G[i]? = some (.dT (kt m)) := by rfl) (hj : S.gl[j]? = some "list" := by rfl) (hN : S.N[i]? = some x := by rfl) (hv : i ∈ S.vi := by decide)
    (he : starEach [.Name x xp] X.env = (false, eval (.Name x xp) X.env) :: starEach [] X.env := by rfl) (hpl : (backTo pos (starEach [] X.env)).any (·.1) = false := by rfl) : JE X B (.Call (.Name "list" p) [.Name x xp] [] pos) G Q := fun t s z F H VQ hl c q => by
  have hn := okName_of (Sc.vis cj.ok hv hN).1
  refine tS_of (pe_callTy (call_listKeys cj.calm) (cj.gl hj) (cj.mgx hm) (by decide +kernel) (pa_cons (pe_var (cj.xN hN) (cj.vis hv hN) hn.1 hn.2.1) pa_nil he) (cj.nnm hj) (cj.dbg hj) he hpl) ?_
  obtain ⟨y, e1, ⟨ks, o1, o2⟩, _⟩ := c.slot hl hg
  have keys : ∀ {kvs : List (List Key × V)} {m : KTD}, PK X.K F kvs (kt m) → kvs.map (·.1) = (m.map (·.1)).map ik := by
    intro kvs m
    induction m generalizing kvs with
    | nil => intro h; cases h; rfl
    | cons p m ih => intro h; cases h with
      | cons r t => rw [List.map_cons, ih t, r.1]; rfl
  refine ⟨.ref y, e1, y, ks, rfl, .inl o1, fun l qs nl pq => ?_⟩
  obtain ⟨L, rfl, e2, hL⟩ := key_addrs pq (keys o2)
  obtain ⟨F2, sm, hF2, c2⟩ := Conf.tupsF c L hL
  have dp := dps_tps (K := X.K) hF2
  rw [e2] at dp
  rw [List.map_map]
  exact q _ F2 _ _ G (c2.newL nl dp) trivial h
end
end J

namespace J
open PySem PySem.Spec L2 PyProof.Rows
/-! set(xs), xs a list of tuples of ints of which few are unlike, however long -/
section
variable {P : Program} {w : World} {A : Around} {E : Value → Shared → Prop}
/-- what holds behind i items -/
def Held (P : Program) (w : World) (h0 : Heap) (S : Addr) (ks : List (Addr × List Int)) (i : Nat) (s : Shared) : Prop := (∀ b o, h0.get? b = some o → s.heap.get? b = some o) ∧ ∃ L es ep t, SetTR P w s.heap S L es ep t ∧ Got ks i L
theorem got_few {ks L : List (Addr × List Int)} {i : Nat} {M : List (List Int)} (g : Got ks i L) (nd : (L.map (·.2)).Nodup) (hin : ∀ p ∈ ks, p.2 ∈ M) : L.length ≤ M.length := by
  have h := List.Nodup.length_le_of_subset nd (l₂ := M) fun k hk => by
    obtain ⟨p, hp, rfl⟩ := List.mem_map.mp hk
    exact hin p (List.mem_of_mem_take (g.sub p hp))
  rwa [List.length_map] at h
theorem loop_few {I : Addr} {fp wr : List Addr} {G : Array GenState → Array GenState → Prop} {n : Nat} {Pv : Nat → Value → Prop} {St : Nat → Shared → Prop} {R : Result → Shared → Prop} (W : WalksS P w A.in1 I fp wr G n Pv St) (S : Addr) (hSf : S ∉ fp) (ks : List (Addr × List Int)) (hn : n = ks.length) (M : List (List Int)) (hM : M.length < 60) (hin : ∀ p ∈ ks, p.2 ∈ M)
    (hval : ∀ i v, Pv i v → ∃ p, ks[i]? = some p ∧ v = .ref p.1) (h0 : Heap) (hk : ∀ p ∈ ks, L2.IsT P w h0 p.2 p.1) (hS0 : h0.get? S = none) (hw0 : ∀ b ∈ wr, h0.get? b = none) (hu : A.in1.units < cLine) :
    ∀ (d i : Nat) (s : Shared), i + d = n → St i s → Held P w h0 S ks i s → (∀ s', Moved (S :: wr) G s s' → Held P w h0 S ks n s' → R (.ok (.ret .none)) s') → codeAny (model P w) A (.builtin "set.update.loop" ⟨[.ref S, .ref I], []⟩) R s := by
  have hSw : S ∉ wr := fun h => hSf (W.sub _ h)
  have wide : ∀ b ∈ wr, b ∈ S :: wr := fun b hb => List.mem_cons_of_mem _ hb
  -- a move of the walk keeps what is held
  have stay : ∀ {i : Nat} {s s' : Shared}, Moved wr G s s' → Held P w h0 S ks i s → Held P w h0 S ks i s' := fun {i s s'} mo ⟨hp, L, es, ep, t, hS, g⟩ => by
    have hp' : ∀ b o, h0.get? b = some o → s'.heap.get? b = some o := fun b o e => mo.heap b o (fun hb => by rw [hw0 b hb] at e; cases e) (hp b o e)
    exact ⟨hp', L, es, ep, t, hS.keep (fun o e => mo.heap S o hSw e) fun p hpL => isT_keep (hk p (List.mem_of_mem_take (g.sub p hpL))) hp', g⟩
  intro d
  induction d with
  | zero =>
    intro i s hi hst hh hR
    have hi : i = n := by omega
    subst hi
    refine codeAny_builtin F.entry_set_update_loop ?_
    rw [Around.under_plainId F.plain_set_update_loop _]
    refine wpAny_bind (m := pyNext (.ref I)) (W.done s _ _ hst fun s' mo => ?_)
    exact wpAny_pure (hR s' (mo.mono wide) (stay mo hh))
  | succ d ih =>
    intro i s hi hst hh hR
    refine codeAny_builtin F.entry_set_update_loop ?_
    rw [Around.under_plainId F.plain_set_update_loop _]
    refine wpAny_bind (m := pyNext (.ref I)) (W.item i s _ _ (by omega) hst fun v s' hP hst' mo => ?_)
    obtain ⟨p, hp, rfl⟩ := hval i v hP
    obtain ⟨hp', L, es, ep, t, hS, g⟩ := stay mo hh
    have hx : L2.IsT P w s'.heap p.2 p.1 := isT_keep (hk p (List.mem_of_getElem? hp)) hp'
    have few := got_few g hS.nd hin
    refine wpAny_bind (m := holding [Value.ref p.1] (setAdd S (.ref p.1))) (wpAny_holding ?_)
    unfold setAdd
    refine wpAny_holding (wpAny_bind (wpAny_pyHash_tuple hu hx ?_))
    refine add_at (s := { s' with toks := s'.toks + (p.2.length + 1) }) hS hx hu (by omega) fun b h' L' es' ep' t' sb hS2 c1 c2 => ?_
    have same : ∀ b, b ≠ S → h'.get? b = s'.heap.get? b := fun b hb => sb.2 b hb
    have g' : Got ks (i + 1) L' := by
      by_cases c : p.2 ∈ L.map (·.2)
      · rw [c1 c]; exact g.same hp c
      · exact g.more hp (c2 c)
    refine wpAny_pure ⟨plainId_quiet F.plain_set_update_loop _, ih (i + 1) _ (by omega) (W.frame _ s' _ _ hst' (Nat.le_add_right _ _) fun b hb o e => ?_) ⟨fun b o e => ?_, L', es', ep', t', hS2, g'⟩ fun s2 mo2 hh2 => hR s2 ?_ hh2⟩
    · rw [same b fun z => hSf (by rw [← z]; exact hb)]; exact e
    · show h'.get? b = some o
      rw [same b fun z => by rw [z, hS0] at e; cases e]; exact hp' b o e
    · refine Moved.trans W.gtrans ((mo.mono wide).then_heap (Nat.le_add_right _ _) fun b o hb e => ?_) mo2
      rw [same b fun z => hb (by rw [z]; exact List.mem_cons_self)]; exact e
/-- set.__init__ of a new set with a list -/
theorem init_few {s : Shared} {S l : Addr} {items : Array Value} (ks : List (Addr × List Int)) (M : List (List Int)) {A : Around} (hh : A.handled = none) (hu : A.units + 1 < cLine) (hl : s.heap.IsList l items) (hit : items.toList = ks.map fun p => Value.ref p.1) (hM : M.length < 60) (hin : ∀ p ∈ ks, p.2 ∈ M) {h0 : Heap} (hk : ∀ p ∈ ks, L2.IsT P w h0 p.2 p.1) (hold : ∀ b o, h0.get? b = some o → s.heap.get? b = some o) (hS0 : h0.get? S = none) (hz : h0.objs.size ≤ s.heap.objs.size)
    (hS : s.heap.get? S = some { cls := .type "set", dict := none, data := .set #[] 0 (.fresh 0 0 (!w.params.followText "set-order")) }) {Q : PySem.Fin → Shared → Prop} (h : ∀ s', (∃ h' tk, s' = { s with heap := h', toks := tk }) → Held P w h0 S ks ks.length s' → Q (.done (.ret .none)) s') :
    wpAny (model P w) A (Builtin.«set.__init__» ⟨[.ref S, .ref l], []⟩) Q E s := by
  have size : items.size = ks.length := by
    have e := congrArg List.length hit
    rwa [Array.length_toList, List.length_map] at e
  have hT : s.TypeIs (.ref S) "set" := ⟨_, hS, rfl⟩
  have hne2 : l ≠ S := fun z => by
    subst z
    obtain ⟨o, ho, hc, _⟩ := hl
    rw [hS] at ho
    cases ho
    exact absurd (show Value.type "set" = Value.type "list" from hc) (by decide)
  have lst := hl
  obtain ⟨⟨c0, d0, x0, y0⟩, at0, rfl, n0, rfl⟩ := hl
  have no1 := F.sub_list_set
  have no2 := F.sub_list_frozenset
  have no3 : (Value.type "list" == Value.type "dict") = false := by decide
  unfold Builtin.«set.__init__» noKeywords Builtin.Frozenset.updateFrom
  generalize eP : pyIter = PI
  wp_walk
  subst eP
  refine wpAny_pyIter_list lst (wpAny_bind (wpAny_runValue ?_))
  have ltS : S < s.heap.objs.size := Heap.lt_size hS
  have ltl : l < s.heap.objs.size := Heap.lt_size at0
  have hout : S ∉ [s.heap.objs.size, l] := by
    simp only [List.mem_cons, List.not_mem_nil, or_false, not_or]
    exact ⟨Nat.ne_of_lt ltS, fun z => hne2 z.symm⟩
  have hget : (s.heap.push { cls := .type "list_iterator", data := .fields #[.ref l, .int 0 0] }).get? S = _ := Heap.get?_push_of_some _ hS
  refine loop_few ((Walks.list (by simp [hh]) _ l (Nat.ne_of_lt ltl) items).toS) S hout ks size M hM hin (fun i v hv => ?_) h0 hk hS0 (fun b hb => ?_) (by simpa using hu) items.size 0 _ (by omega) ⟨⟨_, Heap.get?_push_size _ rfl, rfl, rfl⟩, lst.push _⟩ ⟨fun b o e => Heap.get?_push_of_some _ (hold b o e), [], #[], 0, _, setTR_fresh hget, Got.zero ks⟩ fun s' mo hd => ?_
  · have e : items.toList[i]? = some v := by rw [Array.getElem?_toList]; exact hv
    rw [hit, List.getElem?_map] at e
    obtain ⟨p, e1, e2⟩ := Option.map_eq_some_iff.mp e
    exact ⟨p, e1, e2.symm⟩
  · rw [List.mem_singleton.mp hb]
    cases e : h0.get? s.heap.objs.size with
    | none => rfl
    | some o => exact absurd (Nat.lt_of_lt_of_le (Heap.lt_size e) hz) (Nat.lt_irrefl _)
  · rw [size] at hd
    refine wpAny_pure (wpAny_pure (h s' ⟨s'.heap, s'.toks, ?_⟩ hd))
    obtain ⟨x1, x2, x3, x4, x5⟩ := s'
    have y1 : x2 = s.gens := mo.gens
    have y2 : x3 = s.drawn := mo.drawn
    have y3 : x5 = s.os := mo.os
    rw [y1, y2, y3]
/-- set(xs) -/
theorem call_set_few {s : Shared} {l : Addr} {items : Array Value} (ks : List (Addr × List Int)) (M : List (List Int)) (hh : A.handled = none) (hu : A.units + 4 < cLine) (hl : s.heap.IsList l items) (hit : items.toList = ks.map fun p => Value.ref p.1) (hM : M.length < 60) (hin : ∀ p ∈ ks, p.2 ∈ M) (hk : ∀ p ∈ ks, L2.IsT P w s.heap p.2 p.1) {Q : Value → Shared → Prop}
    (h : ∀ (h' : Heap) (tk : Nat) L es ep t, SetTR P w h' s.heap.objs.size L es ep t → Got ks ks.length L → (∀ b o, s.heap.get? b = some o → h'.get? b = some o) → Q (.ref s.heap.objs.size) { s with heap := h', toks := tk }) :
    wpAny (model P w) A (call (.type "set") [.ref l]) Q E s := by
  have T := F.called_set
  obtain ⟨c, tl, q0⟩ := T.mro
  have q1 := T.made
  have q2 := T.sub
  have q3 := T.notType
  have q4 := T.canCreate
  have q5 := F.typeCall_set_1 (.ref l)
  refine wpAny_call (codeAny_of_tree ?_)
  show wpAny _ _ (callAny (.type "set") _) _ _ _
  refine wpAny_pure ⟨Code.quiet_builtin _ (by decide +kernel), codeAny_builtin F.entry_type_call ?_⟩
  rw [Around.under_plain (weight_type_call_type "set" [.ref l] []) (units_type_call_type "set" [.ref l] [])]
  repeat (any_goals (first | assumption | wp_step))
  refine codeAny_mono (code_set_led1 (.ref l) (E := E) (Q₁ := fun v s1 => v = .ref s.heap.objs.size ∧ s1 = { s with heap := s.heap.push { cls := .type "set", dict := none, data := .set #[] 0 (.fresh 0 0 (!w.params.followText "set-order")) } }) ⟨rfl, rfl⟩) fun r s1 hr => ?_
  match r, hr with
  | .error e, hr => exact hr
  | .ok (.ret v), hr =>
    obtain ⟨rfl, rfl⟩ := hr
    have at1 : (s.heap.push { cls := .type "set", dict := none, data := .set #[] 0 (.fresh 0 0 (!w.params.followText "set-order")) }).get? s.heap.objs.size = some { cls := .type "set", dict := none, data := .set #[] 0 (.fresh 0 0 (!w.params.followText "set-order")) } := Heap.get?_push_size _ rfl
    have q6 : Shared.TypeIs { s with heap := s.heap.push { cls := .type "set", dict := none, data := .set #[] 0 (.fresh 0 0 (!w.params.followText "set-order")) } } (.ref s.heap.objs.size) "set" := ⟨_, at1, rfl⟩
    have q7 := T.init.lookup
    have q8 := T.init.bind (.ref s.heap.objs.size)
    repeat (any_goals (first | assumption | wp_step))
    have none_of : s.heap.get? s.heap.objs.size = none := by
      cases e : s.heap.get? s.heap.objs.size with
      | none => rfl
      | some o => exact absurd (Heap.lt_size e) (Nat.lt_irrefl _)
    refine codeAny_mono (codeAny_call_builtin (R := wants (fun r s2 => r = .none ∧ (∃ h' tk, s2 = { s with heap := h', toks := tk }) ∧ Held P w s.heap s.heap.objs.size ks ks.length s2) E) T.init.plain F.entry_set_init (check_set_init_1 q6 (init_few ks M (by simp [hh]) (by simp; omega) (hl.push _) hit hM hin hk (fun b o e => Heap.get?_push_of_some _ e) none_of (by rw [Heap.size_push]; omega) at1 fun s' ⟨h', tk, e⟩ hd => ?_))) fun r2 s2 hr2 => ?_
    · exact ⟨rfl, ⟨h', tk, by rw [e]⟩, hd⟩
    · match r2, hr2 with
      | .error e, hr2 => exact hr2
      | .ok (.ret v), hr2 =>
        obtain ⟨rfl, ⟨h', tk, rfl⟩, keep, L, es, ep, t, hS, g⟩ := hr2
        repeat (any_goals (first | assumption | wp_step))
        exact h h' tk L es ep t hS g keep
      | .ok .next, hr2 => exact hr2.elim
      | .ok .brk, hr2 => exact hr2.elim
      | .ok .cont, hr2 => exact hr2.elim
  | .ok .next, hr => exact hr.elim
  | .ok .brk, hr => exact hr.elim
  | .ok .cont, hr => exact hr.elim
end
/-- set(xs) as a call -/
def rSetFew (K : PySem.W.Frag) (P : Program) (w : World) : List V → Hp → VK → Prop := fun xs H Q => ∃ (l : Addr) (ks : List (Addr × List Int)) (M : List (List Int)), xs = [V.ref l] ∧ SqL K H l (ks.map fun p => V.ref p.1) ∧ (∀ p ∈ ks, SqT K H p.1 (p.2.map V.int)) ∧ M.length < 60 ∧ (∀ p ∈ ks, p.2 ∈ M) ∧
  ∀ a L, H a = none → (∀ p ∈ L, p ∈ ks) → (∀ p ∈ ks, p.2 ∈ L.map (·.2)) → Q (.ref a) (upd H a (SetTO P w a L))
theorem cr_setFew {X : Cx} (hc : X.calm = true) (hu : X.A.units + 64 < cLine) : CallR X (.type "set") (rSetFew X.K X.prog X.w) := by
  rintro pins s σ H xs us Q I r ⟨l, ks, M, rfl, hl, hk, hM, hin, q⟩
  obtain ⟨its, rv, pl, _⟩ := I.list hl
  rw [Vals.ref1 r]
  refine call_set_few (P := X.prog) (w := X.w) ks M (I.ok.hd hc) (by omega) pl.isList (by simpa using refs_of_vals rv) hM hin (fun p hp => I.isT (hk p hp)) fun h' tk L es ep t R g keep => ?_
  exact ⟨.ref s.heap.objs.size, _, I.laid (t' := tk) keep (Nat.le_refl _) (setTO_new R.t0), rfl, q _ L (I.hok.fresh (Nat.le_refl _)) (fun p hp => List.mem_of_mem_take (g.sub p hp)) fun p hp => g.all p (by rw [List.take_length]; exact hp)⟩
section
variable {P : Program} {w : World} {K : PySem.W.Frag} {mg : Str → Option Value} {base : Heap} {S : Sc} {k : Nat} {X : Cx} {B : Bs} {E : XW} {G : List Ent} {a b e : Expr} {pos p : Pos} {x : Str}
theorem tup_refs {F : Hp} : ∀ {ps : List (List Int)} {xs : List V}, DPs K F xs (ps.map fun k => .tup (k.map .int)) → ∃ ks : List (Addr × List Int), xs = ks.map (fun q => V.ref q.1) ∧ ks.map (·.2) = ps ∧ ∀ q ∈ ks, SqT K F q.1 (q.2.map V.int)
  | [], _, h => by cases h; exact ⟨[], rfl, rfl, fun _ h => (by cases h)⟩
  | k :: ps, _, h => by
    cases h with
    | cons r t =>
      obtain ⟨ks, e1, e2, e3⟩ := tup_refs t
      cases r with
      | @tup a xs _ h1 h2 =>
        rw [ints_of_dps h2] at h1
        refine ⟨(a, k) :: ks, by rw [e1]; rfl, by rw [List.map_cons, e2], fun q hq => ?_⟩
        rcases List.mem_cons.mp hq with rfl | hq
        · exact h1
        · exact e3 q hq
theorem dps_tupS {F : Hp} : ∀ {L : List (Addr × List Int)}, (∀ q ∈ L, SqT K F q.1 (q.2.map V.int)) → DPs K F (L.map fun q => V.ref q.1) ((L.map (·.2)).map fun k => .tup (k.map .int))
  | [], _ => .nil
  | q :: L, h => .cons (.tup (h q (by simp)) (dps_ints _)) (dps_tupS fun r hr => h r (by simp [hr]))
/-- sorted(set(x)), x a list of pairs of which few are unlike -/
theorem je_sortedSetT (cj : CJ P w K mg base S k X B E) (j j2 : Nat) {p2 q2 : Pos} {Q : Ent → List Ent → Prop} (hm : mg "sorted" = none) (hm2 : mg "set" = none)
    (h : JV X B e G fun d G' => ∃ (ps M : List (List Int)), d = .lst (ps.map fun k => .tup (k.map .int)) ∧ M.length < 60 ∧ (∀ k ∈ ps, k ∈ M) ∧ (∀ k ∈ ps, k.length = 2 ∧ TS.Bd 64 k) ∧ ∀ ks : List (List Int), ks.Nodup → (∀ k, k ∈ ks ↔ k ∈ ps) → ks.Pairwise (fun a b => TS.code 64 a ≤ TS.code 64 b) → Q (.ow (.lst (ks.map fun k => .tup (k.map .int)))) G') (hj : S.gl[j]? = some "sorted" := by rfl) (hj2 : S.gl[j2]? = some "set" := by rfl)
    (he : starEach [e] X.env = (false, eval e X.env) :: starEach [] X.env := by rfl) (hpl : (backTo q2 (starEach [] X.env)).any (·.1) = false := by rfl)
    (he2 : starEach [.Call (.Name "set" p2) [e] [] q2] X.env = (false, eval (.Call (.Name "set" p2) [e] [] q2) X.env) :: starEach [] X.env := by rfl) (hpl2 : (backTo pos (starEach [] X.env)).any (·.1) = false := by rfl) :
    JE X B (.Call (.Name "sorted" p) [.Call (.Name "set" p2) [e] [] q2] [] pos) G Q := fun t s z F H VQ hl c q => by
  refine tS_of (pe_callB (cr_sortedT cj.calm) (cj.gl hj) (cj.mgx hm) (by decide +kernel) (pa_cons (pe_callTy (cr_setFew cj.calm (by have := cj.u65; omega)) (cj.gl hj2) (cj.mgx hm2) (by decide +kernel) (pa_cons pe_sem pa_nil he) (cj.nnm hj2) (cj.dbg hj2) he hpl) pa_nil he2) (cj.nnm hj) (cj.dbg hj) he2 hpl2) ?_
  refine h t s z F H _ hl c fun v F1 H1 d G1 c1 ⟨ps, M, ed, hM, hin, hb, hq⟩ => ?_
  subst ed
  have tp := c1.top
  have sm := c1.fh
  cases tp with
  | @lst a xs _ f1 f2 =>
    obtain ⟨ks, rfl, e2, e3⟩ := tup_refs f2
    have hin2 : ∀ p ∈ ks, p.2 ∈ ps := fun p hp => by rw [← e2]; exact List.mem_map.mpr ⟨p, hp, rfl⟩
    refine ⟨a, ks, M, rfl, .of (sm _ _ f1), fun p hp => sameT sm (e3 p hp), hM, fun p hp => hin _ (hin2 p hp), fun a2 L np l1 l2 => ?_⟩
    have c2 := c1.pop.alloc (o := SetTO X.prog X.w a2 L) np
    refine ⟨a2, L, 2, 64, rfl, upd_same, fun p hp => sameT ((c1.pop.alloc (o := SetTO X.prog X.w a2 L) np).fh) (sameT (same_upd (c1.pop.fresh np)) (e3 p (l1 p hp))), by decide, fun p hp => hb _ (hin2 p (l1 p hp)), fun L' p pm nd _ pw np2 => ?_⟩
    have dp := dps_tupS (K := X.K) (L := L') fun q hq => sameT (same_upd (o := SetTO X.prog X.w a2 L) (c1.pop.fresh np)) (e3 q (l1 q (pm.mem_iff.mp hq)))
    refine q _ _ _ _ G1 (c2.newL np2 dp) trivial (hq _ nd (fun k => ⟨fun hk => ?_, fun hk => ?_⟩) (List.pairwise_map.mpr pw))
    · obtain ⟨u, hu, rfl⟩ := List.mem_map.mp hk
      exact hin2 u (l1 u (pm.mem_iff.mp hu))
    · rw [← e2] at hk
      obtain ⟨u, hu, rfl⟩ := List.mem_map.mp hk
      exact (pm.map (·.2)).mem_iff.mpr (l2 u hu)
end
end J

namespace Kz
open PySem PySem.Spec L2 J
/-! the text by places -/
def topS (i : Nat) : Stmt := PySem.Challenge.pw_longago_k11_whole_together_or_apart.main.body.getD i (.Pass ⟨0, 0, 0, 0⟩)
abbrev s__law_cell : Stmt := topS 20
def z__law_cell : Sc := ⟨["_law_script", "_law_k"], defScope s__law_cell, [0, 1], [0, 1], ["len"]⟩
theorem zo__law_cell : z__law_cell.ok = true := by decide +kernel
theorem zf__law_cell : FnScope z__law_cell.N ["_law_script", "_law_k"] z__law_cell.sc := ⟨rfl, rfl, rfl, by decide +kernel, rfl, by decide +kernel, by decide +kernel⟩
abbrev s__law_off : Stmt := topS 22
def z__law_off : Sc := ⟨["_law_d", "_law_most", "_law_found", "_law_more"], defScope s__law_off, [0, 1, 2, 3], [0, 1, 2, 3], ["abs", "_law_cell", "max", "len"]⟩
theorem zo__law_off : z__law_off.ok = true := by decide +kernel
theorem zf__law_off : FnScope z__law_off.N ["_law_d", "_law_most"] z__law_off.sc := ⟨rfl, rfl, rfl, by decide +kernel, rfl, by decide +kernel, by decide +kernel⟩
abbrev s__law_chain : Stmt := topS 23
def z__law_chain : Sc := ⟨["_law_d", "_law_most", "_law_many", "_law_way", "_law_moves", "_law_k", "_law_row", "_law_weight", "_law_place"], defScope s__law_chain, [0, 1, 2, 3, 4, 5, 6, 7], [0, 1, 2, 3, 4, 5, 6, 7], ["_law_off", "range", "sorted", "tuple"]⟩
theorem zo__law_chain : z__law_chain.ok = true := by decide +kernel
theorem zf__law_chain : FnScope z__law_chain.N ["_law_d", "_law_most"] z__law_chain.sc := ⟨rfl, rfl, rfl, by decide +kernel, rfl, by decide +kernel, by decide +kernel⟩
abbrev s__law_dice : Stmt := topS 21
def z__law_dice : Sc := ⟨["_law_script", "_law_k", "_law_cell_here"], defScope s__law_dice, [0, 1, 2], [0, 1, 2], ["abs", "_law_cell", "int"]⟩
theorem zo__law_dice : z__law_dice.ok = true := by decide +kernel
theorem zf__law_dice : FnScope z__law_dice.N ["_law_script", "_law_k"] z__law_dice.sc := ⟨rfl, rfl, rfl, by decide +kernel, rfl, by decide +kernel, by decide +kernel⟩
abbrev s__law_permuted : Stmt := topS 29
def z__law_permuted : Sc := ⟨["_law_d", "_law_many", "_law_moves", "_law_turn", "_law_left", "_law_k"], defScope s__law_permuted, [0, 1, 2, 3, 4], [0, 1, 2, 3, 4], ["_law_off", "range", "list", "tuple"]⟩
theorem zo__law_permuted : z__law_permuted.ok = true := by decide +kernel
theorem zf__law_permuted : FnScope z__law_permuted.N ["_law_d"] z__law_permuted.sc := ⟨rfl, rfl, rfl, by decide +kernel, rfl, by decide +kernel, by decide +kernel⟩
abbrev s_pairs_of : Stmt := topS 5
def z_pairs_of : Sc := ⟨["chain", "found", "one", "other"], defScope s_pairs_of, [0, 1, 2], [0, 1, 2], ["range"]⟩
theorem zo_pairs_of : z_pairs_of.ok = true := by decide +kernel
theorem zf_pairs_of : FnScope z_pairs_of.N ["chain"] z_pairs_of.sc := ⟨rfl, rfl, rfl, by decide +kernel, rfl, by decide +kernel, by decide +kernel⟩
abbrev s_moved_pair : Stmt := topS 6
def z_moved_pair : Sc := ⟨["row", "pair", "one", "other"], defScope s_moved_pair, [0, 1, 2, 3], [0, 1, 2, 3], ["min", "max"]⟩
theorem zo_moved_pair : z_moved_pair.ok = true := by decide +kernel
theorem zf_moved_pair : FnScope z_moved_pair.N ["row", "pair"] z_moved_pair.sc := ⟨rfl, rfl, rfl, by decide +kernel, rfl, by decide +kernel, by decide +kernel⟩
abbrev s_goes : Stmt := topS 8
def z_goes : Sc := ⟨["chain", "pair", "known", "weight", "row", "behind"], defScope s_goes, [0, 1, 2, 3, 4, 5], [0, 1, 2, 3, 4, 5], ["moved_pair"]⟩
theorem zo_goes : z_goes.ok = true := by decide +kernel
theorem zf_goes : FnScope z_goes.N ["chain", "pair", "known"] z_goes.sc := ⟨rfl, rfl, rfl, by decide +kernel, rfl, by decide +kernel, by decide +kernel⟩
abbrev s_meeting_pairs : Stmt := topS 7
def z_meeting_pairs : Sc := ⟨["chain", "found", "changed", "pair"], defScope s_meeting_pairs, [0, 1, 2, 3], [0, 1, 2, 3], ["pairs_of", "goes"]⟩
theorem zo_meeting_pairs : z_meeting_pairs.ok = true := by decide +kernel
theorem zf_meeting_pairs : FnScope z_meeting_pairs.N ["chain"] z_meeting_pairs.sc := ⟨rfl, rfl, rfl, by decide +kernel, rfl, by decide +kernel, by decide +kernel⟩
abbrev s_never : Stmt := topS 9
def z_never : Sc := ⟨["chain", "known", "pair"], defScope s_never, [0, 1], [0, 1], ["meeting_pairs", "pairs_of"]⟩
theorem zo_never : z_never.ok = true := by decide +kernel
theorem zf_never : FnScope z_never.N ["chain"] z_never.sc := ⟨rfl, rfl, rfl, by decide +kernel, rfl, by decide +kernel, by decide +kernel⟩
abbrev s_pairs_behind : Stmt := topS 10
def z_pairs_behind : Sc := ⟨["chain", "pair", "found", "waiting", "here", "weight", "row", "behind"], defScope s_pairs_behind, [0, 1, 2, 3, 4, 5, 6, 7], [0, 1, 2, 3, 4, 5, 6, 7], ["moved_pair", "sorted"]⟩
theorem zo_pairs_behind : z_pairs_behind.ok = true := by decide +kernel
theorem zf_pairs_behind : FnScope z_pairs_behind.N ["chain", "pair"] z_pairs_behind.sc := ⟨rfl, rfl, rfl, by decide +kernel, rfl, by decide +kernel, by decide +kernel⟩
abbrev s_walking : Stmt := topS 12
def z_walking : Sc := ⟨["chain", "rows", "waiting", "at", "here", "number", "behind", "place"], defScope s_walking, [0, 1, 2, 3, 4, 5, 6], [0, 1, 2, 3, 4, 5, 6], ["len", "range", "tuple", "sorted", "set", "list"]⟩
theorem zo_walking : z_walking.ok = true := by decide +kernel
theorem zf_walking : FnScope z_walking.N ["chain", "rows", "waiting"] z_walking.sc := ⟨rfl, rfl, rfl, by decide +kernel, rfl, by decide +kernel, by decide +kernel⟩
abbrev s_meeting : Stmt := topS 11
def z_meeting : Sc := ⟨["chain", "pairs", "begin", "rows", "waiting", "here"], defScope s_meeting, [0, 1, 2, 3, 4, 5], [0, 1, 2, 3, 4, 5], ["never", "pairs_behind", "tuple", "range", "walking", "len", "list"]⟩
theorem zo_meeting : z_meeting.ok = true := by decide +kernel
theorem zf_meeting : FnScope z_meeting.N ["chain"] z_meeting.sc := ⟨rfl, rfl, rfl, by decide +kernel, rfl, by decide +kernel, by decide +kernel⟩
abbrev s_must : Stmt := topS 17
def z_must : Sc := ⟨["good"], defScope s_must, [0], [0], ["BadChain"]⟩
theorem zo_must : z_must.ok = true := by decide +kernel
theorem zf_must : FnScope z_must.N ["good"] z_must.sc := ⟨rfl, rfl, rfl, by decide +kernel, rfl, by decide +kernel, by decide +kernel⟩
abbrev s_Chain___init__ : Stmt := inClass (topS 18) 0
def z_Chain___init__ : Sc := ⟨["self", "many", "moves", "weight", "row", "place"], defScope s_Chain___init__, [0, 1, 2, 3, 4, 5], [0, 1, 2, 3, 4, 5], ["must", "MOST_PLACES", "len", "MOST_MOVES", "MOST_WEIGHT", "list"]⟩
theorem zo_Chain___init__ : z_Chain___init__.ok = true := by decide +kernel
theorem zf_Chain___init__ : FnScope z_Chain___init__.N ["self", "many", "moves"] z_Chain___init__.sc := ⟨rfl, rfl, rfl, by decide +kernel, rfl, by decide +kernel, by decide +kernel⟩
abbrev s__law_made : Stmt := topS 24
def z__law_made : Sc := ⟨["_law_told"], defScope s__law_made, [0], [0], ["Chain", "list"]⟩
theorem zo__law_made : z__law_made.ok = true := by decide +kernel
theorem zf__law_made : FnScope z__law_made.N ["_law_told"] z__law_made.sc := ⟨rfl, rfl, rfl, by decide +kernel, rfl, by decide +kernel, by decide +kernel⟩
abbrev s__law_apart : Stmt := topS 26
def z__law_apart : Sc := ⟨["_law_told", "_law_pairs", "_law_one", "_law_known", "_law_turn", "_law_pair", "_law_move", "_law_behind_here", "_law_other"], defScope s__law_apart, [0, 1, 2, 3, 4, 5, 6, 7], [0, 1, 2, 3, 4, 5, 6, 7], ["range", "len", "tuple", "sorted"]⟩
theorem zo__law_apart : z__law_apart.ok = true := by decide +kernel
theorem zf__law_apart : FnScope z__law_apart.N ["_law_told"] z__law_apart.sc := ⟨rfl, rfl, rfl, by decide +kernel, rfl, by decide +kernel, by decide +kernel⟩
abbrev s__law_shortest : Stmt := topS 27
def z__law_shortest : Sc := ⟨["_law_told", "_law_rows", "_law_waiting", "_law_at", "_law_here", "_law_number", "_law_behind_here", "_law_place"], defScope s__law_shortest, [0, 1, 2, 3, 4, 5, 6], [0, 1, 2, 3, 4, 5, 6], ["tuple", "range", "list", "len", "sorted", "set"]⟩
theorem zo__law_shortest : z__law_shortest.ok = true := by decide +kernel
theorem zf__law_shortest : FnScope z__law_shortest.N ["_law_told"] z__law_shortest.sc := ⟨rfl, rfl, rfl, by decide +kernel, rfl, by decide +kernel, by decide +kernel⟩
abbrev s__law_behind : Stmt := topS 28
def z__law_behind : Sc := ⟨["_law_told", "_law_pair", "_law_found", "_law_turn", "_law_more", "_law_move", "_law_one"], defScope s__law_behind, [0, 1, 2, 3, 4, 5], [0, 1, 2, 3, 4, 5], ["range", "list", "sorted", "set"]⟩
theorem zo__law_behind : z__law_behind.ok = true := by decide +kernel
theorem zf__law_behind : FnScope z__law_behind.N ["_law_told", "_law_pair"] z__law_behind.sc := ⟨rfl, rfl, rfl, by decide +kernel, rfl, by decide +kernel, by decide +kernel⟩
abbrev s_law : Stmt := topS 30
def z_law : Sc := ⟨["_law_script", "_law_told", "_law_found", "_law_apart_here", "_law_pair"], defScope s_law, [0, 1, 2, 3], [0, 1, 2, 3], ["_law_chain", "_law_dice", "abs", "_law_cell", "_law_permuted", "meeting", "_law_made", "isinstance", "tuple", "len", "list", "_law_apart", "_law_shortest", "_law_behind"]⟩
theorem zo_law : z_law.ok = true := by decide +kernel
theorem zf_law : FnScope z_law.N ["_law_script"] z_law.sc := ⟨rfl, rfl, rfl, by decide +kernel, rfl, by decide +kernel, by decide +kernel⟩
/-! what the top has written -/
structure Tx (K : PySem.W.Frag) (mg : Str → Option Value) where
  C_Chain : Addr
  cl_Chain : Cls K C_Chain
  g_Chain : mg "Chain" = some (.ref C_Chain)
  na_Chain_many : NoAttr K C_Chain "many"
  na_Chain_moves : NoAttr K C_Chain "moves"
  C_BadChain : Addr
  g_BadChain : mg "BadChain" = some (.ref C_BadChain)
  kp_BadChain : PySem.W.keepIn K (.ref C_BadChain) = true
  su_BadChain : PySem.W.subIn K (.ref C_BadChain) (.type "BaseException") = some true
  ty_BadChain : PySem.W.typeIn K (.ref C_BadChain) = some (.type "type")
  xi_BadChain : PySem.W.excIn K C_BadChain [.type "ValueError", .type "Exception", .type "BaseException", .type "object"] "ValueError.__new__" = true
  a__law_cell : Addr
  d__law_cell : FuncData
  F__law_cell : Fun K "_law_cell" "_law_cell" s__law_cell a__law_cell d__law_cell
  b__law_cell : Binds K d__law_cell ["_law_script", "_law_k"] []
  g__law_cell : mg "_law_cell" = some (.ref a__law_cell)
  a__law_off : Addr
  d__law_off : FuncData
  F__law_off : Fun K "_law_off" "_law_off" s__law_off a__law_off d__law_off
  b__law_off : Binds K d__law_off ["_law_d", "_law_most"] []
  g__law_off : mg "_law_off" = some (.ref a__law_off)
  a__law_chain : Addr
  d__law_chain : FuncData
  F__law_chain : Fun K "_law_chain" "_law_chain" s__law_chain a__law_chain d__law_chain
  b__law_chain : Binds K d__law_chain ["_law_d", "_law_most"] []
  g__law_chain : mg "_law_chain" = some (.ref a__law_chain)
  a__law_dice : Addr
  d__law_dice : FuncData
  F__law_dice : Fun K "_law_dice" "_law_dice" s__law_dice a__law_dice d__law_dice
  b__law_dice : Binds K d__law_dice ["_law_script", "_law_k"] []
  g__law_dice : mg "_law_dice" = some (.ref a__law_dice)
  a__law_permuted : Addr
  d__law_permuted : FuncData
  F__law_permuted : Fun K "_law_permuted" "_law_permuted" s__law_permuted a__law_permuted d__law_permuted
  b__law_permuted : Binds K d__law_permuted ["_law_d"] []
  g__law_permuted : mg "_law_permuted" = some (.ref a__law_permuted)
  a_pairs_of : Addr
  d_pairs_of : FuncData
  F_pairs_of : Fun K "pairs_of" "pairs_of" s_pairs_of a_pairs_of d_pairs_of
  b_pairs_of : Binds K d_pairs_of ["chain"] []
  g_pairs_of : mg "pairs_of" = some (.ref a_pairs_of)
  a_moved_pair : Addr
  d_moved_pair : FuncData
  F_moved_pair : Fun K "moved_pair" "moved_pair" s_moved_pair a_moved_pair d_moved_pair
  b_moved_pair : Binds K d_moved_pair ["row", "pair"] []
  g_moved_pair : mg "moved_pair" = some (.ref a_moved_pair)
  a_goes : Addr
  d_goes : FuncData
  F_goes : Fun K "goes" "goes" s_goes a_goes d_goes
  b_goes : Binds K d_goes ["chain", "pair", "known"] []
  g_goes : mg "goes" = some (.ref a_goes)
  a_meeting_pairs : Addr
  d_meeting_pairs : FuncData
  F_meeting_pairs : Fun K "meeting_pairs" "meeting_pairs" s_meeting_pairs a_meeting_pairs d_meeting_pairs
  b_meeting_pairs : Binds K d_meeting_pairs ["chain"] []
  g_meeting_pairs : mg "meeting_pairs" = some (.ref a_meeting_pairs)
  a_never : Addr
  d_never : FuncData
  F_never : Fun K "never" "never" s_never a_never d_never
  b_never : Binds K d_never ["chain"] []
  g_never : mg "never" = some (.ref a_never)
  a_pairs_behind : Addr
  d_pairs_behind : FuncData
  F_pairs_behind : Fun K "pairs_behind" "pairs_behind" s_pairs_behind a_pairs_behind d_pairs_behind
  b_pairs_behind : Binds K d_pairs_behind ["chain", "pair"] []
  g_pairs_behind : mg "pairs_behind" = some (.ref a_pairs_behind)
  a_walking : Addr
  d_walking : FuncData
  F_walking : Fun K "walking" "walking" s_walking a_walking d_walking
  b_walking : Binds K d_walking ["chain", "rows", "waiting"] []
  g_walking : mg "walking" = some (.ref a_walking)
  a_meeting : Addr
  d_meeting : FuncData
  F_meeting : Fun K "meeting" "meeting" s_meeting a_meeting d_meeting
  b_meeting : Binds K d_meeting ["chain"] []
  g_meeting : mg "meeting" = some (.ref a_meeting)
  a_must : Addr
  d_must : FuncData
  F_must : Fun K "must" "must" s_must a_must d_must
  b_must : Binds K d_must ["good"] []
  g_must : mg "must" = some (.ref a_must)
  a_Chain___init__ : Addr
  d_Chain___init__ : FuncData
  F_Chain___init__ : Fun K "__init__" "Chain.__init__" s_Chain___init__ a_Chain___init__ d_Chain___init__
  b_Chain___init__ : Binds K d_Chain___init__ ["self", "many", "moves"] []
  mk_Chain : Mk K C_Chain a_Chain___init__
  a__law_made : Addr
  d__law_made : FuncData
  F__law_made : Fun K "_law_made" "_law_made" s__law_made a__law_made d__law_made
  b__law_made : Binds K d__law_made ["_law_told"] []
  g__law_made : mg "_law_made" = some (.ref a__law_made)
  a__law_apart : Addr
  d__law_apart : FuncData
  F__law_apart : Fun K "_law_apart" "_law_apart" s__law_apart a__law_apart d__law_apart
  b__law_apart : Binds K d__law_apart ["_law_told"] []
  g__law_apart : mg "_law_apart" = some (.ref a__law_apart)
  a__law_shortest : Addr
  d__law_shortest : FuncData
  F__law_shortest : Fun K "_law_shortest" "_law_shortest" s__law_shortest a__law_shortest d__law_shortest
  b__law_shortest : Binds K d__law_shortest ["_law_told"] []
  g__law_shortest : mg "_law_shortest" = some (.ref a__law_shortest)
  a__law_behind : Addr
  d__law_behind : FuncData
  F__law_behind : Fun K "_law_behind" "_law_behind" s__law_behind a__law_behind d__law_behind
  b__law_behind : Binds K d__law_behind ["_law_told", "_law_pair"] []
  g__law_behind : mg "_law_behind" = some (.ref a__law_behind)
  a_law : Addr
  d_law : FuncData
  F_law : Fun K "law" "law" s_law a_law d_law
  b_law : Binds K d_law ["_law_script"] []
  g_law : mg "law" = some (.ref a_law)
  g_MOST_PLACES : ∃ t, mg "MOST_PLACES" = some (.int 6 t)
  g_MOST_MOVES : ∃ t, mg "MOST_MOVES" = some (.int 8 t)
  g_MOST_WEIGHT : ∃ t, mg "MOST_WEIGHT" = some (.int 99 t)
  z_abs : mg "abs" = none
  z_len : mg "len" = none
  z_max : mg "max" = none
  z_range : mg "range" = none
  z_sorted : mg "sorted" = none
  z_tuple : mg "tuple" = none
  z_min : mg "min" = none
  z_int : mg "int" = none
  z_list : mg "list" = none
  z_set : mg "set" = none
  z_isinstance : mg "isinstance" = none
section
variable {P : Program} {w : World} {K : PySem.W.Frag} {mg : Str → Option Value} {base : Heap}
/-! the dice of the laws -/
def Dice (s : List Int) (o : Ow) : Prop := ∃ a c e, o = .lst [.int a, .kls (s.map .int), .int c, .int e] ∧ 0 ≤ a ∧ 0 ≤ e
@[reducible] def sp__law_cell : J.Spec := fun ps R _ => ∃ (ns : List Int) (k : Int), ps = [.v (.kls (ns.map .int)), .v (.int k)] ∧ 0 ≤ k ∧ ns.length ≤ 63 ∧ ∀ r, R (.fz (.int r)) []
theorem ok__law_cell (T : Tx K mg) : FnOk P w K mg base (L2.CX P w) 1 T.a__law_cell T.d__law_cell ["_law_script", "_law_k"] (SpJ K sp__law_cell) := by
  refine jfn T.F__law_cell z__law_cell zo__law_cell zf__law_cell sp__law_cell (fun as R RX h => ?_) (fun X B E as R RX cj hE h => ?_)
  · obtain ⟨_, _, rfl, _⟩ := h; rfl
  obtain ⟨ns, k, rfl, hk, hl, hR⟩ := h
  show JSs X B _ [.fz (.kls (ns.map .int)), .fz (.int k)] _
  refine JSs.cons (JS.ite (jt_lt ?_))
  refine jv_name cj 1 (jv_len cj 0 T.z_len (jv_name cj 0 ⟨_, .kls, ?_⟩))
  refine ⟨_, _, rfl, rfl, fun hc => ?_, fun hc => ?_⟩
  · have hc := of_decide_eq_true hc
    rw [List.length_map] at hc
    exact JSs.one (JS.ret (JV.je (jv_ix (jv_name cj 0 (jv_name cj 1 ⟨_, _, _, .kls, rfl, at_int hk hc, hR _⟩)))))
  · exact JSs.nil (JSs.one (JS.ret (JV.je (jv_int (hR 0)))))
@[reducible] def sp__law_dice : J.Spec := fun ps R _ => ∃ (ns : List Int) (k : Int), ps = [.v (.kls (ns.map .int)), .v (.int k)] ∧ 0 ≤ k ∧ ns.length ≤ 63 ∧ ∀ o, Dice ns o → R (.ow o) []
theorem ok__law_dice (T : Tx K mg) : FnOk P w K mg base (L2.CX P w) 2 T.a__law_dice T.d__law_dice ["_law_script", "_law_k"] (SpJ K sp__law_dice) := by
  refine jfn T.F__law_dice z__law_dice zo__law_dice zf__law_dice sp__law_dice (fun as R RX h => ?_) (fun X B E as R RX cj hE h => ?_)
  · obtain ⟨_, _, rfl, _⟩ := h; rfl
  obtain ⟨ns, k, rfl, hk, hl, hR⟩ := h
  show JSs X B _ [.fz (.kls (ns.map .int)), .fz (.int k), .no] _
  refine JSs.cons (js_set cj 2 (JV.je (jv_abs cj 0 T.z_abs (JE.jv (je_call0 cj (ok__law_cell T) (by decide) 1 T.g__law_cell T.F__law_cell.kp T.b__law_cell ?_)))))
  refine JD.cons (jv_name cj 0 (JD.cons (jv_name cj 1 (JD.nil ⟨ns, k, rfl, hk, hl, fun r => ?_⟩))))
  refine ⟨_, rfl, ?_⟩
  refine JSs.one (JS.ret (je_lst ?_))
  refine JD.cons (jv_mod (jv_name cj 2 (jv_int ⟨_, _, rfl, rfl, by decide, ?_⟩)))
  refine JD.cons (jv_name cj 0 (JD.cons (jv_add (jv_name cj 1 (jv_int ⟨_, _, rfl, rfl, ?_⟩))) ))
  refine JD.cons (jv_mul (jv_intB cj 2 T.z_int (jv_ge (jv_name cj 2 (jv_pow (jv_int (jv_int ⟨_, _, rfl, rfl, ⟨by decide, by decide, by decide⟩, ⟨_, _, rfl, rfl, ⟨_, rfl, ?_⟩⟩⟩)))))))
  refine jv_name cj 2 ⟨_, _, rfl, rfl, ?_, JD.nil ⟨?_, ?_⟩⟩
  · left; split <;> omega
  · show 4 ≤ sizeLine
    decide
  · refine hR _ ⟨_, _, _, rfl, Int.emod_nonneg _ (by decide), ?_⟩
    refine Int.mul_nonneg (by split <;> omega) (by split <;> omega)
@[reducible] def sp__law_off : J.Spec := fun ps R _ => ∃ (s : List Int) (o : Ow) (m : Int), ps = [.b o, .v (.int m)] ∧ Dice s o ∧ s.length ≤ 63 ∧ 1 ≤ m ∧ m < 1073741824 ∧ ∀ r o', 0 ≤ r → r < m → Dice s o' → R (.fz (.int r)) [(0, o')]
theorem ok__law_off (T : Tx K mg) : FnOk P w K mg base (L2.CX P w) 2 T.a__law_off T.d__law_off ["_law_d", "_law_most"] (SpJ K sp__law_off) := by
  refine jfn T.F__law_off z__law_off zo__law_off zf__law_off sp__law_off (fun as R RX h => ?_) (fun X B E as R RX cj hE h => ?_)
  · obtain ⟨_, _, _, rfl, _⟩ := h; rfl
  obtain ⟨ns, _, m, rfl, ⟨a, c, e, rfl, ha, he⟩, hl, hm, hm2, hR⟩ := h
  show JSs X B _ [.bw 0 (.lst [.int a, .kls (ns.map .int), .int c, .int e]), .fz (.int m), .no, .no] _
  refine JSs.cons (JS.ite (jt_gt ?_))
  refine jv_ixO cj 0 (jv_int ⟨_, _, _, rfl, rfl, rfl, ?_⟩)
  refine jv_int ⟨_, _, rfl, rfl, fun hc => ?_, fun hc => ?_⟩
  · refine JSs.cons (js_set cj 2 (JV.je (jv_mod (jv_ixO cj 0 (jv_int ⟨_, _, _, rfl, rfl, rfl, ?_⟩)))))
    refine jv_name cj 1 ⟨_, _, rfl, rfl, ?_, ?_⟩
    · omega
    refine JSs.cons (js_setix cj 0 (jv_fdiv (jv_ixO cj 0 (jv_int ⟨_, _, _, rfl, rfl, rfl, ?_⟩))))
    refine jv_name cj 1 ⟨_, _, rfl, rfl, ⟨by omega, hm2⟩, ?_⟩
    refine jv_int ⟨_, _, _, rfl, rfl, rfl, ?_⟩
    refine JSs.one (JS.ret (JV.je (jv_name cj 2 ?_)))
    refine hR _ _ (Int.emod_nonneg _ ?_) (Int.emod_lt_of_pos _ ?_) ⟨_, _, _, rfl, ha, Int.ediv_nonneg he ?_⟩ <;> omega
  · refine JSs.nil ?_
    refine JSs.cons (js_set cj 3 (JV.je (jv_abs cj 0 T.z_abs (JE.jv (je_call0 cj (ok__law_cell T) (by decide) 1 T.g__law_cell T.F__law_cell.kp T.b__law_cell ?_)))))
    refine JD.cons (jv_ixO cj 0 (jv_int ⟨_, _, _, rfl, rfl, rfl, ?_⟩))
    refine JD.cons (jv_mod (jv_ixO cj 0 (jv_int ⟨_, _, _, rfl, rfl, rfl, ?_⟩)))
    refine jv_max2 cj 2 T.z_max (jv_int (jv_len cj 3 T.z_len (jv_ixO cj 0 (jv_int ⟨_, _, _, rfl, rfl, rfl, ⟨_, .kls, ?_⟩⟩))))
    refine ⟨_, _, rfl, rfl, ⟨_, _, rfl, rfl, by split <;> omega, JD.nil ⟨ns, _, rfl, Int.emod_nonneg _ (by split <;> omega), hl, fun r => ?_⟩⟩⟩
    refine ⟨_, rfl, ?_⟩
    refine JSs.cons (js_setix cj 0 (jv_add (jv_ixO cj 0 (jv_int ⟨_, _, _, rfl, rfl, rfl, ?_⟩))))
    refine jv_int ⟨_, _, rfl, rfl, jv_int ⟨_, _, _, rfl, rfl, rfl, ?_⟩⟩
    refine JSs.cons (js_setix cj 0 (jv_mod (jv_add (jv_add (jv_mul (jv_ixO cj 0 (jv_int ⟨_, _, _, rfl, rfl, rfl, ?_⟩)))))))
    refine jv_int ⟨_, _, rfl, rfl, by right; omega, jv_int ⟨_, _, rfl, rfl, jv_name cj 3 ⟨_, _, rfl, rfl, jv_int ⟨_, _, rfl, rfl, by decide, jv_int ⟨_, _, _, rfl, rfl, rfl, ?_⟩⟩⟩⟩⟩
    refine JSs.one (JS.ret (JV.je (jv_mod (jv_fdiv (jv_ixO cj 0 (jv_int ⟨_, _, _, rfl, rfl, rfl, ?_⟩))))))
    refine jv_int ⟨_, _, rfl, rfl, ⟨by decide, by decide⟩, jv_name cj 1 ⟨_, _, rfl, rfl, ?_, ?_⟩⟩
    · omega
    refine hR _ _ (Int.emod_nonneg _ ?_) (Int.emod_lt_of_pos _ ?_) ⟨_, _, _, rfl, Int.emod_nonneg _ ?_, he⟩ <;> omega
theorem updB_setOw {G : List Ent} {i : Nat} {o o' : Ow} {d : D} (h : entOw G[i]? = some o) : updB [.b i, .v d] [(0, o')] 0 G = setOw G i o' := by
  apply List.ext_getElem?
  intro n
  have hlen := setOw_len G i o'
  cases hn : G[n]? with
  | none => rw [List.getElem?_eq_none (by rw [updB_len]; exact List.getElem?_eq_none_iff.mp hn), List.getElem?_eq_none (by rw [hlen]; exact List.getElem?_eq_none_iff.mp hn)]
  | some e =>
    rw [updB_at _ _ 0 G n e hn, Nat.zero_add]
    have hlt := (List.getElem?_eq_some_iff.mp hn).1
    by_cases z : i = n
    · subst z
      rcases entOw_cases h with q | ⟨m, q⟩
      · rw [q] at hn; cases hn
        rw [setOw_ow q, List.getElem?_set_self hlt]
        simp [newE, findB]
      · rw [q] at hn; cases hn
        rw [setOw_bw q, List.getElem?_set_self hlt]
        simp [newE, findB]
    · have ne : newE [.b i, .v d] [(0, o')] n e = e := by simp [newE, findB, z]
      rw [ne]
      rcases entOw_cases h with q | ⟨m, q⟩
      · rw [setOw_ow q, List.getElem?_set_ne z, hn]
      · rw [setOw_bw q, List.getElem?_set_ne z, hn]
/-- _law_off(d, e) -/
theorem jv_off {S : Sc} {k : Nat} {X : Cx} {B : Bs} {E : XW} {G : List Ent} {e : Expr} {x : Str} {pos p px : Pos} {Q : D → List Ent → Prop} (T : Tx K mg) (cj : CJ P w K mg base S k X B E) (hk : 2 ≤ k) (j i : Nat) (s : List Int) (hs : s.length ≤ 63)
    (h : JV X B e G fun d G1 => ∃ o m, d = .int m ∧ entOw G1[i]? = some o ∧ Dice s o ∧ (1 ≤ m ∧ m < 1073741824) ∧ ∀ r o', 0 ≤ r → r < m → Dice s o' → Q (.int r) (setOw G1 i o'))
    (hj : S.gl[j]? = some ("_law_off" : Str) := by rfl) (hN : S.N[i]? = some x := by rfl) (hv : i ∈ S.vi := by decide) (hg : (entOw G[i]?).isSome = true := by rfl)
    (he : starEach [.Name x px, e] X.env = (false, eval (.Name x px) X.env) :: starEach [e] X.env := by rfl) (he2 : starEach [e] X.env = (false, eval e X.env) :: starEach [] X.env := by rfl) (hpl : (backTo pos (starEach [e] X.env)).any (·.1) = false := by rfl) :
    JV X B (.Call (.Name "_law_off" p) [.Name x px, e] [] pos) G Q :=
  JE.jv (je_call cj (ok__law_off T) hk j T.g__law_off T.F__law_off.kp T.b__law_off (JA.lend cj i (JA.cons (h.imp fun d G1 ⟨o, m, ed, ho, hd, hm, hq⟩ => JA.nil (by
    subst ed
    refine ⟨?_, s, o, m, ?_, hd, hs, hm.1, hm.2, fun r o' h0 h1 h2 => ?_⟩
    · show ((entOw G1[i]?).isSome && (findB i 0 [.v (.int m)]).isNone && okB G1 [.v (.int m)]) = true
      rw [ho]; rfl
    · show (match entOw G1[i]? with | some o => Par.b o | none => Par.v .non) :: _ = _
      rw [ho]; rfl
    · show Q (.int r) (updB [.b i, .v (.int m)] [(0, o')] 0 G1)
      rw [updB_setOw ho]; exact hq r o' h0 h1 h2)) he2) hN hv hg he) hj he hpl)
/-! chains -/
def mvD (p : Int × List Int) : D := .tup [.int p.1, .tup (p.2.map .int)]
def MvOk (many : Int) (p : Int × List Int) : Prop := (1 ≤ p.1 ∧ p.1 ≤ 99) ∧ (p.2.length : Int) = many ∧ ∀ x ∈ p.2, 0 ≤ x ∧ x < many
structure Ch (many : Int) (mv : List (Int × List Int)) : Prop where
  m1 : 1 ≤ many
  m2 : many ≤ 6
  l1 : 1 ≤ mv.length
  l2 : mv.length ≤ 8
  mv : ∀ p ∈ mv, MvOk many p
@[reducible] def chD (C : Addr) (many : Int) (mv : List (Int × List Int)) : D := .ins C ["many", "moves"] [.int many, .lst (mv.map mvD)]
@[reducible] def sp_must (T : Tx K mg) : J.Spec := fun ps R RX => ∃ b : Bool, ps = [.v (.bl b)] ∧ (b = true → R (.fz .non) []) ∧ (b = false → RX ⟨T.C_BadChain, []⟩)
theorem ok_must (T : Tx K mg) : FnOk P w K mg base (L2.CX P w) 1 T.a_must T.d_must ["good"] (SpJ K (sp_must T)) := by
  refine jfn T.F_must z_must zo_must zf_must (sp_must T) (fun as R RX h => ?_) (fun X B E as R RX cj hE h => ?_)
  · obtain ⟨_, rfl, _⟩ := h; rfl
  obtain ⟨b, rfl, h1, h2⟩ := h
  show JSs X B _ [.fz (.bl b)] _
  refine JSs.one (JS.ite (jt_not (jt_val (jv_name cj 0 ⟨_, rfl, fun hc => ?_, fun hc => ?_⟩))))
  · refine JSs.one (js_raise cj 0 PySem.F.excBase_ValueError T.xi_BadChain T.g_BadChain T.kp_BadChain T.su_BadChain T.ty_BadChain (hE _ _ (h2 ?_)))
    simpa using hc
  · refine JSs.nil (h1 ?_)
    simpa using hc
/-- must(e) as a statement -/
theorem js_must {S : Sc} {k : Nat} {X : Cx} {B : Bs} {E : XW} {G : List Ent} {e : Expr} {pos p pos2 : Pos} {Dd : Dn} (T : Tx K mg) (cj : CJ P w K mg base S k X B E) (hk : 1 ≤ k) (j : Nat) (h : JV X B e G fun d G' => ∃ b : Bool, d = .bl b ∧ (b = true → Dd.nx G') ∧ (b = false → E.R ⟨T.C_BadChain, []⟩ G'))
    (hj : S.gl[j]? = some ("must" : Str) := by rfl) (he : starEach [e] X.env = (false, eval e X.env) :: starEach [] X.env := by rfl) (hpl : (backTo pos (starEach [] X.env)).any (·.1) = false := by rfl) (hs : swapsWith (.Call (.Name "must" p) [e] [] pos) none pos2.line X.env = pure false := by rfl) :
    JS X B (.Expr (.Call (.Name "must" p) [e] [] pos) pos2) G Dd :=
  JS.drop (je_call0 cj (ok_must T) hk j T.g_must T.F_must.kp T.b_must (JD.cons (h.imp fun d G' ⟨b, e1, h1, h2⟩ => by subst e1; exact JD.nil ⟨b, rfl, h1, h2⟩) he) hj he hpl) hs
@[reducible] def sp_Chain_init (T : Tx K mg) : J.Spec := fun ps R RX => ∃ (many : Int) (mv : List (Int × List Int)), ps = [.b (.ins T.C_Chain [] []), .v (.int many), .v (.lst (mv.map mvD))] ∧
  (Ch many mv → R (.fz .non) [(0, .ins T.C_Chain ["many", "moves"] [.int many, .lst (mv.map mvD)])]) ∧ (¬ Ch many mv → RX ⟨T.C_BadChain, []⟩)
theorem ok_Chain_init (T : Tx K mg) : FnOk P w K mg base (L2.CX P w) 2 T.a_Chain___init__ T.d_Chain___init__ ["self", "many", "moves"] (SpJ K (sp_Chain_init T)) := by
  refine jfn T.F_Chain___init__ z_Chain___init__ zo_Chain___init__ zf_Chain___init__ (sp_Chain_init T) (fun as R RX h => ?_) (fun X B E as R RX cj hE h => ?_)
  · obtain ⟨_, _, rfl, _⟩ := h; rfl
  obtain ⟨many, mv, rfl, h1, h2⟩ := h
  show JSs X B _ [.bw 0 (.ins T.C_Chain [] []), .fz (.int many), .fz (.lst (mv.map mvD)), .no, .no, .no] _
  have bad : ∀ G, ¬ Ch many mv → E.R ⟨T.C_BadChain, []⟩ G := fun G h => hE _ _ (h2 h)
  refine JSs.cons (js_must T cj (by decide) 0 (jv_and (jv_lele (jv_int (jv_name cj 1 ⟨_, _, rfl, rfl, fun k1 => jv_globI cj 1 T.g_MOST_PLACES ⟨_, rfl, _, rfl, fun k2 => ?_, fun k2 => ⟨_, rfl, fun z => absurd z Bool.false_ne_true, fun _ => bad _ fun c => ?_⟩⟩, fun k1 => ⟨_, rfl, fun z => absurd z Bool.false_ne_true, fun _ => ⟨_, rfl, fun z => absurd z Bool.false_ne_true, fun _ => bad _ fun c => ?_⟩⟩⟩)))))
  rotate_left
  · have := c.m2; simp at k2; omega
  · have := c.m1; omega
  have k2 := of_decide_eq_true k2
  refine jv_one (jv_lele (jv_int (jv_len cj 2 T.z_len (jv_name cj 2 ⟨_, .lst, _, _, rfl, rfl, fun k3 => jv_globI cj 3 T.g_MOST_MOVES ⟨_, rfl, _, rfl, fun k4 => ?_, fun k4 => bad _ fun c => ?_⟩, fun k3 => ⟨_, rfl, fun z => absurd z Bool.false_ne_true, fun _ => bad _ fun c => ?_⟩⟩))))
  rotate_left
  · have := c.l2; simp at k4; omega
  · have := c.l1; simp at k3; omega
  have k4 := of_decide_eq_true k4
  simp at k3 k4
  -- the moves
  refine JSs.cons (js_for cj (ji_seq (jv_name cj 2 ⟨_, .inl rfl, fun i G => (∀ j p, j < i → mv[j]? = some p → MvOk many p) ∧ ∃ a b c, G = [.bw 0 (.ins T.C_Chain [] []), .fz (.int many), .fz (.lst (mv.map mvD)), a, b, c], ⟨fun j p hj => absurd hj (Nat.not_lt_zero j), _, _, _, rfl⟩, fun i d G hi hd hI => ?_, fun G hI => ?_⟩)))
  · obtain ⟨hI, a, b, c, rfl⟩ := hI
    obtain ⟨⟨wt, row⟩, hp, rfl⟩ := map_get hd
    refine JG.tup cj (JGs.cons (JG.name cj 3 (JGs.cons (JG.name cj 4 (JGs.nil ?_)))))
    show JSs X B _ [.bw 0 (.ins T.C_Chain [] []), .fz (.int many), .fz (.lst (mv.map mvD)), .fz (.int wt), .fz (.tup (row.map .int)), c] _
    have nb : ∀ G, ¬ MvOk many (wt, row) → E.R ⟨T.C_BadChain, []⟩ G := fun G h => bad G fun c => h (c.mv _ (List.mem_of_getElem? hp))
    refine JSs.cons (js_must T cj (by decide) 0 (jv_and (jv_lele (jv_int (jv_name cj 3 ⟨_, _, rfl, rfl, fun k5 => jv_globI cj 4 T.g_MOST_WEIGHT ⟨_, rfl, _, rfl, fun k6 => ?_, fun k6 => ⟨_, rfl, fun z => absurd z Bool.false_ne_true, fun _ => nb _ fun c => ?_⟩⟩, fun k5 => ⟨_, rfl, fun z => absurd z Bool.false_ne_true, fun _ => ⟨_, rfl, fun z => absurd z Bool.false_ne_true, fun _ => nb _ fun c => ?_⟩⟩⟩)))))
    rotate_left
    · have := c.1.2; simp at k6 this; omega
    · have := c.1.1; simp at this; omega
    have k6 := of_decide_eq_true k6
    refine jv_one (jv_eqi cj (jv_len cj 2 T.z_len (jv_name cj 4 ⟨_, .tup, jv_name cj 1 ⟨_, _, rfl, rfl, ⟨_, rfl, fun k7 => ?_, fun k7 => nb _ fun c => ?_⟩⟩⟩)))
    rotate_left
    · have := c.2.1; simp at k7 this; omega
    simp at k7
    refine JSs.one (js_for cj (ji_tup (jv_name cj 4 ⟨_, rfl, fun k G => (∀ j x, j < k → row[j]? = some x → 0 ≤ x ∧ x < many) ∧ ∃ c, G = [.bw 0 (.ins T.C_Chain [] []), .fz (.int many), .fz (.lst (mv.map mvD)), .fz (.int wt), .fz (.tup (row.map .int)), c], ⟨fun j p hj => absurd hj (Nat.not_lt_zero j), _, rfl⟩, fun k d G hk hd hI => ?_, fun G hI => ?_⟩)))
    · obtain ⟨hI, c, rfl⟩ := hI
      obtain ⟨x, hx, rfl⟩ := map_int_get hd
      refine JG.name cj 5 (JSs.one (js_must T cj (by decide) 0 ?_))
      have nb2 : ∀ G, ¬ (0 ≤ x ∧ x < many) → E.R ⟨T.C_BadChain, []⟩ G := fun G h => nb G fun c => h (c.2.2 x (List.mem_of_getElem? hx))
      refine jv_lelt (jv_int (jv_name cj 5 ⟨_, _, rfl, rfl, fun k8 => jv_name cj 1 ⟨_, rfl, ⟨_, rfl, fun k9 => ⟨fun j y hj hy => ?_, _, rfl⟩, fun k9 => nb2 _ fun c => ?_⟩⟩, fun k8 => ⟨_, rfl, fun z => absurd z Bool.false_ne_true, fun _ => nb2 _ fun c => ?_⟩⟩))
      · have k9 := of_decide_eq_true k9
        rcases Nat.lt_succ_iff_lt_or_eq.mp hj with hj | rfl
        · exact hI j y hj hy
        · rw [hx] at hy; cases hy; omega
      · simp at k9; omega
      · omega
    · obtain ⟨hI2, c, rfl⟩ := hI
      refine ⟨fun j p hj hp2 => ?_, _, _, _, rfl⟩
      rcases Nat.lt_succ_iff_lt_or_eq.mp hj with hj | rfl
      · exact hI j p hj hp2
      · rw [hp] at hp2; cases hp2
        refine ⟨⟨k5, k6⟩, k7, fun x hx => ?_⟩
        obtain ⟨j, hj⟩ := List.getElem?_of_mem hx
        refine hI2 j x ?_ hj
        have := (List.getElem?_eq_some_iff.mp hj).1
        simpa using this
  · obtain ⟨hI, a, b, c, rfl⟩ := hI
    have ok : Ch many mv := ⟨k1, k2, by omega, by omega, fun p hp => by
      obtain ⟨j, hj⟩ := List.getElem?_of_mem hp
      refine hI j p ?_ hj
      have := (List.getElem?_eq_some_iff.mp hj).1
      simpa using this⟩
    refine JSs.forget 3 (JSs.forget 4 (JSs.forget 5 ?_))
    show JSs X B _ [.bw 0 (.ins T.C_Chain [] []), .fz (.int many), .fz (.lst (mv.map mvD)), .no, .no, .no] _
    refine JSs.cons (js_fld cj 0 (jv_name cj 1 ⟨_, _, _, rfl, T.cl_Chain, T.na_Chain_many, by decide, by simp, ?_⟩))
    refine JSs.one (js_fld cj 0 (JE.jv (je_listOf cj 5 T.z_list (jv_name cj 2 ⟨_, .lst, ⟨_, _, _, rfl, T.cl_Chain, T.na_Chain_moves, by decide, ?_, ?_⟩⟩))))
    · decide +kernel
    exact h1 ok
/-! the laws' chains -/
def toldD (many : Int) (mv : List (Int × List Int)) : D := .tup [.int many, .lst (mv.map mvD)]
@[reducible] def sp__law_chain : J.Spec := fun ps R _ => ∃ (s : List Int) (o : Ow) (m : Int), ps = [.b o, .v (.int m)] ∧ Dice s o ∧ s.length ≤ 63 ∧ 1 ≤ m ∧ m ≤ 6 ∧ ∀ many mv o', Ch many mv → Dice s o' → R (.fz (toldD many mv)) [(0, o')]
theorem ok__law_chain (T : Tx K mg) : FnOk P w K mg base (L2.CX P w) 3 T.a__law_chain T.d__law_chain ["_law_d", "_law_most"] (SpJ K sp__law_chain) := by
  refine jfn T.F__law_chain z__law_chain zo__law_chain zf__law_chain sp__law_chain (fun as R RX h => ?_) (fun X B E as R RX cj hE h => ?_)
  · obtain ⟨_, _, _, rfl, _⟩ := h; rfl
  obtain ⟨s, o, m, rfl, ho, hl, hm, hm2, hR⟩ := h
  show JSs X B _ [.bw 0 o, .fz (.int m), .no, .no, .no, .no, .no, .no, .no] _
  refine JSs.cons (js_set cj 2 (JV.je (jv_add (jv_int (jv_off T cj (by decide) 0 0 s hl (jv_name cj 1 ⟨_, _, rfl, rfl, ho, ?_, fun r o1 r0 r1 ho1 => ⟨_, _, rfl, rfl, ?_⟩⟩))))))
  · omega
  obtain ⟨many, hmany⟩ : ∃ many : Int, 1 + r = many := ⟨_, rfl⟩
  rw [hmany]
  refine JSs.cons (js_set cj 3 (JV.je (jv_off T cj (by decide) 0 0 s hl (jv_int ⟨_, _, rfl, rfl, ho1, by decide, fun way o2 w0 w1 ho2 => ?_⟩))))
  refine JSs.cons (js_set cj 4 (je_lst (JD.nil ⟨lz rfl, ?_⟩)))
  refine JSs.cons (js_for cj (ji_range1 cj 1 T.z_range (jv_add (jv_int ?_))))
  refine jv_off T cj (by decide) 0 0 s hl (jv_ix (JE.jv (je_lst ?_)))
  refine JD.cons (jv_int (JD.cons (jv_int (JD.cons (jv_int (JD.nil ⟨lz rfl, ?_⟩))))))
  refine jv_off T cj (by decide) 0 0 s hl (jv_int ⟨_, _, rfl, rfl, ho2, by decide, fun r3 o3 a3 b3 ho3 => ?_⟩)
  obtain ⟨q, hq, hq2⟩ : ∃ q : Int, atI [D.int 4, .int 4, .int 8] r3 = some (.int q) ∧ 4 ≤ q ∧ q ≤ 8 := by
    have : r3 = 0 ∨ r3 = 1 ∨ r3 = 2 := by omega
    rcases this with rfl | rfl | rfl
    · exact ⟨4, rfl, by decide⟩
    · exact ⟨4, rfl, by decide⟩
    · exact ⟨8, rfl, by decide⟩
  refine ⟨_, _, _, .lst, rfl, hq, _, _, rfl, rfl, ho3, ?_, fun r4 o4 a4 b4 ho4 => ⟨_, _, rfl, rfl, _, rfl, ?_, ?_, fun i G => ∃ (mv : List (Int × List Int)) (o : Ow) (a b c d : Ent), G = [.bw 0 o, .fz (.int m), .fz (.int many), .fz (.int way), .ow (.lst (mv.map mvD)), a, b, c, d] ∧ Dice s o ∧ mv.length = i ∧ ∀ p ∈ mv, MvOk many p, ⟨[], o4, _, _, _, _, rfl, ho4, rfl, fun p hp => by cases hp⟩, fun i d G hi hd hI => ?_, fun G hI => ?_⟩⟩
  · omega
  · omega
  · omega
  · obtain ⟨mv, o, a, b, c, e, rfl, ho, hml, hmv⟩ := hI
    subst hd
    refine JG.name cj 5 ?_
    -- the row
    refine JSs.mid (fun G => ∃ (o : Ow) (row : List Int), G = [.bw 0 o, .fz (.int m), .fz (.int many), .fz (.int way), .ow (.lst (mv.map mvD)), .fz (.int (0 + (i : Nat))), .ow (.lst (row.map .int)), c, .no] ∧ Dice s o ∧ (row.length : Int) = many ∧ ∀ x ∈ row, 0 ≤ x ∧ x < many) ?_ ?_
    · refine js_setLcB cj 6 [0, 2, 8] [8] ["_law_off"] [("_law_place", 8)] (ji_range1 cj 1 T.z_range (jv_name cj 2 ⟨_, rfl, ?_, ?_, LcI.map (fun _ d => ∃ x, d = .int x ∧ 0 ≤ x ∧ x < many) ?_ (fun G => ∃ o, G = [.bw 0 o, .fz (.int m), .fz (.int many), .fz (.int way), .ow (.lst (mv.map mvD)), .fz (.int (0 + (i : Nat))), b, c, .no] ∧ Dice s o) ⟨o, rfl, ho⟩ (fun j d G2 hj hd hI X1 c1 => ?_) fun acc G2 hacc hv hI => ?_⟩))
      · omega
      · omega
      · unfold sizeLine; omega
      · obtain ⟨o, rfl, ho⟩ := hI
        refine JG.name c1 8 fun X3 c3 => ?_
        refine jv_off T c3 (by decide) 0 0 s hl (jv_name c3 2 ⟨_, _, rfl, rfl, ho, ?_, fun r o' h0 h1 ho' => ⟨⟨_, rfl, h0, h1⟩, _, rfl, ho'⟩⟩)
        omega
      · obtain ⟨o, rfl, ho⟩ := hI
        obtain ⟨row, rfl, hrow⟩ := ints_ex (p := fun x => 0 ≤ x ∧ x < many) hv
        refine ⟨o, row, rfl, ho, ?_, hrow⟩
        simp at hacc; omega
    rintro G ⟨o, row, rfl, ho, hlen, hrow⟩
    -- sorted
    refine JSs.mid (fun G => ∃ (o : Ow) (row : List Int), G = [.bw 0 o, .fz (.int m), .fz (.int many), .fz (.int way), .ow (.lst (mv.map mvD)), .fz (.int (0 + (i : Nat))), .ow (.lst (row.map .int)), c, .no] ∧ Dice s o ∧ (row.length : Int) = many ∧ ∀ x ∈ row, 0 ≤ x ∧ x < many) ?_ ?_
    · refine JS.ite (jt_eqi cj (jv_name cj 3 (jv_int ⟨_, _, rfl, rfl, fun hc => ?_, fun hc => ?_⟩)))
      · refine JSs.one (js_set cj 6 (je_sorted cj 2 T.z_sorted (jv_nameF cj 6 ⟨row, rfl, ?_, ?_⟩)))
        · omega
        · refine ⟨o, isort row, rfl, ho, ?_, fun x hx => hrow x ((isort_perm row).mem_iff.mp hx)⟩
          rw [(isort_perm row).length_eq]; exact hlen
      · exact JSs.nil ⟨o, row, rfl, ho, hlen, hrow⟩
    rintro G ⟨o, row, rfl, ho, hlen, hrow⟩
    -- near ones
    refine JSs.mid (fun G => ∃ (o : Ow) (row : List Int), G = [.bw 0 o, .fz (.int m), .fz (.int many), .fz (.int way), .ow (.lst (mv.map mvD)), .fz (.int (0 + (i : Nat))), .ow (.lst (row.map .int)), c, .no] ∧ Dice s o ∧ (row.length : Int) = many ∧ ∀ x ∈ row, 0 ≤ x ∧ x < many) ?_ ?_
    · refine JS.ite (jt_eqi cj (jv_name cj 3 (jv_int ⟨_, _, rfl, rfl, fun hc => ?_, fun hc => ?_⟩)))
      · refine JSs.one (js_setLcB cj 6 [0, 2, 8] [8] ["max", "min", "_law_off"] [("_law_place", 8)] (ji_range1 cj 1 T.z_range (jv_name cj 2 ⟨_, rfl, ?_, ?_, LcI.map (fun _ d => ∃ x, d = .int x ∧ 0 ≤ x ∧ x < many) ?_ (fun G => ∃ o, G = [.bw 0 o, .fz (.int m), .fz (.int many), .fz (.int way), .ow (.lst (mv.map mvD)), .fz (.int (0 + (i : Nat))), .ow (.lst (row.map .int)), c, .no] ∧ Dice s o) ⟨o, rfl, ho⟩ (fun j d G2 hj hd hI X1 c1 => ?_) fun acc G2 hacc hv hI => ?_⟩)))
        · omega
        · omega
        · unfold sizeLine; omega
        · obtain ⟨o, rfl, ho⟩ := hI
          subst hd
          refine JG.name c1 8 fun X3 c3 => ?_
          refine jv_max2 c3 0 T.z_max (jv_int (jv_min2 c3 1 T.z_min (jv_sub (jv_name c3 2 (jv_int ⟨_, _, rfl, rfl, ?_⟩)))))
          refine jv_sub (jv_add (jv_name c3 8 (jv_off T c3 (by decide) 2 0 s hl (jv_int ⟨_, _, rfl, rfl, ho, by decide, fun r o' h0 h1 ho' => ?_⟩))))
          refine ⟨_, _, rfl, rfl, jv_int ⟨_, _, rfl, rfl, ⟨_, _, rfl, rfl, ⟨_, _, rfl, rfl, ⟨⟨_, rfl, ?_⟩, _, rfl, ho'⟩⟩⟩⟩⟩
          repeat' split
          all_goals omega
        · obtain ⟨o, rfl, ho⟩ := hI
          obtain ⟨row, rfl, hrow⟩ := ints_ex (p := fun x => 0 ≤ x ∧ x < many) hv
          refine ⟨o, row, rfl, ho, ?_, hrow⟩
          simp at hacc; omega
      · exact JSs.nil ⟨o, row, rfl, ho, hlen, hrow⟩
    rintro G ⟨o, row, rfl, ho, hlen, hrow⟩
    -- the weight
    refine JSs.cons (js_set cj 7 (JV.je (jv_ix (JE.jv (je_lst ?_)))))
    refine JD.cons (jv_int (JD.cons (jv_add (jv_int ?_))))
    refine jv_off T cj (by decide) 0 0 s hl (jv_int ⟨_, _, rfl, rfl, ho, by decide, fun r5 o5 a5 b5 ho5 => ⟨_, _, rfl, rfl, ?_⟩⟩)
    refine JD.cons (jv_add (jv_int ?_))
    refine jv_off T cj (by decide) 0 0 s hl (jv_int ⟨_, _, rfl, rfl, ho5, by decide, fun r6 o6 a6 b6 ho6 => ⟨_, _, rfl, rfl, ?_⟩⟩)
    refine JD.nil ⟨lz rfl, ?_⟩
    refine jv_off T cj (by decide) 0 0 s hl (jv_int ⟨_, _, rfl, rfl, ho6, by decide, fun r7 o7 a7 b7 ho7 => ?_⟩)
    obtain ⟨wt, hwt, hwt2⟩ : ∃ q : Int, atI [D.int 1, .int (1 + r5), .int (1 + r6)] r7 = some (.int q) ∧ 1 ≤ q ∧ q ≤ 99 := by
      have : r7 = 0 ∨ r7 = 1 ∨ r7 = 2 := by omega
      rcases this with rfl | rfl | rfl
      · exact ⟨1, rfl, by decide⟩
      · exact ⟨_, rfl, by omega⟩
      · exact ⟨_, rfl, by omega⟩
    refine ⟨_, _, _, .lst, rfl, hwt, ?_⟩
    refine JSs.one (js_append cj 4 (jv_tup ?_))
    refine JD.cons (jv_name cj 7 (JD.cons (jv_tupleOf cj 3 T.z_tuple (jv_nameF cj 6 ⟨_, .lst, ?_⟩))))
    refine JD.nil ⟨lz rfl, _, rfl, ?_, ?_⟩
    · rw [List.length_map]; unfold sizeLine; omega
    · refine ⟨mv ++ [(wt, row)], o7, .fz (.int (0 + (i : Nat))), .fz (.lst (row.map .int)), .fz (.int wt), .no, ?_, ho7, by simp [hml], fun p hp => ?_⟩
      · rw [List.map_append]; rfl
      · rcases List.mem_append.mp hp with hp | hp
        · exact hmv p hp
        · rcases List.mem_singleton.mp hp with rfl
          exact ⟨hwt2, hlen, hrow⟩
  · obtain ⟨mv, o, a, b, c, e, rfl, ho, hml, hmv⟩ := hI
    refine JSs.forget 5 (JSs.forget 6 (JSs.forget 7 (JSs.forget 8 ?_)))
    refine JSs.one (JS.ret (JV.je (jv_tup (JD.cons (jv_name cj 2 (JD.cons (jv_nameF cj 4 (JD.nil ⟨lz rfl, ?_⟩))))))))
    exact hR many mv o ⟨by omega, by omega, by omega, by omega, hmv⟩ ho
/-- _law_made -/
@[reducible] def sp__law_made (T : Tx K mg) : J.Spec := fun ps R RX => ∃ (many : Int) (mv : List (Int × List Int)), ps = [.v (toldD many mv)] ∧ (Ch many mv → R (.ow (.ins T.C_Chain ["many", "moves"] [.int many, .lst (mv.map mvD)])) []) ∧ (¬ Ch many mv → RX ⟨T.C_BadChain, []⟩)
theorem ok__law_made (T : Tx K mg) : FnOk P w K mg base (L2.CX P w) 4 T.a__law_made T.d__law_made ["_law_told"] (SpJ K (sp__law_made T)) := by
  refine jfn T.F__law_made z__law_made zo__law_made zf__law_made (sp__law_made T) (fun as R RX h => ?_) (fun X B E as R RX cj hE h => ?_)
  · obtain ⟨_, _, rfl, _⟩ := h; rfl
  obtain ⟨many, mv, rfl, h1, h2⟩ := h
  show JSs X B _ [.fz (toldD many mv)] _
  refine JSs.one (JS.ret (je_make cj (ok_Chain_init T) (by decide) 0 T.mk_Chain T.g_Chain T.b_Chain___init__ ?_))
  refine JD.cons (jv_ix (jv_name cj 0 (jv_int ⟨_, _, _, .tup, rfl, rfl, ?_⟩)))
  refine JD.cons (JE.jv (je_listOf cj 1 T.z_list (jv_ix (jv_name cj 0 (jv_int ⟨_, _, _, .tup, rfl, rfl, ⟨_, .lst, JD.nil ⟨many, mv, rfl, fun c => ⟨rfl, _, rfl, h1 c⟩, fun c => hE _ _ (h2 c)⟩⟩⟩)))))
/-! the weight of all moves -/
def wsum (mv : List (Int × List Int)) : Int := (mv.map (·.1)).sum
theorem wsum_pos {many : Int} {mv : List (Int × List Int)} (c : Ch many mv) : 1 ≤ wsum mv ∧ wsum mv ≤ 792 := by
  have go : ∀ l : List (Int × List Int), (∀ p ∈ l, MvOk many p) → (l.length : Int) ≤ wsum l ∧ wsum l ≤ 99 * l.length := by
    intro l
    induction l with
    | nil => intro _; exact ⟨by decide, by decide⟩
    | cons p l ih =>
      intro h
      have h1 := (h p (by simp)).1
      have h2 := ih fun q hq => h q (by simp [hq])
      simp only [wsum, List.map_cons, List.sum_cons, List.length_cons] at h2 ⊢
      omega
  have := go mv c.mv
  have := c.l1
  have := c.l2
  omega
/-- where a move leads -/
def rw_ (mv : List (Int × List Int)) (n : Int) : List Int := (mv.getD n.toNat (0, [])).2
def NumOk (mv : List (Int × List Int)) (n : Int) : Prop := 0 ≤ n ∧ n < mv.length
theorem rw_get {mv : List (Int × List Int)} {n : Int} (h : NumOk mv n) : ∃ wt, mv[n.toNat]? = some (wt, rw_ mv n) := by
  have hlt : n.toNat < mv.length := by have := h.1; have := h.2; omega
  refine ⟨mv[n.toNat].1, ?_⟩
  rw [List.getElem?_eq_getElem hlt]
  simp [rw_, List.getD_eq_getElem?_getD, List.getElem?_eq_getElem hlt]
theorem Ch.row {many : Int} {mv : List (Int × List Int)} (c : Ch many mv) {n : Int} (h : NumOk mv n) : ((rw_ mv n).length : Int) = many ∧ ∀ x ∈ rw_ mv n, 0 ≤ x ∧ x < many := by
  obtain ⟨wt, h1⟩ := rw_get h
  exact (c.mv _ (List.mem_of_getElem? h1)).2
theorem Ch.rowI {many : Int} {mv : List (Int × List Int)} (c : Ch many mv) {n p : Int} (h : NumOk mv n) (h0 : 0 ≤ p) (h1 : p < many) : 0 ≤ gI (rw_ mv n) p ∧ gI (rw_ mv n) p < many := (c.row h).2 _ (gI_mem h0 (by rw [(c.row h).1]; exact h1))
theorem map_acc {ns : List Int} {acc : List D} {f : Int → Int} (hl : acc.length = ns.length) (h : ∀ (i : Nat) (d : D), acc[i]? = some d → ∀ x, ns[i]? = some x → d = .int (f x)) : acc = (ns.map f).map D.int := by
  rw [List.map_map]
  apply List.ext_getElem?
  intro i
  by_cases hi : i < ns.length
  · have hlt : i < acc.length := by omega
    rw [List.getElem?_map, List.getElem?_eq_getElem hi, List.getElem?_eq_getElem hlt]
    rw [h i _ (List.getElem?_eq_getElem hlt) _ (List.getElem?_eq_getElem hi)]; rfl
  · rw [List.getElem?_eq_none (by omega), List.getElem?_eq_none (by simp; omega)]
/-- a place behind some moves in turn -/
def Wk (mv : List (Int × List Int)) : List Int → Int → Int
  | [], p => p
  | n :: ns, p => Wk mv ns (gI (rw_ mv n) p)
theorem Wk_app {mv : List (Int × List Int)} : ∀ (a b : List Int) (p : Int), Wk mv (a ++ b) p = Wk mv b (Wk mv a p)
  | [], _, _ => rfl
  | n :: a, b, p => Wk_app a b _
theorem Wk_ok {many : Int} {mv : List (Int × List Int)} (c : Ch many mv) : ∀ (ns : List Int) (p : Int), (∀ n ∈ ns, NumOk mv n) → 0 ≤ p → p < many → 0 ≤ Wk mv ns p ∧ Wk mv ns p < many
  | [], p, _, h0, h1 => ⟨h0, h1⟩
  | n :: ns, p, h, h0, h1 => by
    have := c.rowI (h n (by simp)) h0 h1
    exact Wk_ok c ns _ (fun m hm => h m (by simp [hm])) this.1 this.2
/-- where all walks end that begin so far back -/
def ends (many : Int) (mv : List (Int × List Int)) (ns : List Int) (f : Nat) : List Int := (rg many).map (Wk mv (ns.take f).reverse)
theorem ends_zero (many : Int) (mv : List (Int × List Int)) (ns : List Int) : ends many mv ns 0 = rg many := by
  unfold ends; simp [Wk]
theorem ends_len (many : Int) (mv : List (Int × List Int)) (ns : List Int) (f : Nat) : (ends many mv ns f).length = many.toNat := by unfold ends; rw [List.length_map, rg_len]
theorem ends_succ {many : Int} {mv : List (Int × List Int)} {ns : List Int} {f : Nat} {n : Int} (c : Ch many mv) (hn : ∀ n ∈ ns, NumOk mv n) (h : ns[f]? = some n) : ends many mv ns (f + 1) = (rw_ mv n).map (gI (ends many mv ns f)) := by
  have ok := hn n (List.mem_of_getElem? h)
  symm
  unfold ends
  refine eq_rg (by rw [List.length_map]; have := (c.row ok).1; omega) fun i hi => ?_
  have hr := (c.row ok).1
  rw [gI_map (by omega) (by omega)]
  have hx := c.rowI (p := i) ok (by omega) (by omega)
  rw [gI_rgmap hx.1 hx.2]
  have ht : (ns.take (f + 1)).reverse = n :: (ns.take f).reverse := by
    rw [List.take_add_one, h]; simp
  rw [ht]; rfl
inductive Dr (many : Int) (mv : List (Int × List Int)) (ns : List Int) : D → Prop
  | one {f : Nat} (h : f ≤ ns.length) (o : One (ends many mv ns f)) (n : ∀ g < f, ¬ One (ends many mv ns g)) : Dr many mv ns (.tup [.int (gI (ends many mv ns f) 0), .int f])
  | none (n : ∀ g ≤ ns.length, ¬ One (ends many mv ns g)) : Dr many mv ns .non
theorem Dr.uniq {many : Int} {mv : List (Int × List Int)} {ns : List Int} {d e : D} (h : Dr many mv ns d) (h' : Dr many mv ns e) : d = e := by
  cases h with
  | @one f h1 o n => cases h' with
    | @one g h2 o' n' =>
      have : f = g := by
        rcases Nat.lt_trichotomy f g with q | q | q
        · exact absurd o (n' f q)
        · exact q
        · exact absurd o' (n g q)
      subst this; rfl
    | none n' => exact absurd o (n' f h1)
  | none n => cases h' with
    | @one g h2 o' n' => exact absurd o' (n g h2)
    | none n' => rfl
/-! what can be come to -/
def Rch (mv : List (Int × List Int)) (p q : Int) : Prop := ∃ ns : List Int, (∀ n ∈ ns, NumOk mv n) ∧ Wk mv ns p = q
theorem Rch.refl {mv : List (Int × List Int)} (p : Int) : Rch mv p p := ⟨[], fun n h => (by cases h), rfl⟩
theorem Rch.trans {mv : List (Int × List Int)} {p q r : Int} (a : Rch mv p q) (b : Rch mv q r) : Rch mv p r := by
  obtain ⟨n1, h1, rfl⟩ := a
  obtain ⟨n2, h2, rfl⟩ := b
  exact ⟨n1 ++ n2, fun n hn => (List.mem_append.mp hn).elim (h1 n) (h2 n), Wk_app _ _ _⟩
theorem Rch.step {mv : List (Int × List Int)} {p q n : Int} (a : Rch mv p q) (h : NumOk mv n) : Rch mv p (gI (rw_ mv n) q) :=
  a.trans ⟨[n], fun m hm => by rcases List.mem_singleton.mp hm with rfl; exact h, rfl⟩
theorem Rch.ok {many : Int} {mv : List (Int × List Int)} (c : Ch many mv) {p q : Int} (h : Rch mv p q) (p0 : 0 ≤ p) (p1 : p < many) : 0 ≤ q ∧ q < many := by
  obtain ⟨ns, h1, rfl⟩ := h
  exact Wk_ok c ns p h1 p0 p1
/-- what holds of the first one and is carried on by moves -/
theorem Rch.closed {mv : List (Int × List Int)} {S : Int → Prop} (hs : ∀ x, S x → ∀ n, NumOk mv n → S (gI (rw_ mv n) x)) {p q : Int} (h : Rch mv p q) (hp : S p) : S q := by
  obtain ⟨ns, h1, rfl⟩ := h
  induction ns generalizing p with
  | nil => exact hp
  | cons n ns ih => exact ih (hs p hp n (h1 n (by simp))) (fun m hm => h1 m (by simp [hm]))
open Classical in
noncomputable def rchL (many : Int) (mv : List (Int × List Int)) (p : Int) : List Int := (rg many).filter fun q => decide (Rch mv p q)
theorem rg_lt (n : Int) : (rg n).Pairwise (· < ·) := by
  unfold rg
  rw [List.pairwise_map]
  exact List.pairwise_lt_range.imp fun h => by omega
theorem rchL_lt (many : Int) (mv : List (Int × List Int)) (p : Int) : (rchL many mv p).Pairwise (· < ·) := (rg_lt many).filter _
open Classical in
theorem rchL_mem {many : Int} {mv : List (Int × List Int)} (c : Ch many mv) {p q : Int} (p0 : 0 ≤ p) (p1 : p < many) : q ∈ rchL many mv p ↔ Rch mv p q := by
  unfold rchL
  rw [List.mem_filter, decide_eq_true_eq, rg_mem]
  exact ⟨fun h => h.2, fun h => ⟨h.ok c p0 p1, h⟩⟩
theorem rchL_in {many : Int} {mv : List (Int × List Int)} {p q : Int} (h : q ∈ rchL many mv p) : 0 ≤ q ∧ q < many := rg_mem.mp (List.mem_filter.mp h).1
theorem rchL_len {many : Int} {mv : List (Int × List Int)} {p : Int} : (rchL many mv p).length ≤ many.toNat := by
  have := List.length_filter_le (fun q => @decide (Rch mv p q) (Classical.propDecidable _)) (rg many)
  rw [rg_len] at this
  exact this
theorem rchL_uniq {many : Int} {mv : List (Int × List Int)} {p : Int} {l : List Int} (h : l.Pairwise (· < ·)) (hm : ∀ q, q ∈ l ↔ q ∈ rchL many mv p) : l = rchL many mv p := ss_uniq h (rchL_lt _ _ _) hm
/-- the reach of what is come to -/
theorem rchL_sub {many : Int} {mv : List (Int × List Int)} (c : Ch many mv) {p o : Int} (p0 : 0 ≤ p) (p1 : p < many) (h : o ∈ rchL many mv p) {q : Int} (hq : q ∈ rchL many mv o) : q ∈ rchL many mv p := by
  have ho := rchL_in h
  exact (rchL_mem c p0 p1).mpr (((rchL_mem c p0 p1).mp h).trans ((rchL_mem c ho.1 ho.2).mp hq))
theorem rchL_eq {many : Int} {mv : List (Int × List Int)} (c : Ch many mv) {p o : Int} (p0 : 0 ≤ p) (p1 : p < many) (h : o ∈ rchL many mv p) (h2 : p ∈ rchL many mv o) : rchL many mv o = rchL many mv p := by
  have ho := rchL_in h
  exact ss_uniq (rchL_lt _ _ _) (rchL_lt _ _ _) fun q => ⟨rchL_sub c p0 p1 h, rchL_sub c ho.1 ho.2 h2⟩
theorem rchL_self {many : Int} {mv : List (Int × List Int)} (c : Ch many mv) {p : Int} (p0 : 0 ≤ p) (p1 : p < many) : p ∈ rchL many mv p := (rchL_mem c p0 p1).mpr (.refl p)
/-- closed, and the least of its group -/
def Cls1 (many : Int) (mv : List (Int × List Int)) (p : Int) : Prop := ∀ o ∈ rchL many mv p, p ∈ rchL many mv o
def Lst1 (many : Int) (mv : List (Int × List Int)) (p : Int) : Prop := ∀ o ∈ rchL many mv p, p ≤ o
open Classical in
noncomputable def clB (many : Int) (mv : List (Int × List Int)) (p : Int) : Bool := decide (Lst1 many mv p ∧ Cls1 many mv p)
noncomputable def clTo (many : Int) (mv : List (Int × List Int)) (i : Nat) : List (List Int) := (((rg many).take i).filter (clB many mv)).map (rchL many mv)
noncomputable def clF (many : Int) (mv : List (Int × List Int)) : List (List Int) := clTo many mv many.toNat
theorem clTo_succ {many : Int} {mv : List (Int × List Int)} {i : Nat} (hi : i < many.toNat) : clTo many mv (i + 1) = clTo many mv i ++ (if clB many mv (i : Nat) = true then [rchL many mv (i : Nat)] else []) := by
  unfold clTo
  rw [List.take_add_one, rg_get hi, List.filter_append, List.map_append]
  congr 1
  by_cases h : clB many mv ((i : Nat) : Int) = true
  · rw [if_pos h]; simp [h]
  · rw [if_neg h]; simp [h]
theorem clTo_len {many : Int} {mv : List (Int × List Int)} {i : Nat} : (clTo many mv i).length ≤ many.toNat := by
  unfold clTo
  rw [List.length_map]
  have h1 := List.length_filter_le (clB many mv) ((rg many).take i)
  have h2 : ((rg many).take i).length ≤ many.toNat := by rw [List.length_take, rg_len]; omega
  omega
theorem rg_take_mem {many : Int} {i : Nat} {x : Int} : x ∈ (rg many).take i ↔ 0 ≤ x ∧ x < many ∧ x < i := by
  constructor
  · intro h
    obtain ⟨j, hj⟩ := List.getElem?_of_mem h
    by_cases hji : j < i
    · rw [List.getElem?_take_of_lt hji] at hj
      have hlt := (List.getElem?_eq_some_iff.mp hj).1
      rw [rg_len] at hlt
      rw [rg_get hlt] at hj
      cases hj
      omega
    · rw [List.getElem?_eq_none (by rw [List.length_take]; omega)] at hj; cases hj
  · intro ⟨h0, h1, h2⟩
    have hlt : x.toNat < many.toNat := by omega
    have := rg_get hlt
    refine List.mem_of_getElem? (i := x.toNat) ?_
    rw [List.getElem?_take_of_lt (by omega), this]
    congr 1; omega
open Classical in
/-- a group that is closed is already there just if its least place was met -/
theorem clTo_mem {many : Int} {mv : List (Int × List Int)} (c : Ch many mv) {i : Nat} (hi : i < many.toNat) (h : Cls1 many mv (i : Nat)) : rchL many mv (i : Nat) ∈ clTo many mv i ↔ ¬ Lst1 many mv (i : Nat) := by
  have i0 : (0 : Int) ≤ (i : Nat) := by omega
  have i1 : ((i : Nat) : Int) < many := by omega
  constructor
  · intro hm hl
    obtain ⟨q, hq, e⟩ := List.mem_map.mp hm
    obtain ⟨hq1, hq2⟩ := List.mem_filter.mp hq
    obtain ⟨q0, q1, q2⟩ := rg_take_mem.mp hq1
    have : q ∈ rchL many mv (i : Nat) := by rw [← e]; exact rchL_self c q0 q1
    have := hl q this
    omega
  · intro hn
    -- the least of the group
    have : ∃ m, m ∈ rchL many mv (i : Nat) ∧ ∀ o ∈ rchL many mv (i : Nat), m ≤ o := by
      have hs := rchL_lt many mv (i : Nat)
      cases hr : rchL many mv ((i : Nat) : Int) with
      | nil => have := rchL_self c i0 i1; rw [hr] at this; cases this
      | cons m r =>
        rw [hr] at hs
        refine ⟨m, by simp, fun o ho => ?_⟩
        rcases List.mem_cons.mp ho with rfl | ho
        · exact Int.le_refl _
        · exact Int.le_of_lt ((List.pairwise_cons.mp hs).1 o ho)
    obtain ⟨m, hm, hmin⟩ := this
    have hm2 := rchL_in hm
    have e := rchL_eq c i0 i1 hm (h m hm)
    have hlt : m < (i : Nat) := by
      apply Classical.byContradiction
      intro z
      refine hn fun o ho => ?_
      have := hmin o ho
      omega
    refine List.mem_map.mpr ⟨m, List.mem_filter.mpr ⟨rg_take_mem.mpr ⟨hm2.1, hm2.2, hlt⟩, ?_⟩, e⟩
    refine decide_eq_true ⟨fun o ho => ?_, fun o ho => ?_⟩
    · rw [e] at ho; exact hmin o ho
    · rw [e] at ho
      have := rchL_eq c i0 i1 ho (h o ho)
      rw [this]; exact hm
open Classical in
/-- there is one -/
theorem clF_ne {many : Int} {mv : List (Int × List Int)} (c : Ch many mv) : clF many mv ≠ [] := by
  have m1 := c.m1
  -- a place with the fewest
  have go : ∀ (n : Nat) (p : Int), 0 ≤ p → p < many → (rchL many mv p).length ≤ n → ∃ q, 0 ≤ q ∧ q < many ∧ Cls1 many mv q := by
    intro n
    induction n with
    | zero =>
      intro p p0 p1 hl
      have := rchL_self c p0 p1
      cases hr : rchL many mv p with
      | nil => rw [hr] at this; cases this
      | cons a r => rw [hr] at hl; simp at hl
    | succ n ih =>
      intro p p0 p1 hl
      by_cases h : Cls1 many mv p
      · exact ⟨p, p0, p1, h⟩
      · have : ∃ o, o ∈ rchL many mv p ∧ p ∉ rchL many mv o := by
          apply Classical.byContradiction
          intro z
          exact h fun o ho => Classical.byContradiction fun z2 => z ⟨o, ho, z2⟩
        obtain ⟨o, ho, hn⟩ := this
        have ho2 := rchL_in ho
        refine ih o ho2.1 ho2.2 ?_
        have hsub : ∀ x, x ∈ p :: rchL many mv o → x ∈ rchL many mv p := fun x hx => by
          rcases List.mem_cons.mp hx with rfl | hx
          · exact rchL_self c p0 p1
          · exact rchL_sub c p0 p1 ho hx
        have := List.Nodup.length_le_of_subset (List.nodup_cons.mpr ⟨hn, nodup_lt (rchL_lt many mv o)⟩) (l₂ := rchL many mv p) hsub
        rw [List.length_cons] at this
        omega
  obtain ⟨q, q0, q1, hq⟩ := go _ 0 (Int.le_refl _) (by omega) (Nat.le_refl _)
  -- its least one
  intro z
  have hi : q.toNat < many.toNat := by omega
  have eq : ((q.toNat : Nat) : Int) = q := by omega
  by_cases hl : Lst1 many mv q
  · have : rchL many mv q ∈ clF many mv := List.mem_map.mpr ⟨q, List.mem_filter.mpr ⟨rg_take_mem.mpr ⟨q0, q1, by omega⟩, decide_eq_true ⟨hl, hq⟩⟩, rfl⟩
    rw [z] at this; cases this
  · have := (clTo_mem c hi (by rw [eq]; exact hq)).mpr (by rw [eq]; exact hl)
    obtain ⟨m, hm, _⟩ := List.mem_map.mp this
    obtain ⟨hm1, hm2⟩ := List.mem_filter.mp hm
    have hm3 := rg_take_mem.mp hm1
    have : rchL many mv m ∈ clF many mv := List.mem_map.mpr ⟨m, List.mem_filter.mpr ⟨rg_take_mem.mpr ⟨hm3.1, hm3.2.1, by omega⟩, hm2⟩, rfl⟩
    rw [z] at this; cases this
/-- places that are come to in so many steps -/
def stg (mv : List (Int × List Int)) (p : Int) : Nat → List Int
  | 0 => [p]
  | t + 1 => ss (stg mv p t ++ mv.flatMap fun m => (stg mv p t).map fun x => gI m.2 x)
theorem stg_mem {mv : List (Int × List Int)} {p : Int} {t : Nat} {x : Int} : x ∈ stg mv p (t + 1) ↔ x ∈ stg mv p t ∨ ∃ n, NumOk mv n ∧ ∃ y ∈ stg mv p t, gI (rw_ mv n) y = x := by
  show x ∈ ss _ ↔ _
  rw [ss_mem, List.mem_append, List.mem_flatMap]
  refine or_congr Iff.rfl ⟨fun ⟨m, hm, h⟩ => ?_, fun ⟨n, ok, y, hy, e⟩ => ?_⟩
  · obtain ⟨y, hy, e⟩ := List.mem_map.mp h
    obtain ⟨j, hj⟩ := List.getElem?_of_mem hm
    have hlt := (List.getElem?_eq_some_iff.mp hj).1
    refine ⟨(j : Nat), ⟨by omega, by omega⟩, y, hy, ?_⟩
    have : rw_ mv ((j : Nat) : Int) = m.2 := by simp [rw_, hj]
    rw [this]; exact e
  · obtain ⟨wt, hg⟩ := rw_get ok
    exact ⟨_, List.mem_of_getElem? hg, List.mem_map.mpr ⟨y, hy, e⟩⟩
theorem stg_rch {mv : List (Int × List Int)} {p : Int} : ∀ {t : Nat} {x : Int}, x ∈ stg mv p t → Rch mv p x
  | 0, x, h => by rcases List.mem_singleton.mp h with rfl; exact .refl _
  | t + 1, x, h => by
    rcases stg_mem.mp h with h | ⟨n, ok, y, hy, rfl⟩
    · exact stg_rch h
    · exact (stg_rch hy).step ok
theorem stg_lt {mv : List (Int × List Int)} {p : Int} : ∀ t, (stg mv p t).Pairwise (· < ·)
  | 0 => List.pairwise_singleton _ _
  | t + 1 => ss_sorted _
def stgC (mv : List (Int × List Int)) (p : Int) (t : Nat) : Prop := ∀ x ∈ stg mv p t, ∀ n, NumOk mv n → gI (rw_ mv n) x ∈ stg mv p t
theorem stg_grow {mv : List (Int × List Int)} {p : Int} : ∀ t, stgC mv p t ∨ t + 1 ≤ (stg mv p t).length
  | 0 => .inr (Nat.le_refl _)
  | t + 1 => by
    by_cases hc : stgC mv p t
    · left
      intro x hx n ok
      have back : ∀ x, x ∈ stg mv p (t + 1) → x ∈ stg mv p t := fun x hx => by
        rcases stg_mem.mp hx with h | ⟨n, ok, y, hy, rfl⟩
        · exact h
        · exact hc y hy n ok
      exact stg_mem.mpr (.inl (hc x (back x hx) n ok))
    · rcases stg_grow (mv := mv) (p := p) t with h | h
      · exact absurd h hc
      right
      have : ∃ y, y ∈ stg mv p (t + 1) ∧ y ∉ stg mv p t := by
        apply Classical.byContradiction
        intro z
        refine hc fun x hx n ok => Classical.byContradiction fun z2 => z ⟨_, stg_mem.mpr (.inr ⟨n, ok, x, hx, rfl⟩), z2⟩
      obtain ⟨y, hy, hn⟩ := this
      have hsub : ∀ x, x ∈ y :: stg mv p t → x ∈ stg mv p (t + 1) := fun x hx => by
        rcases List.mem_cons.mp hx with rfl | hx
        · exact hy
        · exact stg_mem.mpr (.inl hx)
      have := List.Nodup.length_le_of_subset (List.nodup_cons.mpr ⟨hn, nodup_lt (stg_lt t)⟩) (l₂ := stg mv p (t + 1)) hsub
      rw [List.length_cons] at this
      omega
theorem stg_sub {mv : List (Int × List Int)} {p : Int} : ∀ t, p ∈ stg mv p t
  | 0 => by simp [stg]
  | t + 1 => stg_mem.mpr (.inl (stg_sub t))
theorem stg_in {many : Int} {mv : List (Int × List Int)} (c : Ch many mv) {p : Int} (p0 : 0 ≤ p) (p1 : p < many) {t : Nat} {x : Int} (h : x ∈ stg mv p t) : 0 ≤ x ∧ x < many := (stg_rch h).ok c p0 p1
theorem stg_len {many : Int} {mv : List (Int × List Int)} (c : Ch many mv) {p : Int} (p0 : 0 ≤ p) (p1 : p < many) (t : Nat) : (stg mv p t).length ≤ many.toNat := by
  have := List.Nodup.length_le_of_subset (nodup_lt (stg_lt (mv := mv) (p := p) t)) (l₂ := rg many) fun x hx => rg_mem.mpr (stg_in c p0 p1 hx)
  rw [rg_len] at this
  exact this
theorem stg_all {many : Int} {mv : List (Int × List Int)} (c : Ch many mv) {p : Int} (p0 : 0 ≤ p) (p1 : p < many) : stg mv p many.toNat = rchL many mv p := by
  refine rchL_uniq (stg_lt _) fun q => ⟨fun h => (rchL_mem c p0 p1).mpr (stg_rch h), fun h => ?_⟩
  have hl := stg_len c p0 p1 many.toNat
  rcases stg_grow (mv := mv) (p := p) many.toNat with hc | hc
  · exact Rch.closed (S := fun x => x ∈ stg mv p many.toNat) (fun x hx n ok => hc x hx n ok) ((rchL_mem c p0 p1).mp h) (stg_sub _)
  · omega
/-! pairs of places that meet -/
inductive Mt (mv : List (Int × List Int)) : Int → Int → Prop
  | one {a b : Int} {m : Int × List Int} : m ∈ mv → gI m.2 a = gI m.2 b → Mt mv a b
  | step {a b : Int} {m : Int × List Int} : m ∈ mv → Mt mv (gI m.2 a) (gI m.2 b) → Mt mv a b
theorem Mt.symm {mv : List (Int × List Int)} {a b : Int} (h : Mt mv a b) : Mt mv b a := by
  induction h with
  | one hm e => exact .one hm e.symm
  | step hm _ ih => exact .step hm ih
def srt (a b : Int) : Int × Int := if a ≤ b then (a, b) else (b, a)
theorem srt_symm (a b : Int) : srt a b = srt b a := by
  unfold srt
  by_cases h : a ≤ b
  · by_cases h2 : b ≤ a
    · have : a = b := by omega
      rw [this]
    · rw [if_pos h, if_neg h2]
  · rw [if_neg h, if_pos (by omega)]
theorem isort2 (a b : Int) : isort [a, b] = [(srt a b).1, (srt a b).2] := by
  unfold srt
  show insI a (insI b []) = _
  show insI a [b] = _
  unfold insI
  by_cases h : a ≤ b
  · rw [if_pos h, if_pos h]
  · rw [if_neg h, if_neg h]; rfl
theorem Mt.srt {mv : List (Int × List Int)} {a b : Int} : Mt mv (srt a b).1 (srt a b).2 ↔ Mt mv a b := by
  unfold Kz.srt
  split
  · exact Iff.rfl
  · exact ⟨Mt.symm, Mt.symm⟩
def prsTo (many : Int) : Nat → List (Int × Int)
  | 0 => []
  | i + 1 => prsTo many i ++ (List.range (many.toNat - (i + 1))).map fun j => (((i : Nat) : Int), ((i + 1 + j : Nat) : Int))
def prs (many : Int) : List (Int × Int) := prsTo many many.toNat
theorem prsTo_mem {many : Int} {a b : Int} : ∀ {i : Nat}, (a, b) ∈ prsTo many i ↔ 0 ≤ a ∧ a < i ∧ a < b ∧ b < many
  | 0 => by
    constructor
    · intro h; cases h
    · rintro ⟨h1, h2, _⟩; omega
  | i + 1 => by
    show (a, b) ∈ prsTo many i ++ _ ↔ _
    rw [List.mem_append, prsTo_mem, List.mem_map]
    constructor
    · rintro (⟨h1, h2, h3, h4⟩ | ⟨j, hj, e⟩)
      · exact ⟨h1, by omega, h3, h4⟩
      · have := List.mem_range.mp hj
        injection e with e1 e2
        omega
    · rintro ⟨h1, h2, h3, h4⟩
      by_cases z : a < i
      · exact .inl ⟨h1, z, h3, h4⟩
      · refine .inr ⟨(b - a - 1).toNat, List.mem_range.mpr (by omega), ?_⟩
        have e1 : ((i : Nat) : Int) = a := by omega
        have e2 : ((i + 1 + (b - a - 1).toNat : Nat) : Int) = b := by omega
        rw [e1, e2]
theorem prs_mem {many a b : Int} : (a, b) ∈ prs many ↔ 0 ≤ a ∧ a < b ∧ b < many := by
  unfold prs
  rw [prsTo_mem]
  constructor
  · rintro ⟨h1, h2, h3, h4⟩; exact ⟨h1, h3, h4⟩
  · rintro ⟨h1, h3, h4⟩; exact ⟨h1, by omega, h3, h4⟩
theorem prs_srt {many a b : Int} (a0 : 0 ≤ a) (a1 : a < many) (b0 : 0 ≤ b) (b1 : b < many) (hne : a ≠ b) : srt a b ∈ prs many := by
  unfold srt
  split
  · exact prs_mem.mpr ⟨a0, by omega, b1⟩
  · exact prs_mem.mpr ⟨b0, by omega, a1⟩
theorem prsTo_len {many : Int} (m2 : many ≤ 6) (i : Nat) : (prsTo many i).length ≤ 6 * i := by
  induction i with
  | zero => exact Nat.le_refl _
  | succ i ih =>
    show (prsTo many i ++ _).length ≤ _
    rw [List.length_append, List.length_map, List.length_range]; omega
theorem prs_len {many : Int} (m2 : many ≤ 6) : (prs many).length ≤ 36 := by
  have := prsTo_len m2 many.toNat
  unfold prs
  omega
def behP (row : List Int) (p : Int × Int) : Int × Int := srt (gI row p.1) (gI row p.2)
def Fires (ks : List (Int × Int)) (p : Int × Int) (m : Int × List Int) : Prop := (behP m.2 p).1 = (behP m.2 p).2 ∨ behP m.2 p ∈ ks
def Clo (many : Int) (mv : List (Int × List Int)) (ks : List (Int × Int)) : Prop := ∀ p ∈ prs many, p ∉ ks → ∀ m ∈ mv, ¬ Fires ks p m
theorem srt_eq {a b : Int} : (srt a b).1 = (srt a b).2 ↔ a = b := by
  unfold srt
  split
  · exact Iff.rfl
  · exact ⟨fun h => h.symm, fun h => h.symm⟩
theorem gI_in {many : Int} {mv : List (Int × List Int)} (c : Ch many mv) {m : Int × List Int} (hm : m ∈ mv) {p : Int} (h0 : 0 ≤ p) (h1 : p < many) : 0 ≤ gI m.2 p ∧ gI m.2 p < many := by
  obtain ⟨_, h2, h3⟩ := c.mv m hm
  exact h3 _ (gI_mem h0 (by omega))
theorem Clo.all {many : Int} {mv : List (Int × List Int)} (c : Ch many mv) {ks : List (Int × Int)} (cl : Clo many mv ks) {a b : Int} (h : Mt mv a b) : 0 ≤ a → a < many → 0 ≤ b → b < many → a ≠ b → srt a b ∈ ks := by
  induction h with
  | @one a b m hm e =>
    intro a0 a1 b0 b1 hne
    apply Classical.byContradiction
    intro hn
    refine cl _ (prs_srt a0 a1 b0 b1 hne) hn m hm (.inl ?_)
    unfold behP srt
    by_cases h : a ≤ b
    · rw [if_pos h]
      exact srt_eq.mpr e
    · rw [if_neg h]
      exact srt_eq.mpr e.symm
  | @step a b m hm _ ih =>
    intro a0 a1 b0 b1 hne
    apply Classical.byContradiction
    intro hn
    have ra := gI_in c hm a0 a1
    have rb := gI_in c hm b0 b1
    refine cl _ (prs_srt a0 a1 b0 b1 hne) hn m hm ?_
    have e : behP m.2 (srt a b) = srt (gI m.2 a) (gI m.2 b) := by
      unfold behP srt
      by_cases h : a ≤ b
      · rw [if_pos h]
      · rw [if_neg h]
        exact srt_symm _ _
    unfold Fires
    rw [e]
    by_cases z : gI m.2 a = gI m.2 b
    · exact .inl (srt_eq.mpr z)
    · exact .inr (ih ra.1 ra.2 rb.1 rb.2 z)
structure Kn (many : Int) (mv : List (Int × List Int)) (ks : List (Int × Int)) : Prop where
  nd : ks.Nodup
  mem : ∀ p ∈ ks, p ∈ prs many ∧ Mt mv p.1 p.2
theorem Kn.len {many : Int} {mv : List (Int × List Int)} {ks : List (Int × Int)} (h : Kn many mv ks) : ks.length ≤ (prs many).length :=
  List.Nodup.length_le_of_subset h.nd fun p hp => (h.mem p hp).1
theorem Kn.add {many : Int} {mv : List (Int × List Int)} {ks : List (Int × Int)} (h : Kn many mv ks) {p : Int × Int} {m : Int × List Int} (hp : p ∈ prs many) (hn : p ∉ ks) (hm : m ∈ mv) (f : Fires ks p m) : Kn many mv (ks ++ [p]) := by
  refine ⟨List.nodup_append.mpr ⟨h.nd, by simp, fun a ha b hb e => ?_⟩, fun q hq => ?_⟩
  · rw [List.mem_singleton.mp hb] at e
    rw [e] at ha; exact hn ha
  · rcases List.mem_append.mp hq with hq | hq
    · exact h.mem q hq
    · rw [List.mem_singleton.mp hq]
      refine ⟨hp, ?_⟩
      rcases f with f | f
      · exact .one hm (srt_eq.mp f)
      · exact .step hm (Mt.srt.mp (h.mem _ f).2)
/-- within one turn -/
structure TI (many : Int) (mv : List (Int × List Int)) (ks0 : List (Int × Int)) (i j : Nat) (ks : List (Int × Int)) : Prop where
  kn : Kn many mv ks
  di : (ks0.length < ks.length ∧ ¬ Clo many mv ks0) ∨ (ks = ks0 ∧ (∀ i' p, i' < i → (prs many)[i']? = some p → p ∉ ks0 → ∀ m ∈ mv, ¬ Fires ks0 p m) ∧ (∀ p, (prs many)[i]? = some p → p ∉ ks0 → ∀ j' m, j' < j → mv[j']? = some m → ¬ Fires ks0 p m))
theorem TI.start {many : Int} {mv : List (Int × List Int)} {ks0 : List (Int × Int)} (h : Kn many mv ks0) : TI many mv ks0 0 0 ks0 :=
  ⟨h, .inr ⟨rfl, fun _ _ h => absurd h (Nat.not_lt_zero _), fun _ _ _ _ _ h => absurd h (Nat.not_lt_zero _)⟩⟩
theorem TI.row {many : Int} {mv : List (Int × List Int)} {ks0 ks : List (Int × Int)} {i : Nat} (h : TI many mv ks0 i mv.length ks) : TI many mv ks0 (i + 1) 0 ks := by
  refine ⟨h.kn, h.di.imp id fun ⟨e, h1, h2⟩ => ⟨e, fun i' p hi hp hn m hm => ?_, fun _ _ _ _ _ h => absurd h (Nat.not_lt_zero _)⟩⟩
  by_cases z : i' < i
  · exact h1 i' p z hp hn m hm
  · have : i' = i := by omega
    subst this
    obtain ⟨j, hj⟩ := List.getElem?_of_mem hm
    exact h2 p hp hn j m (List.getElem?_eq_some_iff.mp hj).1 hj
theorem TI.skip {many : Int} {mv : List (Int × List Int)} {ks0 ks : List (Int × Int)} {i j : Nat} {p : Int × Int} {m : Int × List Int} (h : TI many mv ks0 i j ks) (hp : (prs many)[i]? = some p) (hm : mv[j]? = some m) (hn : p ∈ ks ∨ ¬ Fires ks p m) : TI many mv ks0 i (j + 1) ks := by
  refine ⟨h.kn, h.di.imp id fun ⟨e, h1, h2⟩ => ⟨e, h1, fun q hq hnq j' m' hj hm' => ?_⟩⟩
  by_cases z : j' < j
  · exact h2 q hq hnq j' m' z hm'
  · have : j' = j := by omega
    subst this
    rw [hp] at hq; cases hq
    rw [hm] at hm'; cases hm'
    subst e
    rcases hn with hn | hn
    · exact absurd hn hnq
    · exact hn
theorem TI.add {many : Int} {mv : List (Int × List Int)} {ks0 ks : List (Int × Int)} {i j : Nat} {p : Int × Int} {m : Int × List Int} (h : TI many mv ks0 i j ks) (hp : (prs many)[i]? = some p) (hm : mv[j]? = some m) (hn : p ∉ ks) (f : Fires ks p m) : TI many mv ks0 i (j + 1) (ks ++ [p]) := by
  have hpm := List.mem_of_getElem? hp
  have hmm := List.mem_of_getElem? hm
  refine ⟨h.kn.add hpm hn hmm f, .inl ?_⟩
  rcases h.di with ⟨h1, h2⟩ | ⟨e, _, _⟩
  · exact ⟨by rw [List.length_append]; omega, h2⟩
  · subst e
    exact ⟨by rw [List.length_append]; simp, fun cl => cl p hpm hn m hmm f⟩
/-- from turn to turn -/
structure TT (many : Int) (mv : List (Int × List Int)) (t : Nat) (ks : List (Int × Int)) : Prop where
  kn : Kn many mv ks
  di : t ≤ ks.length ∨ Clo many mv ks
theorem TT.start (many : Int) (mv : List (Int × List Int)) : TT many mv 0 [] := ⟨⟨List.nodup_nil, fun _ h => by cases h⟩, .inl (Nat.zero_le _)⟩
theorem TT.turn {many : Int} {mv : List (Int × List Int)} {t : Nat} {ks0 ks : List (Int × Int)} (h0 : TT many mv t ks0) (h : TI many mv ks0 (prs many).length 0 ks) : TT many mv (t + 1) ks := by
  refine ⟨h.kn, ?_⟩
  rcases h.di with ⟨h1, h2⟩ | ⟨e, h1, _⟩
  · rcases h0.di with h3 | h3
    · exact .inl (by omega)
    · exact absurd h3 h2
  · subst e
    refine .inr fun p hp hn m hm => ?_
    obtain ⟨i, hi⟩ := List.getElem?_of_mem hp
    exact h1 i p (List.getElem?_eq_some_iff.mp hi).1 hi hn m hm
theorem TT.done {many : Int} {mv : List (Int × List Int)} {ks : List (Int × Int)} (c : Ch many mv) (h : TT many mv ((prs many).length + 1) ks) {p : Int × Int} (hp : p ∈ prs many) : p ∈ ks ↔ Mt mv p.1 p.2 := by
  have cl : Clo many mv ks := by
    rcases h.di with h1 | h1
    · have := h.kn.len; omega
    · exact h1
  refine ⟨fun q => (h.kn.mem p q).2, fun q => ?_⟩
  have hp2 := prs_mem.mp (show (p.1, p.2) ∈ prs many from hp)
  have := cl.all c q hp2.1 (by omega) (by omega) hp2.2.2 (by omega)
  have e : srt p.1 p.2 = p := by
    unfold srt
    rw [if_pos (by omega)]
  rwa [e] at this
open Classical in
noncomputable def apL (many : Int) (mv : List (Int × List Int)) : List (Int × Int) := (prs many).filter fun p => !decide (Mt mv p.1 p.2)
theorem apL_nil {many : Int} {mv : List (Int × List Int)} (h : apL many mv = []) {a b : Int} (a0 : 0 ≤ a) (a1 : a < many) (b0 : 0 ≤ b) (b1 : b < many) (hne : a ≠ b) : Mt mv a b := by
  unfold apL at h
  rw [List.filter_eq_nil_iff] at h
  have := h _ (prs_srt a0 a1 b0 b1 hne)
  simp at this
  exact Mt.srt.mp this
/-! pairs as data -/
def prD (p : Int × Int) : D := .tup [.int p.1, .int p.2]
theorem prD_inj {p q : Int × Int} (h : prD p = prD q) : p = q := by
  injection h with h
  injection h with h1 h2
  injection h2 with h2 _
  injection h1 with h1
  injection h2 with h2
  exact Prod.ext h1 h2
theorem prD_mem {l : List (Int × Int)} {p : Int × Int} : prD p ∈ l.map prD ↔ p ∈ l := by
  rw [List.mem_map]
  exact ⟨fun ⟨a, h1, h2⟩ => by rw [← prD_inj h2]; exact h1, fun h => ⟨p, h, rfl⟩⟩
theorem prD_flat (p : Int × Int) : Flat 1 (prD p) := flat_ints [p.1, p.2] |> .tup
theorem prs_flat (l : List (Int × Int)) : ∀ e ∈ l.map prD, Flat 1 e := fun e he => by
  obtain ⟨p, _, rfl⟩ := List.mem_map.mp he
  exact prD_flat p
/-- _law_apart -/
@[reducible] def sp__law_apart : J.Spec := fun ps R _ => ∃ (many : Int) (mv : List (Int × List Int)), ps = [.v (toldD many mv)] ∧ Ch many mv ∧ R (.ow (.lst ((apL many mv).map prD))) []
open Classical in
theorem ok__law_apart (T : Tx K mg) : FnOk P w K mg base (L2.CX P w) 1 T.a__law_apart T.d__law_apart ["_law_told"] (SpJ K sp__law_apart) := by
  refine jfn T.F__law_apart z__law_apart zo__law_apart zf__law_apart sp__law_apart (fun as R RX h => ?_) (fun X B E as R RX cj hE h => ?_)
  · obtain ⟨_, _, rfl, _⟩ := h; rfl
  obtain ⟨many, mv, rfl, hc, hR⟩ := h
  have m1 := hc.m1
  have m2 := hc.m2
  have l2 := hc.l2
  have pl := prs_len m2
  show JSs X B _ [.fz (toldD many mv), .no, .no, .no, .no, .no, .no, .no, .no] _
  refine JSs.cons (js_set cj 1 (je_lst (JD.nil ⟨lz rfl, ?_⟩)))
  refine JSs.cons ?_
  refine js_for cj (ji_range1 cj 0 T.z_range (jv_ix (jv_name cj 0 (jv_int ⟨_, _, D.int many, .tup, rfl, rfl, many, rfl, ?_, ?_, fun i G => ∃ a2, G = [.fz (toldD many mv), .ow (.lst ((prsTo many i).map prD)), a2, .no, .no, .no, .no, .no, .no], ⟨.no, rfl⟩, fun i d G hi hd hI => ?_, fun G hI => ?_⟩))))
  · omega
  · omega
  · obtain ⟨a2, rfl⟩ := hI
    have hd : d = .int ((i : Nat) : Int) := hd.trans (by rw [Int.zero_add])
    subst hd
    refine JG.name cj 2 ?_
    refine JSs.one ?_
    refine js_set cj 1 (je_cat (jv_nameF cj 1 (JE.jv (je_lcB cj [2, 8] [8] [] [("_law_other", 8)] (ji_range2 cj 0 T.z_range (jv_add (jv_name cj 2 (jv_int ⟨_, _, rfl, rfl, jv_ix (jv_name cj 0 (jv_int ⟨_, _, D.int many, .tup, rfl, rfl, _, many, rfl, rfl, ?_, ?_⟩))⟩))))))))
    · omega
    refine LcI.map (fun j d => d = prD (((i : Nat) : Int), ((i + 1 + j : Nat) : Int))) ?_ (fun G => G = [.fz (toldD many mv), .fz (.lst ((prsTo many i).map prD)), .fz (.int ((i : Nat) : Int)), .no, .no, .no, .no, .no, .no]) rfl (fun j d G2 hj hd hI X1 c1 => ?_) fun acc G2 hacc hv hI => ?_
    · unfold sizeLine; omega
    · subst hI
      have hd : d = .int ((i + 1 + j : Nat) : Int) := hd.trans (by congr 1)
      subst hd
      refine JG.name c1 8 fun X3 c3 => ?_
      exact jv_tup (JD.cons (jv_name c3 2 (JD.cons (jv_name c3 8 (JD.nil ⟨lz rfl, rfl, rfl⟩)))))
    subst hI
    have eacc : acc = (((List.range (many.toNat - (i + 1))).map fun j => (((i : Nat) : Int), ((i + 1 + j : Nat) : Int))).map prD) := by
      rw [List.map_map]
      apply List.ext_getElem?
      intro j
      by_cases hj : j < many.toNat - (i + 1)
      · have hlt : j < acc.length := by omega
        rw [List.getElem?_eq_getElem hlt, hv j _ (List.getElem?_eq_getElem hlt), List.getElem?_map, List.getElem?_range hj]; rfl
      · rw [List.getElem?_eq_none (by omega), List.getElem?_eq_none (by rw [List.length_map, List.length_range]; omega)]
    subst eacc
    refine ⟨_, _, rfl, rfl, ?_, .fz (.int ((i : Nat) : Int)), ?_⟩
    · have := prsTo_len m2 i
      rw [List.length_map, List.length_map, List.length_map, List.length_range]; unfold sizeLine; omega
    · rw [← List.map_append]; rfl
  obtain ⟨a2, rfl⟩ := hI
  refine JSs.forget 2 ?_
  refine @JSs.freeze X B _ _ _ 1 _ _ rfl rfl ?_
  show JSs X B _ [.fz (toldD many mv), .fz (.lst ((prs many).map prD)), .no, .no, .no, .no, .no, .no, .no] _
  refine JSs.cons (js_set cj 3 (je_lst (JD.nil ⟨lz rfl, ?_⟩)))
  refine JSs.cons ?_
  refine js_for cj (ji_range1 cj 0 T.z_range (jv_add (jv_len cj 1 T.z_len (jv_name cj 1 ⟨_, .lst, jv_int ⟨_, _, rfl, rfl, _, rfl, ?_, ?_, fun t G => ∃ ks a4 a5 a6 a7, TT many mv t ks ∧ G = [.fz (toldD many mv), .fz (.lst ((prs many).map prD)), .no, .ow (.lst (ks.map prD)), a4, a5, a6, a7, .no], ⟨[], _, _, _, _, TT.start many mv, rfl⟩, fun t d G ht hd hI => ?_, fun G hI => ?_⟩⟩))))
  · rw [List.length_map]; omega
  · rw [List.length_map]; omega
  · obtain ⟨ks0, a4, a5, a6, a7, tt, rfl⟩ := hI
    refine JG.name cj 4 ?_
    refine JSs.one ?_
    refine js_for cj (ji_seq (jv_name cj 1 ⟨_, .inl rfl, fun i G => ∃ ks a5 a6 a7, TI many mv ks0 i 0 ks ∧ G = [.fz (toldD many mv), .fz (.lst ((prs many).map prD)), .no, .ow (.lst (ks.map prD)), .fz d, a5, a6, a7, .no], ⟨ks0, a5, a6, a7, TI.start tt.kn, rfl⟩, fun i d2 G hi hd2 hI => ?_, fun G hI => ?_⟩))
    · obtain ⟨ks, a5, a6, a7, ti, rfl⟩ := hI
      obtain ⟨p, hp, rfl⟩ := map_get hd2
      have hpm := List.mem_of_getElem? hp
      have hp2 := prs_mem.mp (show (p.1, p.2) ∈ prs many from hpm)
      refine JG.name cj 5 ?_
      refine JSs.one ?_
      refine js_for cj (ji_seq (jv_ix (jv_name cj 0 (jv_int ⟨_, _, D.lst (mv.map mvD), .tup, rfl, rfl, _, .inl rfl, fun j G => ∃ ks a6 a7, TI many mv ks0 i j ks ∧ G = [.fz (toldD many mv), .fz (.lst ((prs many).map prD)), .no, .ow (.lst (ks.map prD)), .fz d, .fz (prD p), a6, a7, .no], ⟨ks, a6, a7, ti, rfl⟩, fun j d3 G hj hd3 hI => ?_, fun G hI => ?_⟩))))
      · obtain ⟨ks, a6, a7, ti, rfl⟩ := hI
        obtain ⟨⟨wt, row⟩, hm, rfl⟩ := map_get hd3
        have rok := (hc.mv _ (List.mem_of_getElem? hm)).2
        have rl : (row.length : Int) = many := rok.1
        have kl := ti.kn.len
        refine JG.name cj 6 ?_
        refine JSs.cons ?_
        refine js_set cj 7 (JV.je (jv_tupleOf cj 2 T.z_tuple (JE.jv (je_sorted cj 3 T.z_sorted (JE.jv (je_lst ?_))))))
        refine JD.cons (jv_ix (jv_ix (jv_name cj 6 (jv_int ⟨_, _, D.tup (row.map .int), .tup, rfl, rfl, jv_ix (jv_name cj 5 (jv_int ⟨_, _, D.int p.1, .tup, rfl, rfl, _, p.1, D.int (gI row p.1), .tup, rfl, at_int (ns := row) ?_ ?_, ?_⟩))⟩))))
        · omega
        · omega
        refine JD.cons (jv_ix (jv_ix (jv_name cj 6 (jv_int ⟨_, _, D.tup (row.map .int), .tup, rfl, rfl, jv_ix (jv_name cj 5 (jv_int ⟨_, _, D.int p.2, .tup, rfl, rfl, _, p.2, D.int (gI row p.2), .tup, rfl, at_int (ns := row) ?_ ?_, ?_⟩))⟩))))
        · omega
        · omega
        refine JD.nil ⟨lz rfl, [gI row p.1, gI row p.2], rfl, (by show 2 < 64; decide), ?_⟩
        rw [isort2]
        refine ⟨_, .lst, ?_⟩
        show JSs X B _ [.fz (toldD many mv), .fz (.lst ((prs many).map prD)), .no, .ow (.lst (ks.map prD)), .fz d, .fz (prD p), .fz (mvD (wt, row)), .fz (prD (behP row p)), .no] _
        have skip : (p ∈ ks ∨ ¬ Fires ks p (wt, row)) → ∃ ks' b6 b7, TI many mv ks0 i (j + 1) ks' ∧ ([.fz (toldD many mv), .fz (.lst ((prs many).map prD)), .no, .ow (.lst (ks.map prD)), .fz d, .fz (prD p), .fz (mvD (wt, row)), .fz (prD (behP row p)), .no] : List Ent) = [.fz (toldD many mv), .fz (.lst ((prs many).map prD)), .no, .ow (.lst (ks'.map prD)), .fz d, .fz (prD p), b6, b7, .no] := fun h => ⟨ks, _, _, ti.skip hp hm h, rfl⟩
        refine JSs.one ?_
        refine JS.ite (JW.jt (jw_and (jt_notinOR cj 3 (jv_name cj 5 ⟨1, 1, ks.map prD, inferInstance, rfl, prD_flat p, prs_flat ks, by decide, by decide, fun hb => ?_, fun hb => ?_⟩))))
        rotate_left
        · have hb : p ∈ ks := by
            have hb : prD p ∈ ks.map prD := by simpa using hb
            exact prD_mem.mp hb
          exact ⟨fun z => absurd z (by decide), fun _ => JSs.nil (skip (.inl hb))⟩
        have hn : p ∉ ks := fun z => by rw [decide_eq_true (prD_mem.mpr z)] at hb; cases hb
        have sz : (ks.map prD).length < sizeLine := by rw [List.length_map]; unfold sizeLine; omega
        have app : Fires ks p (wt, row) → ∃ ks' b6 b7, TI many mv ks0 i (j + 1) ks' ∧ ([.fz (toldD many mv), .fz (.lst ((prs many).map prD)), .no, .ow (.lst (ks.map prD ++ [prD p])), .fz d, .fz (prD p), .fz (mvD (wt, row)), .fz (prD (behP row p)), .no] : List Ent) = [.fz (toldD many mv), .fz (.lst ((prs many).map prD)), .no, .ow (.lst (ks'.map prD)), .fz d, .fz (prD p), b6, b7, .no] := fun f => ⟨ks ++ [p], _, _, ti.add hp hm hn f, by rw [List.map_append]; rfl⟩
        refine jw_and1 (jt_or (jt_eqi cj (jv_ix (jv_name cj 7 (jv_int ⟨_, _, D.int (behP row p).1, .tup, rfl, rfl, jv_ix (jv_name cj 7 (jv_int ⟨_, _, D.int (behP row p).2, .tup, rfl, rfl, _, _, rfl, rfl, fun hb2 => ?_, fun hb2 => ?_⟩))⟩)))))
        rotate_left
        · exact ⟨fun _ => JSs.one (js_append cj 3 (jv_name cj 5 ⟨ks.map prD, rfl, sz, app (.inl (of_decide_eq_true hb2))⟩)), fun z => absurd z (by decide)⟩
        refine jw_or1 (jt_inOR cj 3 (jv_name cj 7 ⟨1, 1, ks.map prD, inferInstance, rfl, prD_flat _, prs_flat ks, by decide, by decide, fun hb3 => ?_, fun hb3 => ?_⟩))
        · exact JSs.one (js_append cj 3 (jv_name cj 5 ⟨ks.map prD, rfl, sz, app (.inr (prD_mem.mp (of_decide_eq_true hb3)))⟩))
        · refine JSs.nil (skip (.inr fun f => ?_))
          rcases f with f | f
          · exact of_decide_eq_false hb2 f
          · exact of_decide_eq_false hb3 (prD_mem.mpr f)
      · obtain ⟨ks, a6, a7, ti, rfl⟩ := hI
        rw [List.length_map] at ti
        exact ⟨ks, .fz (prD p), a6, a7, ti.row, rfl⟩
    · obtain ⟨ks, a5, a6, a7, ti, rfl⟩ := hI
      rw [List.length_map] at ti
      exact ⟨ks, .fz d, a5, a6, a7, tt.turn ti, rfl⟩
  obtain ⟨ks, a4, a5, a6, a7, tt, rfl⟩ := hI
  have et : (((prs many).map prD).length + 1 : Int).toNat = (prs many).length + 1 := by rw [List.length_map]; omega
  rw [et] at tt
  refine JSs.forget 4 (JSs.forget 5 (JSs.forget 6 (JSs.forget 7 ?_)))
  refine @JSs.freeze X B _ _ _ 3 _ _ rfl rfl ?_
  show JSs X B _ [.fz (toldD many mv), .fz (.lst ((prs many).map prD)), .no, .fz (.lst (ks.map prD)), .no, .no, .no, .no, .no] _
  refine JSs.one (JS.ret ?_)
  refine je_lcB cj [3, 5] [5] [] [("_law_pair", 5)] (ji_seq (jv_name cj 1 ⟨_, .inl rfl, ?_, fun i acc G => acc = (((prs many).take i).filter fun p => !decide (Mt mv p.1 p.2)).map prD ∧ G = [.fz (toldD many mv), .fz (.lst ((prs many).map prD)), .no, .fz (.lst (ks.map prD)), .no, .no, .no, .no, .no], ⟨rfl, rfl⟩, fun i d acc G2 hi hd hI hlt X1 c1 => ?_, fun acc G2 hI => ?_⟩))
  · rw [List.length_map]; unfold sizeLine; omega
  · obtain ⟨rfl, rfl⟩ := hI
    obtain ⟨p, hp, rfl⟩ := map_get hd
    have dn := tt.done hc (List.mem_of_getElem? hp)
    have et : ∀ b : Bool, (!decide (Mt mv p.1 p.2)) = b → ((prs many).take (i + 1)).filter (fun p => !decide (Mt mv p.1 p.2)) = ((prs many).take i).filter (fun p => !decide (Mt mv p.1 p.2)) ++ if b = true then [p] else [] := fun b hb => by
      rw [List.take_add_one, hp, List.filter_append]
      congr 1
      show List.filter _ [p] = _
      rw [List.filter_cons, hb]; rfl
    refine JG.name c1 5 fun X2 c2 => JTs.one ?_
    refine jt_notinD c2 (jv_name c2 5 (jv_name c2 3 ⟨1, 1, ks.map prD, inferInstance, rfl, prD_flat p, prs_flat ks, by decide, by decide, fun hb X3 c3 => ?_, fun hb => ?_⟩))
    · have hn : p ∉ ks := fun z => by rw [decide_eq_true (prD_mem.mpr z)] at hb; cases hb
      refine jv_name c3 5 ⟨?_, rfl⟩
      rw [et true (by rw [decide_eq_false fun z => hn (dn.mpr z)]; rfl), List.map_append]; rfl
    · have hb : p ∈ ks := by
        have hb : prD p ∈ ks.map prD := by simpa using hb
        exact prD_mem.mp hb
      refine ⟨?_, rfl⟩
      rw [et false (by rw [decide_eq_true (dn.mp hb)]; rfl)]; simp
  obtain ⟨rfl, rfl⟩ := hI
  rw [List.length_map, List.take_length]
  exact hR
/-- pairs_of, moved_pair, goes, meeting_pairs, never -/
def prT (p : Int × Int) : D := .tp [.int p.1, .int p.2]
def kT (ks : List (Int × Int)) : KTD := ks.map fun p => ([p.1, p.2], D.bl true)
theorem kT_len (ks : List (Int × Int)) : (kT ks).length = ks.length := List.length_map ..
theorem pr2_eq {p q : Int × Int} (h : ([p.1, p.2] : List Int) = [q.1, q.2]) : p = q := by
  injection h with h1 h2
  injection h2 with h2 _
  exact Prod.ext h1 h2
theorem kT_get (p : Int × Int) : ∀ ks : List (Int × Int), (tget (kT ks) [p.1, p.2]).isSome = decide (p ∈ ks)
  | [] => rfl
  | q :: ks => by
    have ih := kT_get p ks
    unfold tget kT at ih ⊢
    rw [List.map_cons, List.find?_cons]
    by_cases e : ([q.1, q.2] : List Int) = [p.1, p.2]
    · have : q = p := pr2_eq e
      subst this
      simp
    · have hne : ¬ p = q := fun z => e (by rw [z])
      rw [decide_eq_false e]
      rw [ih]
      simp [hne]
theorem kT_put {p : Int × Int} {ks : List (Int × Int)} (h : p ∉ ks) : tput (kT ks) [p.1, p.2] (.bl true) = kT (ks ++ [p]) := by
  have e : ((kT ks).any fun q => decide (q.1 = [p.1, p.2])) = false := by
    rw [List.any_eq_false]
    intro q hq
    obtain ⟨r, hr, rfl⟩ := List.mem_map.mp hq
    simp only [decide_eq_true_eq]
    intro z
    have : r = p := pr2_eq z
    rw [this] at hr; exact h hr
  unfold tput
  rw [e, if_neg (by decide)]
  unfold kT
  rw [List.map_append]; rfl
@[reducible] def sp_pairs_of (T : Tx K mg) : J.Spec := fun ps R _ => ∃ (many : Int) (mv : List (Int × List Int)), ps = [.v (.ins T.C_Chain ["many", "moves"] [.int many, .lst (mv.map mvD)])] ∧ Ch many mv ∧ R (.ow (.lst ((prs many).map prT))) []
theorem ok_pairs_of (T : Tx K mg) : FnOk P w K mg base (L2.CX P w) 1 T.a_pairs_of T.d_pairs_of ["chain"] (SpJ K (sp_pairs_of T)) := by
  refine jfn T.F_pairs_of z_pairs_of zo_pairs_of zf_pairs_of (sp_pairs_of T) (fun as R RX h => ?_) (fun X B E as R RX cj hE h => ?_)
  · obtain ⟨_, _, rfl, _⟩ := h; rfl
  obtain ⟨many, mv, rfl, hc, hR⟩ := h
  have m1 := hc.m1
  have m2 := hc.m2
  show JSs X B _ [.fz (chD T.C_Chain many mv), .no, .no, .no] _
  refine JSs.cons (js_set cj 1 (je_lst (JD.nil ⟨lz rfl, ?_⟩)))
  refine JSs.cons ?_
  refine js_for cj (ji_range1 cj 0 T.z_range (jv_fldK cj T.cl_Chain T.na_Chain_many (jv_name cj 0 ⟨_, _, _, rfl, rfl, many, rfl, ?_, ?_, fun i G => ∃ a2, G = [.fz (chD T.C_Chain many mv), .ow (.lst ((prsTo many i).map prT)), a2, .no], ⟨.no, rfl⟩, fun i d G hi hd hI => ?_, fun G hI => ?_⟩)))
  · omega
  · omega
  · obtain ⟨a2, rfl⟩ := hI
    have hd : d = .int ((i : Nat) : Int) := hd.trans (by rw [Int.zero_add])
    subst hd
    refine JG.name cj 2 ?_
    refine JSs.one ?_
    refine js_extend cj 1 (JE.jv (je_lcB cj [2, 3] [3] [] [("other", 3)] (ji_range2 cj 0 T.z_range (jv_add (jv_name cj 2 (jv_int ⟨_, _, rfl, rfl, jv_fldK cj T.cl_Chain T.na_Chain_many (jv_name cj 0 ⟨_, _, _, rfl, rfl, _, many, rfl, rfl, ?_, ?_⟩)⟩))))))
    · omega
    refine LcI.map (fun j d => d = prT (((i : Nat) : Int), ((i + 1 + j : Nat) : Int))) ?_ (fun G => G = [.fz (chD T.C_Chain many mv), .ow (.lst ((prsTo many i).map prT)), .fz (.int ((i : Nat) : Int)), .no]) rfl (fun j d G2 hj hd hI X1 c1 => ?_) fun acc G2 hacc hv hI => ?_
    · unfold sizeLine; omega
    · subst hI
      have hd : d = .int ((i + 1 + j : Nat) : Int) := hd.trans (by congr 1)
      subst hd
      refine JG.name c1 3 fun X3 c3 => ?_
      exact jv_tupP (JD.cons (jv_name c3 2 (JD.cons (jv_name c3 3 (JD.nil ⟨lz rfl, rfl, rfl⟩)))))
    subst hI
    have eacc : acc = (((List.range (many.toNat - (i + 1))).map fun j => (((i : Nat) : Int), ((i + 1 + j : Nat) : Int))).map prT) := by
      rw [List.map_map]
      apply List.ext_getElem?
      intro j
      by_cases hj : j < many.toNat - (i + 1)
      · have hlt : j < acc.length := by omega
        rw [List.getElem?_eq_getElem hlt, hv j _ (List.getElem?_eq_getElem hlt), List.getElem?_map, List.getElem?_range hj]; rfl
      · rw [List.getElem?_eq_none (by omega), List.getElem?_eq_none (by rw [List.length_map, List.length_range]; omega)]
    subst eacc
    refine ⟨_, _, rfl, rfl, ?_, .fz (.int ((i : Nat) : Int)), ?_⟩
    · have := prsTo_len m2 i
      rw [List.length_map, List.length_map, List.length_map, List.length_range]; unfold sizeLine; omega
    · show ([_, .ow (.lst ((prsTo many i).map prT ++ _)), _, _] : List Ent) = _
      rw [← List.map_append]; rfl
  obtain ⟨a2, rfl⟩ := hI
  refine JSs.forget 2 ?_
  exact JSs.one (JS.ret (je_move cj 1 hR))
@[reducible] def sp_moved_pair : J.Spec := fun ps R _ => ∃ (many : Int) (row : List Int) (p : Int × Int), ps = [.v (.tup (row.map .int)), .v (prT p)] ∧ (row.length : Int) = many ∧ (0 ≤ p.1 ∧ p.1 < many ∧ 0 ≤ p.2 ∧ p.2 < many) ∧
  (gI row p.1 = gI row p.2 → R (.fz .non) []) ∧ (gI row p.1 ≠ gI row p.2 → R (.fz (prT (behP row p))) [])
theorem ok_moved_pair (T : Tx K mg) : FnOk P w K mg base (L2.CX P w) 1 T.a_moved_pair T.d_moved_pair ["row", "pair"] (SpJ K sp_moved_pair) := by
  refine jfn T.F_moved_pair z_moved_pair zo_moved_pair zf_moved_pair sp_moved_pair (fun as R RX h => ?_) (fun X B E as R RX cj hE h => ?_)
  · obtain ⟨_, _, _, rfl, _⟩ := h; rfl
  obtain ⟨many, row, p, rfl, hl, hp, hR1, hR2⟩ := h
  show JSs X B _ [.fz (.tup (row.map .int)), .fz (prT p), .no, .no] _
  refine JSs.cons ?_
  refine js_set cj 2 (JV.je (jv_ix (jv_name cj 0 (jv_ix (jv_name cj 1 (jv_int ⟨_, _, D.int p.1, .tp, rfl, rfl, _, p.1, D.int (gI row p.1), .tup, rfl, at_int (ns := row) ?_ ?_, ?_⟩))))))
  · omega
  · omega
  refine JSs.cons ?_
  refine js_set cj 3 (JV.je (jv_ix (jv_name cj 0 (jv_ix (jv_name cj 1 (jv_int ⟨_, _, D.int p.2, .tp, rfl, rfl, _, p.2, D.int (gI row p.2), .tup, rfl, at_int (ns := row) ?_ ?_, ?_⟩))))))
  · omega
  · omega
  refine JSs.cons (JS.ite (jt_eqi cj (jv_name cj 2 (jv_name cj 3 ⟨_, _, rfl, rfl, fun hb => ?_, fun hb => JSs.nil ?_⟩))))
  · exact JSs.one (JS.ret (JV.je (jv_non (hR1 (of_decide_eq_true hb)))))
  have hne := of_decide_eq_false hb
  refine JSs.one (JS.ret (JV.je (jv_tupP (JD.cons (jv_min2 cj 0 T.z_min (jv_name cj 2 (jv_name cj 3 ⟨_, _, rfl, rfl, ?_⟩)))))))
  refine JD.cons (jv_max2 cj 1 T.z_max (jv_name cj 2 (jv_name cj 3 ⟨_, _, rfl, rfl, JD.nil ⟨lz rfl, ?_⟩⟩)))
  have h2 := hR2 hne
  have e1 : (if gI row p.2 < gI row p.1 then gI row p.2 else gI row p.1) = (behP row p).1 := by
    unfold behP srt
    by_cases h : gI row p.1 ≤ gI row p.2
    · rw [if_pos h, if_neg (by omega)]
    · rw [if_neg h, if_pos (by omega)]
  have e2 : (if gI row p.2 > gI row p.1 then gI row p.2 else gI row p.1) = (behP row p).2 := by
    unfold behP srt
    by_cases h : gI row p.1 ≤ gI row p.2
    · rw [if_pos h, if_pos (by omega)]
    · rw [if_neg h, if_neg (by omega)]
  rw [e1, e2]
  exact h2
@[reducible] def sp_goes (T : Tx K mg) : J.Spec := fun ps R _ => ∃ (many : Int) (mv : List (Int × List Int)) (p : Int × Int) (ks : List (Int × Int)), ps = [.v (.ins T.C_Chain ["many", "moves"] [.int many, .lst (mv.map mvD)]), .v (prT p), .b (.dT (kt (kT ks)))] ∧ Ch many mv ∧ p ∈ prs many ∧
  ∀ b : Bool, (b = true → ∃ m ∈ mv, Fires ks p m) → (b = false → ∀ m ∈ mv, ¬ Fires ks p m) → R (.fz (.bl b)) [(2, .dT (kt (kT ks)))]
theorem ok_goes (T : Tx K mg) : FnOk P w K mg base (L2.CX P w) 2 T.a_goes T.d_goes ["chain", "pair", "known"] (SpJ K (sp_goes T)) := by
  refine jfn T.F_goes z_goes zo_goes zf_goes (sp_goes T) (fun as R RX h => ?_) (fun X B E as R RX cj hE h => ?_)
  · obtain ⟨_, _, _, _, rfl, _⟩ := h; rfl
  obtain ⟨many, mv, p, ks, rfl, hc, hpm, hR⟩ := h
  have m1 := hc.m1
  have m2 := hc.m2
  have l2 := hc.l2
  have hp2 := prs_mem.mp (show (p.1, p.2) ∈ prs many from hpm)
  show JSs X B _ [.fz (chD T.C_Chain many mv), .fz (prT p), .bw 2 (.dT (kt (kT ks))), .no, .no, .no] _
  refine JSs.cons ?_
  refine js_for cj (ji_seq (jv_fldK cj T.cl_Chain T.na_Chain_moves (jv_name cj 0 ⟨_, _, _, rfl, rfl, _, .inl rfl, fun i G => ∃ a3 a4 a5, (∀ j m, j < i → mv[j]? = some m → ¬ Fires ks p m) ∧ G = [.fz (chD T.C_Chain many mv), .fz (prT p), .bw 2 (.dT (kt (kT ks))), a3, a4, a5], ⟨_, _, _, fun _ _ h => absurd h (Nat.not_lt_zero _), rfl⟩, fun i d G hi hd hI => ?_, fun G hI => ?_⟩)))
  · obtain ⟨a3, a4, a5, hno, rfl⟩ := hI
    obtain ⟨⟨wt, row⟩, hm, rfl⟩ := map_get hd
    have rok := (hc.mv _ (List.mem_of_getElem? hm)).2
    have next : ¬ Fires ks p (wt, row) → ∀ j m, j < i + 1 → mv[j]? = some m → ¬ Fires ks p m := fun h j m hj hm2 => by
      by_cases z : j < i
      · exact hno j m z hm2
      · have : j = i := by omega
        subst this
        rw [hm] at hm2; cases hm2; exact h
    refine JG.tup cj (JGs.cons (JG.name cj 3 (JGs.cons (JG.name cj 4 (JGs.nil ?_)))))
    refine JSs.cons ?_
    refine js_set cj 5 (je_call0 cj (ok_moved_pair T) (by decide) 0 T.g_moved_pair T.F_moved_pair.kp T.b_moved_pair ?_)
    refine JD.cons (jv_name cj 4 (JD.cons (jv_name cj 1 (JD.nil ⟨many, row, p, rfl, rok.1, ⟨by omega, by omega, by omega, by omega⟩, fun h => ?_, fun h => ?_⟩))))
    · refine JSs.one ?_
      refine JS.ite (jt_or (jt_isN (jv_name cj 5 (jv_non ⟨rfl, .inl ⟨rfl, fun z => absurd z (by decide), fun _ => ⟨fun _ => JSs.one (JS.ret (JV.je (jv_bl ?_))), fun z => absurd z (by decide)⟩⟩⟩))))
      exact hR true (fun _ => ⟨_, List.mem_of_getElem? hm, .inl (srt_eq.mpr h)⟩) fun z => absurd z (by decide)
    · refine JSs.one ?_
      refine JS.ite (jt_or (jt_isN (jv_name cj 5 (jv_non ⟨rfl, .inr ⟨rfl, fun _ => ?_, fun z => absurd z (by decide)⟩⟩))))
      refine jw_or1 (jt_tin cj 2 (jv_name cj 5 ⟨kT ks, [(behP row p).1, (behP row p).2], _, rfl, .free, rfl, ?_⟩))
      rw [kT_get]
      refine ⟨fun hb => ?_, fun hb => JSs.nil ⟨_, _, _, next fun f => ?_, rfl⟩⟩
      · exact JSs.one (JS.ret (JV.je (jv_bl (hR true (fun _ => ⟨_, List.mem_of_getElem? hm, .inr (of_decide_eq_true hb)⟩) fun z => absurd z (by decide)))))
      · rcases f with f | f
        · exact h (srt_eq.mp f)
        · exact of_decide_eq_false hb f
  obtain ⟨a3, a4, a5, hno, rfl⟩ := hI
  rw [List.length_map] at hno
  refine JSs.forget 3 (JSs.forget 4 (JSs.forget 5 ?_))
  refine JSs.one (JS.ret (JV.je (jv_bl (hR false (fun z => absurd z (by decide)) fun _ m hm => ?_))))
  obtain ⟨j, hj⟩ := List.getElem?_of_mem hm
  exact hno j m (List.getElem?_eq_some_iff.mp hj).1 hj
theorem kT_few {many : Int} {mv : List (Int × List Int)} {ks : List (Int × Int)} (m2 : many ≤ 6) (h : Kn many mv ks) : ks.length ≤ 36 := Nat.le_trans h.len (prs_len m2)
/-- within one turn of the program's own loop -/
structure TJ (many : Int) (mv : List (Int × List Int)) (ks0 : List (Int × Int)) (i : Nat) (ks : List (Int × Int)) (ch : Bool) : Prop where
  kn : Kn many mv ks
  di : (ch = true ∧ ks0.length < ks.length) ∨ (ch = false ∧ ks = ks0 ∧ ∀ i' p, i' < i → (prs many)[i']? = some p → p ∉ ks0 → ∀ m ∈ mv, ¬ Fires ks0 p m)
@[reducible] def sp_meeting_pairs (T : Tx K mg) : J.Spec := fun ps R _ => ∃ (many : Int) (mv : List (Int × List Int)), ps = [.v (.ins T.C_Chain ["many", "moves"] [.int many, .lst (mv.map mvD)])] ∧ Ch many mv ∧ ∀ ks, Kn many mv ks → Clo many mv ks → R (.ow (.dT (kt (kT ks)))) []
theorem ok_meeting_pairs (T : Tx K mg) : FnOk P w K mg base (L2.CX P w) 3 T.a_meeting_pairs T.d_meeting_pairs ["chain"] (SpJ K (sp_meeting_pairs T)) := by
  refine jfn T.F_meeting_pairs z_meeting_pairs zo_meeting_pairs zf_meeting_pairs (sp_meeting_pairs T) (fun as R RX h => ?_) (fun X B E as R RX cj hE h => ?_)
  · obtain ⟨_, _, rfl, _⟩ := h; rfl
  obtain ⟨many, mv, rfl, hc, hR⟩ := h
  have m1 := hc.m1
  have m2 := hc.m2
  show JSs X B _ [.fz (chD T.C_Chain many mv), .no, .no, .no] _
  refine JSs.cons (js_set cj 1 (je_tnew ?_))
  refine JSs.cons (js_set cj 2 (JV.je (jv_bl ?_)))
  refine JSs.cons ?_
  refine JS.whileN cj (fun n G => ∃ ks ch a3, Kn many mv ks ∧ (ch = false → Clo many mv ks) ∧ n + ks.length = 36 + (if ch = true then 1 else 0) ∧ G = [.fz (chD T.C_Chain many mv), .ow (.dT (kt (kT ks))), .fz (.bl ch), a3]) 37 ⟨[], true, .no, ⟨List.nodup_nil, fun _ h => by cases h⟩, fun z => absurd z (by decide), rfl, rfl⟩ fun n G hI => ?_
  obtain ⟨ks0, ch, a3, kn, hcl, hn, rfl⟩ := hI
  refine jt_val (jv_name cj 2 ⟨ch, rfl, fun hch => ?_, fun hch => ?_⟩)
  · subst hch
    refine JSs.cons (js_set cj 2 (JV.je (jv_bl ?_)))
    refine JSs.one ?_
    refine js_for cj (ji_seq (JE.jv (je_call0 cj (ok_pairs_of T) (by decide) 0 T.g_pairs_of T.F_pairs_of.kp T.b_pairs_of (JD.cons (jv_name cj 0 (JD.nil ⟨many, mv, rfl, hc, _, .inl rfl, fun i G => ∃ ks ch a3, TJ many mv ks0 i ks ch ∧ G = [.fz (chD T.C_Chain many mv), .ow (.dT (kt (kT ks))), .fz (.bl ch), a3], ⟨ks0, false, a3, ⟨kn, .inr ⟨rfl, rfl, fun _ _ h => absurd h (Nat.not_lt_zero _)⟩⟩, rfl⟩, fun i d G hi hd hI => ?_, fun G hI => ?_⟩))))))
    · obtain ⟨ks, ch, a3, tj, rfl⟩ := hI
      obtain ⟨p, hp, rfl⟩ := map_get hd
      have hpm := List.mem_of_getElem? hp
      have few := kT_few m2 tj.kn
      refine JG.name cj 3 ?_
      refine JSs.one ?_
      refine JS.ite (JW.jt (jw_and (jt_tnotin cj 1 (jv_name cj 3 ⟨kT ks, [p.1, p.2], _, rfl, .free, rfl, ?_⟩))))
      rw [kT_get]
      refine ⟨fun hb => ?_, fun hb => ⟨fun z => absurd z (by decide), fun _ => JSs.nil ⟨ks, ch, _, ⟨tj.kn, tj.di.imp id fun ⟨h1, h2, h3⟩ => ⟨h1, h2, fun i' q hi' hq hn2 => ?_⟩⟩, rfl⟩⟩⟩
      rotate_left
      · by_cases z : i' < i
        · exact h3 i' q z hq hn2
        · have : i' = i := by omega
          subst this
          rw [hp] at hq; cases hq
          have hb : p ∈ ks := by simpa using hb
          rw [h2] at hb
          exact absurd hb hn2
      have hnot : p ∉ ks := by simpa using hb
      refine jw_and1 (jt_val (JE.jv (je_call cj (ok_goes T) (by decide) 1 T.g_goes T.F_goes.kp T.b_goes (JA.cons (jv_name cj 0 (JA.cons (jv_name cj 3 (JA.lend cj 1 (JA.nil ⟨rfl, many, mv, p, ks, rfl, hc, hpm, fun b h1 h2 => ?_⟩)))))))))
      refine ⟨b, rfl, fun hb2 => ?_, fun hb2 => JSs.nil ?_⟩
      · refine JSs.cons ?_
        refine js_tput cj 1 (jv_bl (jv_name cj 3 ⟨kT ks, [p.1, p.2], rfl, rfl, ?_, ?_⟩))
        · rw [kT_len]; unfold sizeLine; omega
        rw [kT_put hnot]
        refine JSs.one (js_set cj 2 (JV.je (jv_bl ?_)))
        obtain ⟨m, hm, f⟩ := h1 hb2
        refine ⟨ks ++ [p], true, _, ⟨tj.kn.add hpm hnot hm f, .inl ⟨rfl, ?_⟩⟩, rfl⟩
        rw [List.length_append]
        rcases tj.di with ⟨_, h3⟩ | ⟨_, h3, _⟩
        · omega
        · rw [h3]; simp
      · refine ⟨ks, ch, _, ⟨tj.kn, tj.di.imp id fun ⟨h4, h5, h3⟩ => ⟨h4, h5, fun i' q hi' hq hn2 => ?_⟩⟩, rfl⟩
        by_cases z : i' < i
        · exact h3 i' q z hq hn2
        · have : i' = i := by omega
          subst this
          rw [hp] at hq; cases hq
          rw [← h5]
          exact h2 hb2
    · obtain ⟨ks, ch, a3, tj, rfl⟩ := hI
      rw [List.length_map] at tj
      have few := kT_few m2 tj.kn
      rcases tj.di with ⟨h1, h2⟩ | ⟨h1, h2, h3⟩
      · subst h1
        refine ⟨36 + 1 - ks.length, ?_, ks, true, a3, tj.kn, fun z => absurd z (by decide), ?_, rfl⟩
        · simp only [if_pos] at hn; omega
        · simp only [if_pos]; omega
      · subst h1
        subst h2
        refine ⟨36 - ks.length, ?_, ks, false, a3, tj.kn, fun _ q hq hn2 m hm => ?_, ?_, rfl⟩
        · simp only [if_pos] at hn; omega
        · obtain ⟨i, hi⟩ := List.getElem?_of_mem hq
          exact h3 i q (List.getElem?_eq_some_iff.mp hi).1 hi hn2 m hm
        · rw [if_neg (by decide)]; omega
  · subst hch
    refine JSs.forget 3 ?_
    exact JSs.one (JS.ret (je_move cj 1 (hR ks0 kn (hcl rfl))))
open Classical in
@[reducible] def sp_never (T : Tx K mg) : J.Spec := fun ps R _ => ∃ (many : Int) (mv : List (Int × List Int)), ps = [.v (.ins T.C_Chain ["many", "moves"] [.int many, .lst (mv.map mvD)])] ∧ Ch many mv ∧ R (.ow (.lst ((apL many mv).map prT))) []
theorem Kn.mt {many : Int} {mv : List (Int × List Int)} (c : Ch many mv) {ks : List (Int × Int)} (kn : Kn many mv ks) (cl : Clo many mv ks) {p : Int × Int} (hp : p ∈ prs many) : p ∈ ks ↔ Mt mv p.1 p.2 := by
  refine ⟨fun q => (kn.mem p q).2, fun q => ?_⟩
  have hp2 := prs_mem.mp (show (p.1, p.2) ∈ prs many from hp)
  have := cl.all c q hp2.1 (by omega) (by omega) hp2.2.2 (by omega)
  have e : srt p.1 p.2 = p := by
    unfold srt
    rw [if_pos (by omega)]
  rwa [e] at this
open Classical in
theorem ok_never (T : Tx K mg) : FnOk P w K mg base (L2.CX P w) 4 T.a_never T.d_never ["chain"] (SpJ K (sp_never T)) := by
  refine jfn T.F_never z_never zo_never zf_never (sp_never T) (fun as R RX h => ?_) (fun X B E as R RX cj hE h => ?_)
  · obtain ⟨_, _, rfl, _⟩ := h; rfl
  obtain ⟨many, mv, rfl, hc, hR⟩ := h
  have m1 := hc.m1
  have m2 := hc.m2
  have pl := prs_len m2
  show JSs X B _ [.fz (chD T.C_Chain many mv), .no, .no] _
  refine JSs.cons ?_
  refine js_set cj 1 (je_call0 cj (ok_meeting_pairs T) (by decide) 0 T.g_meeting_pairs T.F_meeting_pairs.kp T.b_meeting_pairs (JD.cons (jv_name cj 0 (JD.nil ⟨many, mv, rfl, hc, fun ks kn cl => ?_⟩))))
  show JSs X B _ [.fz (chD T.C_Chain many mv), .ow (.dT (kt (kT ks))), .no] _
  refine JSs.one (JS.ret ?_)
  refine je_lcB cj [1, 2] [2] [] [("pair", 2)] (ji_seq (JE.jv (je_call0 cj (ok_pairs_of T) (by decide) 1 T.g_pairs_of T.F_pairs_of.kp T.b_pairs_of (JD.cons (jv_name cj 0 (JD.nil ⟨many, mv, rfl, hc, _, .inl rfl, ?_, fun i acc G => acc = (((prs many).take i).filter fun p => !decide (Mt mv p.1 p.2)).map prT ∧ G = [.fz (chD T.C_Chain many mv), .ow (.dT (kt (kT ks))), .no], ⟨rfl, rfl⟩, fun i d acc G2 hi hd hI hlt X1 c1 => ?_, fun acc G2 hI => ?_⟩))))))
  · rw [List.length_map]; unfold sizeLine; omega
  · obtain ⟨rfl, rfl⟩ := hI
    obtain ⟨p, hp, rfl⟩ := map_get hd
    have dn := kn.mt hc cl (List.mem_of_getElem? hp)
    have et : ∀ b : Bool, (!decide (Mt mv p.1 p.2)) = b → ((prs many).take (i + 1)).filter (fun p => !decide (Mt mv p.1 p.2)) = ((prs many).take i).filter (fun p => !decide (Mt mv p.1 p.2)) ++ if b = true then [p] else [] := fun b hb => by
      rw [List.take_add_one, hp, List.filter_append]
      congr 1
      show List.filter _ [p] = _
      rw [List.filter_cons, hb]; rfl
    refine JG.name c1 2 fun X2 c2 => JTs.one ?_
    refine jt_tnotin c2 1 (jv_name c2 2 ⟨kT ks, [p.1, p.2], _, rfl, .free, rfl, ?_⟩)
    rw [kT_get]
    refine ⟨fun hb X3 c3 => ?_, fun hb => ?_⟩
    · have hn : p ∉ ks := by simpa using hb
      refine jv_name c3 2 ⟨?_, rfl⟩
      rw [et true (by rw [decide_eq_false fun z => hn (dn.mpr z)]; rfl), List.map_append]; rfl
    · have hb : p ∈ ks := by simpa using hb
      refine ⟨?_, rfl⟩
      rw [et false (by rw [decide_eq_true (dn.mp hb)]; rfl)]; simp
  obtain ⟨rfl, rfl⟩ := hI
  rw [List.length_map, List.take_length]
  exact hR
/-! pairs behind a pair that never meets -/
inductive Pr (mv : List (Int × List Int)) (p0 : Int × Int) : Int × Int → Prop
  | refl : Pr mv p0 p0
  | step {q : Int × Int} {m : Int × List Int} : Pr mv p0 q → m ∈ mv → Pr mv p0 (behP m.2 q)
theorem behP_in {many : Int} {mv : List (Int × List Int)} (c : Ch many mv) {m : Int × List Int} (hm : m ∈ mv) {q : Int × Int} (hq : q ∈ prs many) (nm : ¬ Mt mv q.1 q.2) : gI m.2 q.1 ≠ gI m.2 q.2 ∧ behP m.2 q ∈ prs many ∧ ¬ Mt mv (behP m.2 q).1 (behP m.2 q).2 := by
  have hq2 := prs_mem.mp (show (q.1, q.2) ∈ prs many from hq)
  have r1 := gI_in c hm hq2.1 (by omega)
  have r2 := gI_in c hm (p := q.2) (by omega) (by omega)
  have hne : gI m.2 q.1 ≠ gI m.2 q.2 := fun z => nm (.one hm z)
  refine ⟨hne, prs_srt r1.1 r1.2 r2.1 r2.2 hne, fun z => nm (.step hm ?_)⟩
  exact Mt.srt.mp z
theorem Pr.in {many : Int} {mv : List (Int × List Int)} (c : Ch many mv) {p0 : Int × Int} (h0 : p0 ∈ prs many) (n0 : ¬ Mt mv p0.1 p0.2) {q : Int × Int} (h : Pr mv p0 q) : q ∈ prs many ∧ ¬ Mt mv q.1 q.2 := by
  induction h with
  | refl => exact ⟨h0, n0⟩
  | step _ hm ih => exact (behP_in c hm ih.1 ih.2).2
open Classical in
noncomputable def pbL (many : Int) (mv : List (Int × List Int)) (p0 : Int × Int) : List (Int × Int) := (prs many).filter fun p => decide (Pr mv p0 p)
theorem prsTo_lt {many : Int} (i : Nat) (m2 : many ≤ 6) : (prsTo many i).Pairwise (fun p q => p.1 < q.1 ∨ (p.1 = q.1 ∧ p.2 < q.2)) := by
  induction i with
  | zero => exact List.Pairwise.nil
  | succ i ih =>
    show (prsTo many i ++ _).Pairwise _
    refine List.pairwise_append.mpr ⟨ih, ?_, fun p hp q hq => ?_⟩
    · rw [List.pairwise_map]
      refine List.Pairwise.imp (fun {a b} h => .inr ⟨rfl, ?_⟩) List.pairwise_lt_range
      show ((i + 1 + a : Nat) : Int) < ((i + 1 + b : Nat) : Int)
      omega
    · obtain ⟨j, hj, rfl⟩ := List.mem_map.mp hq
      have := prsTo_mem.mp (show (p.1, p.2) ∈ prsTo many i from hp)
      exact .inl this.2.1
def pl (p : Int × Int) : List Int := [p.1, p.2]
theorem pbL_of {many : Int} {mv : List (Int × List Int)} {p0 : Int × Int} (m2 : many ≤ 6) {fs : List (Int × Int)} (nd : fs.Nodup) (hm : ∀ q, q ∈ fs ↔ q ∈ prs many ∧ Pr mv p0 q) {ks : List (List Int)} (pm : ks.Perm (fs.map pl)) (pw : ks.Pairwise (fun a b => TS.code 64 a ≤ TS.code 64 b)) : ks = (pbL many mv p0).map pl := by
  have slt : (pbL many mv p0).Pairwise (fun p q => p.1 < q.1 ∨ (p.1 = q.1 ∧ p.2 < q.2)) := List.Pairwise.filter _ (prsTo_lt many.toNat m2)
  have ndb : (pbL many mv p0).Nodup := slt.imp fun {a b} h e => by subst e; omega
  have pf : fs.Perm (pbL many mv p0) := (List.perm_ext_iff_of_nodup nd ndb).mpr fun q => by
    rw [hm]
    unfold pbL
    rw [List.mem_filter]
    simp
  have bnd : ∀ q, q ∈ fs → 0 ≤ q.1 ∧ q.1 < 6 ∧ 0 ≤ q.2 ∧ q.2 < 6 := fun q hq => by
    have := prs_mem.mp (show (q.1, q.2) ∈ prs many from ((hm q).mp hq).1)
    omega
  refine List.Perm.eq_of_pairwise (le := fun a b => TS.code 64 a ≤ TS.code 64 b) (fun a b ha hb h1 h2 => ?_) pw ?_ (pm.trans (pf.map pl))
  · obtain ⟨p, hp, rfl⟩ := List.mem_map.mp (pm.mem_iff.mp ha)
    obtain ⟨q, hq, rfl⟩ := List.mem_map.mp hb
    have b1 := bnd p hp
    have b2 := bnd q (pf.mem_iff.mpr hq)
    unfold pl at h1 h2 ⊢
    rw [code_pair, code_pair] at h1 h2
    have e1 : p.1 = q.1 := by omega
    have e2 : p.2 = q.2 := by omega
    rw [e1, e2]
  · rw [List.pairwise_map]
    refine List.Pairwise.imp_of_mem (fun {p q} hp hq h => ?_) slt
    have b1 := bnd p (pf.mem_iff.mpr hp)
    have b2 := bnd q (pf.mem_iff.mpr hq)
    unfold pl
    rw [code_pair, code_pair]
    omega
/-- what holds of the found ones and the waiting ones -/
structure PB (many : Int) (mv : List (Int × List Int)) (p0 : Int × Int) (fs ws : List (Int × Int)) : Prop where
  nd : fs.Nodup
  h0 : p0 ∈ fs
  rc : ∀ q ∈ fs, Pr mv p0 q
  sub : ∀ q ∈ ws, q ∈ fs
  cl : ∀ q ∈ fs, q ∉ ws → ∀ m ∈ mv, behP m.2 q ∈ fs
structure PB2 (many : Int) (mv : List (Int × List Int)) (p0 here : Int × Int) (j : Nat) (fs ws : List (Int × Int)) : Prop where
  nd : fs.Nodup
  h0 : p0 ∈ fs
  rc : ∀ q ∈ fs, Pr mv p0 q
  sub : ∀ q ∈ ws, q ∈ fs
  hh : here ∈ fs
  cl : ∀ q ∈ fs, q ∉ ws → q ≠ here → ∀ m ∈ mv, behP m.2 q ∈ fs
  me : ∀ j' m, j' < j → mv[j']? = some m → behP m.2 here ∈ fs
theorem pb_len {many : Int} {mv : List (Int × List Int)} (c : Ch many mv) {p0 : Int × Int} (h0 : p0 ∈ prs many) (n0 : ¬ Mt mv p0.1 p0.2) {fs : List (Int × Int)} (nd : fs.Nodup) (rc : ∀ q ∈ fs, Pr mv p0 q) : fs.length ≤ 36 :=
  Nat.le_trans (List.Nodup.length_le_of_subset nd fun q hq => ((rc q hq).in c h0 n0).1) (prs_len c.m2)
theorem PB.start (many : Int) (mv : List (Int × List Int)) (p0 : Int × Int) : PB many mv p0 [p0] [p0] :=
  ⟨by simp, by simp, fun q hq => by rw [List.mem_singleton.mp hq]; exact .refl, fun q hq => hq, fun q hq hn => absurd hq hn⟩
theorem PB.pop {many : Int} {mv : List (Int × List Int)} {p0 here : Int × Int} {fs ws : List (Int × Int)} (h : PB many mv p0 fs (ws ++ [here])) : PB2 many mv p0 here 0 fs ws :=
  ⟨h.nd, h.h0, h.rc, fun q hq => h.sub q (by simp [hq]), h.sub here (by simp), fun q hq hn hne => h.cl q hq (by simp [hn, hne]), fun _ _ h => absurd h (Nat.not_lt_zero _)⟩
theorem PB2.old {many : Int} {mv : List (Int × List Int)} {p0 here : Int × Int} {j : Nat} {fs ws : List (Int × Int)} (h : PB2 many mv p0 here j fs ws) {m : Int × List Int} (hm : mv[j]? = some m) (hb : behP m.2 here ∈ fs) : PB2 many mv p0 here (j + 1) fs ws :=
  ⟨h.nd, h.h0, h.rc, h.sub, h.hh, h.cl, fun j' m' hj hm' => by
    by_cases z : j' < j
    · exact h.me j' m' z hm'
    · have : j' = j := by omega
      subst this
      rw [hm] at hm'; cases hm'; exact hb⟩
theorem PB2.add {many : Int} {mv : List (Int × List Int)} {p0 here : Int × Int} {j : Nat} {fs ws : List (Int × Int)} (h : PB2 many mv p0 here j fs ws) {m : Int × List Int} (hm : mv[j]? = some m) (hb : behP m.2 here ∉ fs) : PB2 many mv p0 here (j + 1) (fs ++ [behP m.2 here]) (ws ++ [behP m.2 here]) :=
  ⟨List.nodup_append.mpr ⟨h.nd, by simp, fun a ha b hb2 e => by rw [List.mem_singleton.mp hb2] at e; rw [e] at ha; exact hb ha⟩, by simp [h.h0], fun q hq => by
    rcases List.mem_append.mp hq with hq | hq
    · exact h.rc q hq
    · rw [List.mem_singleton.mp hq]; exact .step (h.rc here h.hh) (List.mem_of_getElem? hm), fun q hq => by
    rcases List.mem_append.mp hq with hq | hq
    · exact List.mem_append_left _ (h.sub q hq)
    · exact List.mem_append_right _ hq, by simp [h.hh], fun q hq hn hne m' hm' => by
    rcases List.mem_append.mp hq with hq | hq
    · exact List.mem_append_left _ (h.cl q hq (fun z => hn (List.mem_append_left _ z)) hne m' hm')
    · exact absurd (List.mem_append_right _ hq) hn, fun j' m' hj hm' => by
    by_cases z : j' < j
    · exact List.mem_append_left _ (h.me j' m' z hm')
    · have : j' = j := by omega
      subst this
      rw [hm] at hm'; cases hm'; simp⟩
theorem PB2.next {many : Int} {mv : List (Int × List Int)} {p0 here : Int × Int} {fs ws : List (Int × Int)} (h : PB2 many mv p0 here mv.length fs ws) : PB many mv p0 fs ws :=
  ⟨h.nd, h.h0, h.rc, h.sub, fun q hq hn m hm => by
    by_cases e : q = here
    · subst e
      obtain ⟨j, hj⟩ := List.getElem?_of_mem hm
      exact h.me j m (List.getElem?_eq_some_iff.mp hj).1 hj
    · exact h.cl q hq hn e m hm⟩
theorem PB.all {many : Int} {mv : List (Int × List Int)} {p0 : Int × Int} {fs : List (Int × Int)} (h : PB many mv p0 fs []) {q : Int × Int} (hq : Pr mv p0 q) : q ∈ fs := by
  induction hq with
  | refl => exact h.h0
  | step _ hm ih => exact h.cl _ ih (by simp) _ hm
theorem PB.done {many : Int} {mv : List (Int × List Int)} (c : Ch many mv) {p0 : Int × Int} (h0 : p0 ∈ prs many) (n0 : ¬ Mt mv p0.1 p0.2) {fs : List (Int × Int)} (h : PB many mv p0 fs []) (q : Int × Int) : q ∈ fs ↔ q ∈ prs many ∧ Pr mv p0 q :=
  ⟨fun hq => ⟨((h.rc q hq).in c h0 n0).1, h.rc q hq⟩, fun hq => h.all hq.2⟩
/-- pairs_behind -/
theorem prs_lo (l : List (Int × Int)) : Lo (.lst (l.map prT)) (.lst (l.map prD)) := Lo.lst l fun _ => Lo.tp _
@[reducible] def sp_pairs_behind (T : Tx K mg) : J.Spec := fun ps R _ => ∃ (many : Int) (mv : List (Int × List Int)) (p0 : Int × Int), ps = [.v (.ins T.C_Chain ["many", "moves"] [.int many, .lst (mv.map mvD)]), .v (prT p0)] ∧ Ch many mv ∧ p0 ∈ prs many ∧ ¬ Mt mv p0.1 p0.2 ∧ R (.ow (.lst ((pbL many mv p0).map prD))) []
theorem ok_pairs_behind (T : Tx K mg) : FnOk P w K mg base (L2.CX P w) 2 T.a_pairs_behind T.d_pairs_behind ["chain", "pair"] (SpJ K (sp_pairs_behind T)) := by
  refine jfn T.F_pairs_behind z_pairs_behind zo_pairs_behind zf_pairs_behind (sp_pairs_behind T) (fun as R RX h => ?_) (fun X B E as R RX cj hE h => ?_)
  · obtain ⟨_, _, _, rfl, _⟩ := h; rfl
  obtain ⟨many, mv, p0, rfl, hc, h0, n0, hR⟩ := h
  have m1 := hc.m1
  have m2 := hc.m2
  show JSs X B _ [.fz (chD T.C_Chain many mv), .fz (prT p0), .no, .no, .no, .no, .no, .no] _
  refine JSs.cons (js_set cj 2 (je_tdisp1 cj (jv_name cj 1 (jv_bl ⟨[p0.1, p0.2], rfl, ?_⟩))))
  refine JSs.cons (js_set cj 3 (je_lst (JD.cons (jv_name cj 1 (JD.nil ⟨lz rfl, ?_⟩)))))
  refine JSs.cons (JS.whileN cj (fun n G => ∃ (fs ws : List (Int × Int)) (a b c d : Ent), PB many mv p0 fs ws ∧ 2 * (36 - fs.length) + ws.length = n ∧ n ≤ 72 ∧ G = [.fz (chD T.C_Chain many mv), .fz (prT p0), .ow (.dT (kt (kT fs))), .ow (.lst (ws.map prT)), a, b, c, d]) 71 ⟨[p0], [p0], .no, .no, .no, .no, PB.start many mv p0, rfl, by decide, rfl⟩ fun n G hI => ?_)
  obtain ⟨fs, ws, a, b, c, d, pb, hn, hn2, rfl⟩ := hI
  have fl : ∀ l : List (Int × Int), Flat 2 (.lst (l.map prD)) := fun l => .lst (prs_flat l)
  refine jt_neOL cj 3 (JE.jv (je_lst (JD.nil ⟨lz rfl, _, ws.map prD, rfl, prs_lo ws, ⟨2, fl ws, by decide⟩, ⟨2, fl [], by decide⟩, fun hb => ?_, fun hb => ?_⟩)))
  · have hne : ws ≠ [] := fun z => by
      have hb : (!deq (.lst (ws.map prD)) (.lst ([].map prD))) = true := hb
      rw [z, deq_refl (fl [])] at hb; cases hb
    obtain ⟨ws', here, rfl⟩ : ∃ ws' here, ws = ws' ++ [here] := ⟨_, _, (List.dropLast_concat_getLast hne).symm⟩
    have hh := (pb.rc here (pb.sub here (by simp))).in hc h0 n0
    have hp2 := prs_mem.mp (show (here.1, here.2) ∈ prs many from hh.1)
    refine JSs.cons (js_set cj 4 (JV.je (jv_pop cj 3 (ds := ws'.map prT) (d := prT here) ?_ ?_)))
    · show some (Ow.lst ((ws' ++ [here]).map prT)) = _; rw [List.map_append]; rfl
    refine JSs.one (js_for cj (ji_seq (jv_fldK cj T.cl_Chain T.na_Chain_moves (jv_name cj 0 ⟨_, _, _, rfl, rfl, _, .inl rfl, fun i G => ∃ (fs1 ws1 : List (Int × Int)) (b c d : Ent), PB2 many mv p0 here i fs1 ws1 ∧ 2 * (36 - fs1.length) + ws1.length < n ∧ G = [.fz (chD T.C_Chain many mv), .fz (prT p0), .ow (.dT (kt (kT fs1))), .ow (.lst (ws1.map prT)), .fz (prT here), b, c, d], ⟨fs, ws', b, c, d, pb.pop, by rw [List.length_append] at hn; simp at hn; omega, rfl⟩, fun i e G hi he hI => ?_, fun G hI => ?_⟩))))
    · obtain ⟨fs1, ws1, b, c, d, pb2, hlt, rfl⟩ := hI
      obtain ⟨⟨wt, row⟩, hm, rfl⟩ := map_get he
      have hmm := List.mem_of_getElem? hm
      have rok := (hc.mv _ hmm).2
      obtain ⟨hne, hbp, hbn⟩ := behP_in hc hmm hh.1 hh.2
      have few := pb_len hc h0 n0 pb2.nd pb2.rc
      refine JG.tup cj (JGs.cons (JG.name cj 5 (JGs.cons (JG.name cj 6 (JGs.nil ?_)))))
      refine JSs.cons ?_
      refine js_set cj 7 (je_call0 cj (ok_moved_pair T) (by decide) 0 T.g_moved_pair T.F_moved_pair.kp T.b_moved_pair ?_)
      refine JD.cons (jv_name cj 6 (JD.cons (jv_name cj 4 (JD.nil ⟨many, row, here, rfl, rok.1, ⟨by omega, by omega, by omega, by omega⟩, fun h => absurd h hne, fun _ => ?_⟩))))
      show JSs X B _ [.fz (chD T.C_Chain many mv), .fz (prT p0), .ow (.dT (kt (kT fs1))), .ow (.lst (ws1.map prT)), .fz (prT here), .fz (.int wt), .fz (.tup (row.map .int)), .fz (prT (behP row here))] _
      refine JSs.one (JS.ite (jt_tnotin cj 2 (jv_name cj 7 ⟨kT fs1, [(behP row here).1, (behP row here).2], _, rfl, .free, rfl, ?_⟩)))
      rw [kT_get]
      refine ⟨fun hb => ?_, fun hb => JSs.nil ⟨fs1, ws1, _, _, _, pb2.old hm (by simpa using hb), hlt, rfl⟩⟩
      have hnot : behP row here ∉ fs1 := by simpa using hb
      have pa := pb2.add hm hnot
      have few2 := pb_len hc h0 n0 pa.nd pa.rc
      rw [List.length_append] at few2
      simp only [List.length_cons, List.length_nil] at few2
      refine JSs.cons ?_
      refine js_tput cj 2 (jv_bl (jv_name cj 7 ⟨kT fs1, [(behP row here).1, (behP row here).2], rfl, rfl, ?_, ?_⟩))
      · rw [kT_len]; unfold sizeLine; omega
      rw [kT_put hnot]
      refine JSs.one (js_append cj 3 (jv_name cj 7 ⟨ws1.map prT, rfl, ?_, fs1 ++ [behP row here], ws1 ++ [behP row here], .fz (.int wt), .fz (.tup (row.map .int)), .fz (prT (behP row here)), pa, ?_, ?_⟩))
      · rw [List.length_map]; unfold sizeLine; omega
      · rw [List.length_append, List.length_append]
        simp only [List.length_cons, List.length_nil]
        omega
      · rw [List.map_append (l₁ := ws1)]; rfl
    · obtain ⟨fs1, ws1, b, c, d, pb2, hlt, rfl⟩ := hI
      rw [List.length_map] at pb2
      exact ⟨_, hlt, fs1, ws1, _, b, c, d, pb2.next, rfl, by omega, rfl⟩
  · have hz : ws = [] := by
      have hb : (!deq (.lst (ws.map prD)) (.lst ([].map prD))) = false := hb
      have hb : deq (.lst (ws.map prD)) (.lst ([].map prD)) = true := by simpa using hb
      have := (deq_iff (fl ws) (fl [])).mp hb
      injection this with this
      exact List.map_eq_nil_iff.mp this
    subst hz
    have few := pb_len hc h0 n0 pb.nd pb.rc
    refine JSs.forget 4 (JSs.forget 5 (JSs.forget 6 (JSs.forget 7 (JSs.one (JS.ret (je_sortedT cj 1 2 T.z_sorted (m := kT fs) ?_ (fun q hq => ?_) fun ks pm pw => ?_))))))
    · rw [kT_len]; omega
    · obtain ⟨p, hp, rfl⟩ := List.mem_map.mp hq
      have h1 := prs_mem.mp (show (p.1, p.2) ∈ prs many from ((pb.rc p hp).in hc h0 n0).1)
      refine ⟨rfl, fun y hy => ?_⟩
      rcases List.mem_cons.mp hy with rfl | hy
      · omega
      · rw [List.mem_singleton.mp hy]; omega
    · have ek : (kT fs).map (·.1) = fs.map pl := by unfold kT; rw [List.map_map]; rfl
      rw [ek] at pm
      have := pbL_of m2 pb.nd (pb.done hc h0 n0) pm pw
      rw [this, List.map_map]
      exact hR
/-! sets of places by fewest moves -/
abbrev BR := List (List Int × List Int)
def nb (mv : List (Int × List Int)) (k : Int) (s : List Int) : List Int := ss (s.map (gI (rw_ mv k)))
def bAdd (B : BR) (b r : List Int) : BR := if b ∈ B.map (·.1) then B else B ++ [(b, r)]
def bIn (mv : List (Int × List Int)) (s r : List Int) : Nat → BR → BR
  | 0, B => B
  | k + 1, B => bAdd (bIn mv s r k B) (nb mv (k : Nat) s) (r ++ [((k : Nat) : Int)])
def bfs (many : Int) (mv : List (Int × List Int)) : Nat → BR
  | 0 => [(rg many, [])]
  | n + 1 => match (bfs many mv n)[n]? with
    | none => bfs many mv n
    | some p => bIn mv p.1 p.2 mv.length (bfs many mv n)
theorem bfs_succ {many : Int} {mv : List (Int × List Int)} {n : Nat} {p : List Int × List Int} (h : (bfs many mv n)[n]? = some p) : bfs many mv (n + 1) = bIn mv p.1 p.2 mv.length (bfs many mv n) := by
  show (match (bfs many mv n)[n]? with | none => _ | some p => _) = _
  rw [h]
structure SetOk (many : Int) (s : List Int) : Prop where
  lt : s.Pairwise (· < ·)
  rg : ∀ x ∈ s, 0 ≤ x ∧ x < many
  ne : s ≠ []
theorem nb_ok {many : Int} {mv : List (Int × List Int)} (c : Ch many mv) {k : Int} (hk : NumOk mv k) {s : List Int} (h : SetOk many s) : SetOk many (nb mv k s) := by
  refine ⟨ss_sorted _, fun x hx => ?_, fun z => ?_⟩
  · obtain ⟨y, hy, rfl⟩ := List.mem_map.mp (ss_mem.mp hx)
    exact c.rowI hk (h.rg y hy).1 (h.rg y hy).2
  · cases s with
    | nil => exact h.ne rfl
    | cons a s =>
      have : gI (rw_ mv k) a ∈ nb mv k (a :: s) := ss_mem.mpr (by simp)
      rw [z] at this; cases this
theorem nb_mem {mv : List (Int × List Int)} {k : Int} {s : List Int} {x : Int} : x ∈ nb mv k s ↔ ∃ y ∈ s, gI (rw_ mv k) y = x := by
  unfold nb
  rw [ss_mem, List.mem_map]
def subs : List Int → List (List Int)
  | [] => [[]]
  | x :: l => subs l ++ (subs l).map (x :: ·)
theorem subs_len : ∀ l : List Int, (subs l).length = 2 ^ l.length
  | [] => rfl
  | x :: l => by
    show (subs l ++ (subs l).map (x :: ·)).length = _
    rw [List.length_append, List.length_map, subs_len l, List.length_cons, Nat.pow_succ]; omega
theorem subs_mem {s l : List Int} (h : s.Sublist l) : s ∈ subs l := by
  induction h with
  | slnil => exact List.mem_singleton.mpr rfl
  | cons a _ ih => exact List.mem_append_left _ ih
  | cons_cons a _ ih => exact List.mem_append_right _ (List.mem_map.mpr ⟨_, ih, rfl⟩)
theorem set_sub {many : Int} {s : List Int} (h : SetOk many s) : s.Sublist (rg many) := by
  have e : (rg many).filter (fun x => decide (x ∈ s)) = s := by
    refine List.Perm.eq_of_pairwise (le := fun a b => a < b) (fun a b _ _ h1 h2 => absurd h1 (by omega)) ?_ h.lt ?_
    · exact List.Pairwise.filter _ (rg_lt many)
    · refine (List.perm_ext_iff_of_nodup (nodup_lt (List.Pairwise.filter _ (rg_lt many))) (nodup_lt h.lt)).mpr fun q => ?_
      rw [List.mem_filter, rg_mem]
      constructor
      · rintro ⟨_, h2⟩; exact of_decide_eq_true h2
      · intro h2; exact ⟨h.rg q h2, decide_eq_true h2⟩
  rw [← e]
  exact List.filter_sublist
structure BOk (many : Int) (mv : List (Int × List Int)) (B : BR) : Prop where
  nd : (B.map (·.1)).Nodup
  ok : ∀ p ∈ B, SetOk many p.1 ∧ (∀ n ∈ p.2, NumOk mv n) ∧ ∀ x, x ∈ p.1 ↔ ∃ q, 0 ≤ q ∧ q < many ∧ Wk mv p.2 q = x
  len : ∀ (i : Nat) p, B[i]? = some p → p.2.length ≤ i
theorem BOk.few {many : Int} {mv : List (Int × List Int)} {B : BR} (m2 : many ≤ 6) (h : BOk many mv B) : B.length ≤ 64 := by
  have := List.Nodup.length_le_of_subset h.nd (l₂ := subs (rg many)) fun s hs => by
    obtain ⟨p, hp, rfl⟩ := List.mem_map.mp hs
    exact subs_mem (set_sub (h.ok p hp).1)
  rw [List.length_map, subs_len, rg_len] at this
  exact Nat.le_trans this (Nat.pow_le_pow_right (by decide) (by omega : many.toNat ≤ 6))
theorem BOk.start {many : Int} (mv : List (Int × List Int)) (m1 : 1 ≤ many) : BOk many mv [(rg many, [])] := by
  refine ⟨by simp, fun p hp => ?_, fun i p hp => ?_⟩
  · rw [List.mem_singleton.mp hp]
    refine ⟨⟨rg_lt many, fun x hx => rg_mem.mp hx, fun z => ?_⟩, fun n hn => (by cases hn), fun x => ?_⟩
    · have := @rg_len many
      have z : rg many = [] := z
      rw [z] at this
      simp at this
      omega
    · show x ∈ rg many ↔ _
      rw [rg_mem]
      exact ⟨fun h => ⟨x, h.1, h.2, rfl⟩, fun ⟨q, h1, h2, e⟩ => by
        have e : q = x := e
        subst e; exact ⟨h1, h2⟩⟩
  · cases i with
    | zero => cases hp; exact Nat.le_refl _
    | succ i => simp at hp
theorem bAdd_pre (B : BR) (b r : List Int) : B <+: bAdd B b r := by
  unfold bAdd
  split
  · exact List.prefix_refl _
  · exact List.prefix_append _ _
theorem bIn_pre (mv : List (Int × List Int)) (s r : List Int) (B : BR) : ∀ k : Nat, B <+: bIn mv s r k B
  | 0 => List.prefix_refl _
  | k + 1 => (bIn_pre mv s r B k).trans (bAdd_pre _ _ _)
theorem bfs_pre1 (many : Int) (mv : List (Int × List Int)) (n : Nat) : bfs many mv n <+: bfs many mv (n + 1) := by
  show _ <+: (match (bfs many mv n)[n]? with | none => _ | some p => _)
  split
  · exact List.prefix_refl _
  · exact bIn_pre mv _ _ _ _
theorem bfs_pre (many : Int) (mv : List (Int × List Int)) (n : Nat) : ∀ d : Nat, bfs many mv n <+: bfs many mv (n + d)
  | 0 => List.prefix_refl _
  | d + 1 => (bfs_pre many mv n d).trans (bfs_pre1 many mv (n + d))
theorem BOk.add {many : Int} {mv : List (Int × List Int)} {B : BR} (c : Ch many mv) (h : BOk many mv B) {i : Nat} {p : List Int × List Int} (hp : B[i]? = some p) {k : Int} (hk : NumOk mv k) : BOk many mv (bAdd B (nb mv k p.1) (p.2 ++ [k])) := by
  unfold bAdd
  split
  · exact h
  · rename_i hn
    obtain ⟨h1, h2, h3⟩ := h.ok p (List.mem_of_getElem? hp)
    have hil := (List.getElem?_eq_some_iff.mp hp).1
    refine ⟨?_, fun q hq => ?_, fun j q hq => ?_⟩
    · rw [List.map_append]
      refine List.nodup_append.mpr ⟨h.nd, by simp, fun a ha b hb e => ?_⟩
      have : b = nb mv k p.1 := by simpa using hb
      rw [e, this] at ha; exact hn ha
    · rcases List.mem_append.mp hq with hq | hq
      · exact h.ok q hq
      · rw [List.mem_singleton.mp hq]
        refine ⟨nb_ok c hk h1, fun n hn => ?_, fun x => ?_⟩
        · rcases List.mem_append.mp hn with hn | hn
          · exact h2 n hn
          · rw [List.mem_singleton.mp hn]; exact hk
        · rw [nb_mem]
          constructor
          · rintro ⟨y, hy, rfl⟩
            obtain ⟨q, q0, q1, rfl⟩ := (h3 y).mp hy
            exact ⟨q, q0, q1, Wk_app _ _ _⟩
          · rintro ⟨q, q0, q1, rfl⟩
            exact ⟨Wk mv p.2 q, (h3 _).mpr ⟨q, q0, q1, rfl⟩, (Wk_app p.2 [k] q).symm⟩
    · by_cases hj : j < B.length
      · rw [List.getElem?_append_left hj] at hq; exact h.len j q hq
      · rw [List.getElem?_append_right (by omega)] at hq
        by_cases z : j - B.length = 0
        · rw [z] at hq
          cases hq
          have := h.len i p hp
          rw [List.length_append]
          simp only [List.length_cons, List.length_nil]
          omega
        · rw [List.getElem?_eq_none (by simp; omega)] at hq; cases hq
theorem pre_get {B C : BR} (h : B <+: C) {i : Nat} {p : List Int × List Int} (hp : B[i]? = some p) : C[i]? = some p := by
  obtain ⟨t, rfl⟩ := h
  have := (List.getElem?_eq_some_iff.mp hp).1
  rw [List.getElem?_append_left this]; exact hp
theorem BOk.ins {many : Int} {mv : List (Int × List Int)} {B : BR} (c : Ch many mv) (h : BOk many mv B) {i : Nat} {p : List Int × List Int} (hp : B[i]? = some p) : ∀ k : Nat, k ≤ mv.length → BOk many mv (bIn mv p.1 p.2 k B)
  | 0, _ => h
  | k + 1, hk => (h.ins c hp k (by omega)).add c (pre_get (bIn_pre mv p.1 p.2 B k) hp) ⟨by omega, by omega⟩
theorem bfs_ok {many : Int} {mv : List (Int × List Int)} (c : Ch many mv) : ∀ n : Nat, BOk many mv (bfs many mv n)
  | 0 => BOk.start mv c.m1
  | n + 1 => by
    show BOk many mv (match (bfs many mv n)[n]? with | none => _ | some p => _)
    split
    · exact bfs_ok c n
    · rename_i p hp
      exact (bfs_ok c n).ins c hp _ (Nat.le_refl _)
def bK (B : BR) : KTD := B.map fun p => (p.1, D.tup (p.2.map .int))
def wK (B : BR) : List D := B.map fun p => .tp (p.1.map .int)
theorem bK_len (B : BR) : (bK B).length = B.length := List.length_map ..
theorem bK_isSome (k : List Int) : ∀ B : BR, (tget (bK B) k).isSome = decide (k ∈ B.map (·.1))
  | [] => rfl
  | q :: B => by
    have ih := bK_isSome k B
    unfold tget bK at ih ⊢
    rw [List.map_cons, List.find?_cons]
    by_cases e : q.1 = k
    · simp [e]
    · rw [decide_eq_false e]
      rw [ih]
      have : ¬ k = q.1 := fun z => e z.symm
      simp [this]
theorem bK_get {p : List Int × List Int} : ∀ {B : BR}, (B.map (·.1)).Nodup → p ∈ B → tget (bK B) p.1 = some (.tup (p.2.map .int))
  | [], _, h => by cases h
  | q :: B, nd, h => by
    have nd' := List.nodup_cons.mp nd
    unfold tget bK
    rw [List.map_cons, List.find?_cons]
    by_cases e : q.1 = p.1
    · have : q = p := by
        rcases List.mem_cons.mp h with h | h
        · exact h.symm
        · exact absurd (show q.1 ∈ B.map (·.1) by rw [e]; exact List.mem_map.mpr ⟨p, h, rfl⟩) nd'.1
      subst this
      simp
    · rw [decide_eq_false e]
      have hp : p ∈ B := by
        rcases List.mem_cons.mp h with h | h
        · exact absurd (by rw [h]) e
        · exact h
      have := bK_get nd'.2 hp
      unfold tget bK at this
      exact this
theorem bK_put {B : BR} {b r : List Int} (h : b ∉ B.map (·.1)) : tput (bK B) b (.tup (r.map .int)) = bK (B ++ [(b, r)]) := by
  have e : ((bK B).any fun q => decide (q.1 = b)) = false := by
    rw [List.any_eq_false]
    intro q hq
    obtain ⟨p, hp, rfl⟩ := List.mem_map.mp hq
    simp only [decide_eq_true_eq]
    intro z
    have z : p.1 = b := z
    exact h (by rw [← z]; exact List.mem_map.mpr ⟨p, hp, rfl⟩)
  unfold tput
  rw [e, if_neg (by decide)]
  unfold bK
  rw [List.map_append]; rfl
/-- walking -/
theorem wK_len (B : BR) : (wK B).length = B.length := List.length_map ..
theorem wK_get {B : BR} {i : Nat} {p : List Int × List Int} (h : B[i]? = some p) : (wK B)[i]? = some (.tp (p.1.map .int)) := by unfold wK; rw [List.getElem?_map, h]; rfl
@[reducible] def sp_walking (T : Tx K mg) : J.Spec := fun ps R _ => ∃ (many : Int) (mv : List (Int × List Int)), ps = [.v (.ins T.C_Chain ["many", "moves"] [.int many, .lst (mv.map mvD)]), .b (.dT (kt (bK (bfs many mv 0)))), .b (.lst (wK (bfs many mv 0)))] ∧ Ch many mv ∧
  ∀ N, N = (bfs many mv N).length → R (.fz (.lst (wK (bfs many mv N)))) [(1, .dT (kt (bK (bfs many mv N)))), (2, .lst (wK (bfs many mv N)))]
theorem ok_walking (T : Tx K mg) : FnOk P w K mg base (L2.CX P w) 1 T.a_walking T.d_walking ["chain", "rows", "waiting"] (SpJ K (sp_walking T)) := by
  refine jfn T.F_walking z_walking zo_walking zf_walking (sp_walking T) (fun as R RX h => ?_) (fun X B E as R RX cj hE h => ?_)
  · obtain ⟨_, _, rfl, _⟩ := h; rfl
  obtain ⟨many, mv, rfl, hc, hR⟩ := h
  have m1 := hc.m1
  have m2 := hc.m2
  have l2 := hc.l2
  show JSs X B _ [.fz (chD T.C_Chain many mv), .bw 1 (.dT (kt (bK (bfs many mv 0)))), .bw 2 (.lst (wK (bfs many mv 0))), .no, .no, .no, .no, .no] _
  refine JSs.cons (js_set cj 3 (JV.je (jv_int ?_)))
  refine JSs.cons ?_
  refine JS.whileN cj (fun m G => ∃ n a4 a5 a6, n ≤ (bfs many mv n).length ∧ m + n = 64 ∧ G = [.fz (chD T.C_Chain many mv), .bw 1 (.dT (kt (bK (bfs many mv n)))), .bw 2 (.lst (wK (bfs many mv n))), .fz (.int (n : Nat)), a4, a5, a6, .no]) 64 ⟨0, _, _, _, Nat.zero_le _, rfl, rfl⟩ fun m G hI => ?_
  obtain ⟨n, a4, a5, a6, hn, hm, rfl⟩ := hI
  have bo := bfs_ok hc n
  have few := bo.few m2
  refine jt_lt (jv_name cj 3 (jv_lenO cj 0 2 T.z_len ⟨_, _, rfl, rfl, fun hb => ?_, fun hb => ?_⟩))
  · have hb := of_decide_eq_true hb
    rw [wK_len] at hb
    have hlt : n < (bfs many mv n).length := by omega
    obtain ⟨p, hp⟩ : ∃ p, (bfs many mv n)[n]? = some p := ⟨_, List.getElem?_eq_getElem hlt⟩
    have hpm := List.mem_of_getElem? hp
    obtain ⟨so, rok, _⟩ := bo.ok p hpm
    have plen := bo.len n p hp
    have slen : p.1.length ≤ 6 := by
      have := (set_sub so).length_le
      rw [rg_len] at this; omega
    refine JSs.cons ?_
    refine js_set cj 4 (JV.je (jv_ixO cj 2 (jv_name cj 3 ⟨_, _, _, rfl, rfl, at_nat (wK_get hp), ?_⟩)))
    refine JSs.cons ?_
    refine js_set cj 3 (JV.je (jv_add (jv_name cj 3 (jv_int ⟨_, _, rfl, rfl, ?_⟩))))
    refine JSs.one ?_
    refine js_for cj (ji_range1 cj 1 T.z_range (jv_len cj 0 T.z_len (jv_fldK cj T.cl_Chain T.na_Chain_moves (jv_name cj 0 ⟨_, _, _, rfl, rfl, _, .lst, _, rfl, ?_, ?_, fun j G => ∃ a5 a6, G = [.fz (chD T.C_Chain many mv), .bw 1 (.dT (kt (bK (bIn mv p.1 p.2 j (bfs many mv n))))), .bw 2 (.lst (wK (bIn mv p.1 p.2 j (bfs many mv n)))), .fz (.int ((n : Int) + 1)), .fz (.tp (p.1.map .int)), a5, a6, .no], ⟨a5, a6, rfl⟩, fun j d G hj hd hI => ?_, fun G hI => ?_⟩))))
    · omega
    · rw [List.length_map]; omega
    · obtain ⟨a5, a6, rfl⟩ := hI
      have hd : d = .int ((j : Nat) : Int) := hd.trans (by rw [Int.zero_add])
      subst hd
      rw [List.length_map] at hj
      have hj : j < mv.length := by omega
      obtain ⟨⟨wt, row⟩, hq⟩ : ∃ q, mv[j]? = some q := ⟨_, List.getElem?_eq_getElem hj⟩
      have ok : NumOk mv (j : Nat) := ⟨by omega, by omega⟩
      have er : rw_ mv (j : Nat) = row := by simp [rw_, hq]
      have hrow := hc.row ok
      rw [er] at hrow
      have bo2 := bo.ins hc hp j (by omega)
      have few2 := bo2.few m2
      have hp2 := pre_get (bIn_pre mv p.1 p.2 (bfs many mv n) j) hp
      have hgm : (mv.map mvD)[j]? = some (mvD (wt, row)) := by rw [List.getElem?_map, hq]; rfl
      refine JG.name cj 5 ?_
      refine JSs.cons ?_
      refine js_set cj 6 (JV.je (jv_tupleP cj 2 T.z_tuple (JE.jv (je_sortedSetS cj 3 4 T.z_sorted T.z_set (JE.jv ?_)))))
      refine je_lcB cj [0, 5, 7] [7] [] [("place", 7)] (ji_tp (jv_name cj 4 ⟨_, rfl, ?_⟩))
      refine LcI.map (fun i d => ∀ x, p.1[i]? = some x → d = .int (gI row x)) ?_ (fun G => G = [.fz (chD T.C_Chain many mv), .bw 1 (.dT (kt (bK (bIn mv p.1 p.2 j (bfs many mv n))))), .bw 2 (.lst (wK (bIn mv p.1 p.2 j (bfs many mv n)))), .fz (.int ((n : Int) + 1)), .fz (.tp (p.1.map .int)), .fz (.int ((j : Nat) : Int)), a6, .no]) rfl (fun i d G2 hi hd hI X1 c1 => ?_) fun acc G2 hacc hv hI => ?_
      · rw [List.length_map]; unfold sizeLine; omega
      · subst hI
        obtain ⟨x, hx, rfl⟩ := map_int_get hd
        have hx2 := so.rg x (List.mem_of_getElem? hx)
        refine JG.name c1 7 fun X3 c3 => ?_
        refine jv_ix (jv_ix (jv_ix (jv_fldK c3 T.cl_Chain T.na_Chain_moves (jv_name c3 0 ⟨_, _, _, rfl, rfl, jv_name c3 5 ⟨_, _, _, .lst, rfl, at_nat hgm, jv_int ⟨_, _, D.tup (row.map .int), .tup, rfl, rfl, jv_name c3 7 ⟨_, _, _, .tup, rfl, at_int (ns := row) hx2.1 (by omega), fun y hy => ?_, rfl⟩⟩⟩⟩))))
        rw [hx] at hy; cases hy; rfl
      subst hI
      rw [List.length_map] at hacc
      have eacc := map_acc hacc hv
      subst eacc
      refine ⟨p.1.map (gI row), .lst, by rw [List.length_map]; omega, ?_⟩
      refine ⟨_, .inl rfl, ?_⟩
      have enb : ss (p.1.map (gI row)) = nb mv (j : Nat) p.1 := by unfold nb; rw [er]
      rw [enb]
      show JSs X B _ [.fz (chD T.C_Chain many mv), .bw 1 (.dT (kt (bK (bIn mv p.1 p.2 j (bfs many mv n))))), .bw 2 (.lst (wK (bIn mv p.1 p.2 j (bfs many mv n)))), .fz (.int ((n : Int) + 1)), .fz (.tp (p.1.map .int)), .fz (.int ((j : Nat) : Int)), .fz (.tp ((nb mv (j : Nat) p.1).map .int)), .no] _
      refine JSs.one ?_
      refine JS.ite (jt_tnotin cj 1 (jv_name cj 6 ⟨bK (bIn mv p.1 p.2 j (bfs many mv n)), nb mv (j : Nat) p.1, _, rfl, .free, rfl, ?_⟩))
      rw [bK_isSome]
      refine ⟨fun hb => ?_, fun hb => JSs.nil ⟨.fz (.int ((j : Nat) : Int)), .fz (.tp ((nb mv (j : Nat) p.1).map .int)), ?_⟩⟩
      rotate_left
      · have hb : nb mv (j : Nat) p.1 ∈ (bIn mv p.1 p.2 j (bfs many mv n)).map (·.1) := by simpa using hb
        have e : bIn mv p.1 p.2 (j + 1) (bfs many mv n) = bIn mv p.1 p.2 j (bfs many mv n) := by
          show bAdd _ _ _ = _
          unfold bAdd
          rw [if_pos hb]
        rw [e]
      have hnot : nb mv (j : Nat) p.1 ∉ (bIn mv p.1 p.2 j (bfs many mv n)).map (·.1) := by simpa using hb
      have e : bIn mv p.1 p.2 (j + 1) (bfs many mv n) = bIn mv p.1 p.2 j (bfs many mv n) ++ [(nb mv (j : Nat) p.1, p.2 ++ [((j : Nat) : Int)])] := by
        show bAdd _ _ _ = _
        unfold bAdd
        rw [if_neg hnot]
      refine JSs.cons ?_
      refine js_tput cj 1 (jv_catT (jv_tget cj 1 (jv_name cj 4 ⟨bK (bIn mv p.1 p.2 j (bfs many mv n)), p.1, .tup (p.2.map .int), _, rfl, .free, rfl, bK_get bo2.nd (List.mem_of_getElem? hp2), ?_⟩)))
      refine jv_tup (JD.cons (jv_name cj 5 (JD.nil ⟨lz rfl, _, _, rfl, rfl, ?_, ?_⟩)))
      · rw [List.length_map]; unfold sizeLine; show _ + 1 ≤ _; omega
      refine jv_name cj 6 ⟨bK (bIn mv p.1 p.2 j (bfs many mv n)), nb mv (j : Nat) p.1, rfl, rfl, ?_, ?_⟩
      · rw [bK_len]; unfold sizeLine; omega
      have er2 : (D.tup (p.2.map .int ++ [.int ((j : Nat) : Int)])) = .tup ((p.2 ++ [((j : Nat) : Int)]).map .int) := by rw [List.map_append]; rfl
      rw [er2, bK_put hnot, ← e]
      refine JSs.one (js_append cj 2 (jv_name cj 6 ⟨wK (bIn mv p.1 p.2 j (bfs many mv n)), rfl, ?_, .fz (.int ((j : Nat) : Int)), .fz (.tp ((nb mv (j : Nat) p.1).map .int)), ?_⟩))
      · rw [wK_len]; unfold sizeLine; omega
      · have ew : wK (bIn mv p.1 p.2 (j + 1) (bfs many mv n)) = wK (bIn mv p.1 p.2 j (bfs many mv n)) ++ [.tp ((nb mv (j : Nat) p.1).map .int)] := by
          rw [e]; unfold wK; rw [List.map_append]; rfl
        rw [ew]; rfl
    · obtain ⟨a5, a6, rfl⟩ := hI
      have ez : ((mv.map mvD).length : Int).toNat = mv.length := by rw [List.length_map]; omega
      rw [ez, ← bfs_succ hp]
      have pre := (bfs_pre1 many mv n).length_le
      exact ⟨m - 1, by omega, n + 1, _, _, _, by omega, by omega, rfl⟩
  · have hb := of_decide_eq_false hb
    rw [wK_len] at hb
    refine JSs.forget 4 (JSs.forget 5 (JSs.forget 6 ?_))
    refine JSs.one (JS.ret (JV.je (JE.jv (je_listO cj 5 2 T.z_list (hR n ?_)))))
    omega
/-- meeting -/
theorem find_at {α : Type} {q : α → Bool} {p : α} : ∀ {B : List α} {i : Nat}, B[i]? = some p → q p = true → (∀ j r, j < i → B[j]? = some r → q r = false) → B.find? q = some p
  | [], _, h, _, _ => by simp at h
  | x :: B, 0, h, hq, _ => by
    cases h
    rw [List.find?_cons, hq]
  | x :: B, i + 1, h, hq, hn => by
    rw [List.find?_cons, hn 0 x (Nat.zero_lt_succ i) rfl]
    exact find_at (B := B) (i := i) h hq fun j r hj hr => hn (j + 1) r (by omega) hr
def apD (l : List (Int × Int)) : D := .tup [.str "apart", .lst (l.map prD)]
def roD (r : List Int) : D := .tup [.str "row", .lst (r.map .int)]
def mtD (B : BR) : D := match B.find? (fun p => decide (p.1.length = 1)) with
  | some p => roD p.2
  | none => apD []
@[reducible] def sp_meeting (T : Tx K mg) : J.Spec := fun ps R _ => ∃ (many : Int) (mv : List (Int × List Int)), ps = [.v (.ins T.C_Chain ["many", "moves"] [.int many, .lst (mv.map mvD)])] ∧ Ch many mv ∧
  (∀ p0 rest, apL many mv = p0 :: rest → R (.fz (apD (pbL many mv p0))) []) ∧ (apL many mv = [] → ∀ N, N = (bfs many mv N).length → R (.fz (mtD (bfs many mv N))) [])
open Classical in
theorem ap_first {many : Int} {mv : List (Int × List Int)} {p0 : Int × Int} {rest : List (Int × Int)} (h : apL many mv = p0 :: rest) : p0 ∈ prs many ∧ ¬ Mt mv p0.1 p0.2 := by
  have hm : p0 ∈ apL many mv := by rw [h]; simp
  unfold apL at hm
  obtain ⟨h1, h2⟩ := List.mem_filter.mp hm
  exact ⟨h1, by simpa using h2⟩
theorem ok_meeting (T : Tx K mg) : FnOk P w K mg base (L2.CX P w) 5 T.a_meeting T.d_meeting ["chain"] (SpJ K (sp_meeting T)) := by
  refine jfn T.F_meeting z_meeting zo_meeting zf_meeting (sp_meeting T) (fun as R RX h => ?_) (fun X B E as R RX cj hE h => ?_)
  · obtain ⟨_, _, rfl, _⟩ := h; rfl
  obtain ⟨many, mv, rfl, hc, hA, hB⟩ := h
  have m1 := hc.m1
  have m2 := hc.m2
  have fl : ∀ l : List (Int × Int), Flat 2 (.lst (l.map prD)) := fun l => .lst (prs_flat l)
  show JSs X B _ [.fz (chD T.C_Chain many mv), .no, .no, .no, .no, .no] _
  refine JSs.cons ?_
  refine js_set cj 1 (je_call0 cj (ok_never T) (by decide) 0 T.g_never T.F_never.kp T.b_never (JD.cons (jv_name cj 0 (JD.nil ⟨many, mv, rfl, hc, ?_⟩))))
  refine JSs.freeze 1 rfl rfl ?_
  show JSs X B _ [.fz (chD T.C_Chain many mv), .fz (.lst ((apL many mv).map prT)), .no, .no, .no, .no] _
  refine JSs.cons ?_
  refine JS.ite (jt_ne cj (JV.loose (jv_name cj 1 ⟨_, prs_lo _, JE.jv (je_lst (JD.nil ⟨lz rfl, ⟨2, fl _, by decide⟩, ⟨2, fl [], by decide⟩, fun hb => ?_, fun hb => JSs.nil ?_⟩))⟩)))
  · cases hap : apL many mv with
    | nil =>
      rw [hap] at hb
      have hb : (!deq (.lst ([].map prD)) (.lst ([].map prD))) = true := hb
      rw [deq_refl (fl [])] at hb; cases hb
    | cons p0 rest =>
      obtain ⟨h0, n0⟩ := ap_first hap
      refine JSs.one (JS.ret (JV.je (jv_tup (JD.cons (jv_str (JD.cons (JE.jv (je_call0 cj (ok_pairs_behind T) (by decide) 1 T.g_pairs_behind T.F_pairs_behind.kp T.b_pairs_behind ?_))))))))
      refine JD.cons (jv_name cj 0 (JD.cons (jv_ix (jv_name cj 1 (jv_int ⟨_, _, prT p0, .lst, rfl, at_nat (i := 0) rfl, JD.nil ⟨many, mv, p0, rfl, hc, h0, n0, ?_⟩⟩)))))
      exact JD.nil ⟨lz rfl, hA p0 rest hap⟩
  have hap : apL many mv = [] := by
    have hb : deq (.lst ((apL many mv).map prD)) (.lst ([].map prD)) = true := by simpa using hb
    have := (deq_iff (fl _) (fl [])).mp hb
    injection this with this
    exact List.map_eq_nil_iff.mp this
  refine JSs.cons ?_
  refine js_set cj 2 (JV.je (jv_tupRgP cj 2 3 T.z_tuple T.z_range (jv_fldK cj T.cl_Chain T.na_Chain_many (jv_name cj 0 ⟨_, _, _, rfl, rfl, many, rfl, ⟨by omega, by omega, by omega, by omega, by omega⟩, ?_⟩))))
  rw [rgI0]
  refine JSs.cons ?_
  refine js_set cj 3 (je_tdisp1 cj (jv_name cj 2 (jv_tup (JD.nil ⟨lz rfl, rg many, rfl, ?_⟩))))
  refine JSs.cons ?_
  refine js_set cj 4 (je_lst (JD.cons (jv_name cj 2 (JD.nil ⟨lz rfl, ?_⟩))))
  refine JSs.forget 1 ?_
  show JSs X B _ [.fz (chD T.C_Chain many mv), .no, .fz (.tp ((rg many).map .int)), .ow (.dT (kt (bK (bfs many mv 0)))), .ow (.lst (wK (bfs many mv 0))), .no] _
  refine JSs.cons ?_
  refine js_for cj (ji_seq (JE.jv (je_call cj (ok_walking T) (by decide) 4 T.g_walking T.F_walking.kp T.b_walking (JA.cons (jv_name cj 0 (JA.lend cj 3 (JA.lend cj 4 (JA.nil ⟨rfl, many, mv, rfl, hc, fun N hN => ?_⟩))))))))
  refine ⟨_, .inl rfl, fun i G => ∃ a5, (∀ j p, j < i → (bfs many mv N)[j]? = some p → p.1.length ≠ 1) ∧ G = [.fz (chD T.C_Chain many mv), .no, .fz (.tp ((rg many).map .int)), .ow (.dT (kt (bK (bfs many mv N)))), .ow (.lst (wK (bfs many mv N))), a5], ⟨.no, fun _ _ h => absurd h (Nat.not_lt_zero _), rfl⟩, fun i d G hi hd hI => ?_, fun G hI => ?_⟩
  · obtain ⟨a5, hno, rfl⟩ := hI
    have bo := bfs_ok hc N
    obtain ⟨p, hp, rfl⟩ := map_get hd
    refine JG.name cj 5 ?_
    refine JSs.one ?_
    refine JS.ite (jt_eqi cj (jv_len cj 5 T.z_len (jv_name cj 5 ⟨_, .tp, jv_int ⟨_, _, rfl, rfl, fun hb => ?_, fun hb => JSs.nil ⟨_, fun j r hj hr => ?_, rfl⟩⟩⟩)))
    · have hb := of_decide_eq_true hb
      rw [List.length_map] at hb
      have h1 : p.1.length = 1 := by omega
      refine JSs.one (JS.ret (JV.je (jv_tup (JD.cons (jv_str (JD.cons (JE.jv (je_listOf cj 6 T.z_list (jv_tget cj 3 (jv_name cj 5 ⟨bK (bfs many mv N), p.1, .tup (p.2.map .int), _, rfl, .free, rfl, bK_get bo.nd (List.mem_of_getElem? hp), _, .tup, JD.nil ⟨lz rfl, ?_⟩⟩))))))))))
      have := hB hap N hN
      unfold mtD at this
      rw [find_at hp (decide_eq_true h1) fun j r hj hr => decide_eq_false (hno j r hj hr)] at this
      exact this
    · have hb := of_decide_eq_false hb
      rw [List.length_map] at hb
      by_cases z : j < i
      · exact hno j r z hr
      · have : j = i := by omega
        subst this
        rw [hp] at hr; cases hr
        omega
  obtain ⟨a5, hno, rfl⟩ := hI
  rw [wK_len] at hno
  refine JSs.forget 5 ?_
  refine JSs.one (JS.ret (JV.je (jv_tup (JD.cons (jv_str (JD.cons (JE.jv (je_lst (JD.nil ⟨lz rfl, JD.nil ⟨lz rfl, ?_⟩⟩)))))))))
  have := hB hap N hN
  unfold mtD at this
  rw [List.find?_eq_none.mpr fun p hp => ?_] at this
  · exact this
  · obtain ⟨j, hj⟩ := List.getElem?_of_mem hp
    have := hno j p (List.getElem?_eq_some_iff.mp hj).1 hj
    simp [this]
/-! all sets come to; one of one place where all places meet -/
theorem bfs_stop {many : Int} {mv : List (Int × List Int)} {n : Nat} (h : (bfs many mv n).length ≤ n) : ∀ d : Nat, bfs many mv (n + d) = bfs many mv n
  | 0 => rfl
  | d + 1 => by
    have ih := bfs_stop h d
    show (match (bfs many mv (n + d))[n + d]? with | none => bfs many mv (n + d) | some p => _) = _
    rw [ih, List.getElem?_eq_none (by omega)]
theorem bfs_full {many : Int} {mv : List (Int × List Int)} {N : Nat} (hN : N = (bfs many mv N).length) {i : Nat} (hi : i < N) : i < (bfs many mv i).length := by
  apply Classical.byContradiction
  intro z
  have := bfs_stop (many := many) (mv := mv) (n := i) (by omega) (N - i)
  rw [show i + (N - i) = N by omega] at this
  rw [this] at hN
  omega
theorem bAdd_mem (B : BR) (b r : List Int) : b ∈ (bAdd B b r).map (·.1) := by
  unfold bAdd
  split
  · assumption
  · simp
theorem pre_mem {B C : BR} (h : B <+: C) {b : List Int} (hb : b ∈ B.map (·.1)) : b ∈ C.map (·.1) := by
  obtain ⟨t, rfl⟩ := h
  rw [List.map_append]; exact List.mem_append_left _ hb
theorem bIn_mem {mv : List (Int × List Int)} {s r : List Int} {B : BR} {k : Nat} : ∀ {j : Nat}, k < j → nb mv (k : Nat) s ∈ (bIn mv s r j B).map (·.1)
  | 0, h => absurd h (Nat.not_lt_zero k)
  | j + 1, h => by
    by_cases e : k = j
    · subst e; exact bAdd_mem _ _ _
    · exact pre_mem (bAdd_pre _ _ _) (bIn_mem (j := j) (by omega))
theorem bfs_cl {many : Int} {mv : List (Int × List Int)} {N : Nat} (hN : N = (bfs many mv N).length) {p : List Int × List Int} (hp : p ∈ bfs many mv N) {k : Nat} (hk : k < mv.length) : nb mv (k : Nat) p.1 ∈ (bfs many mv N).map (·.1) := by
  obtain ⟨i, hi⟩ := List.getElem?_of_mem hp
  have hlt : i < N := by have := (List.getElem?_eq_some_iff.mp hi).1; omega
  have hl := bfs_full hN hlt
  have pre := bfs_pre many mv i (N - i)
  rw [show i + (N - i) = N by omega] at pre
  have hp2 : (bfs many mv i)[i]? = some p := by
    obtain ⟨t, ht⟩ := pre
    rw [← ht, List.getElem?_append_left hl] at hi
    exact hi
  have pre2 := bfs_pre many mv (i + 1) (N - (i + 1))
  rw [show i + 1 + (N - (i + 1)) = N by omega] at pre2
  refine pre_mem pre2 ?_
  rw [bfs_succ hp2]
  exact bIn_mem hk
theorem nb_le (mv : List (Int × List Int)) (k : Int) (s : List Int) : (nb mv k s).length ≤ s.length := by
  have := ss_le (s.map (gI (rw_ mv k)))
  rw [List.length_map] at this; exact this
theorem nb_lt {mv : List (Int × List Int)} {k a b : Int} {s : List Int} (hs : s.Pairwise (· < ·)) (ha : a ∈ s) (hb : b ∈ s) (hne : a ≠ b) (e : gI (rw_ mv k) a = gI (rw_ mv k) b) : (nb mv k s).length < s.length := by
  have nd := nodup_lt hs
  have hsub : ∀ x ∈ nb mv k s, x ∈ (s.erase b).map (gI (rw_ mv k)) := fun x hx => by
    obtain ⟨y, hy, rfl⟩ := nb_mem.mp hx
    by_cases z : y = b
    · subst z
      rw [← e]
      exact List.mem_map.mpr ⟨a, (List.Nodup.mem_erase_iff nd).mpr ⟨hne, ha⟩, rfl⟩
    · exact List.mem_map.mpr ⟨y, (List.Nodup.mem_erase_iff nd).mpr ⟨z, hy⟩, rfl⟩
  have := List.Nodup.length_le_of_subset (nodup_lt (ss_sorted (s.map (gI (rw_ mv k))))) (l₂ := (s.erase b).map (gI (rw_ mv k))) hsub
  rw [List.length_map, List.length_erase_of_mem hb] at this
  have h0 : 0 < s.length := List.length_pos_of_mem hb
  have this : (nb mv k s).length ≤ s.length - 1 := this
  omega
theorem mv_row {mv : List (Int × List Int)} {m : Int × List Int} (hm : m ∈ mv) : ∃ k : Nat, k < mv.length ∧ rw_ mv (k : Int) = m.2 := by
  obtain ⟨k, hk⟩ := List.getElem?_of_mem hm
  refine ⟨k, (List.getElem?_eq_some_iff.mp hk).1, ?_⟩
  unfold rw_
  rw [Int.toNat_natCast, List.getD_eq_getElem?_getD, hk]; rfl
theorem bfs_less {many : Int} {mv : List (Int × List Int)} (c : Ch many mv) {N : Nat} (hN : N = (bfs many mv N).length) {a b : Int} (h : Mt mv a b) : a ≠ b → ∀ {s : List Int}, s ∈ (bfs many mv N).map (·.1) → a ∈ s → b ∈ s → ∃ s' ∈ (bfs many mv N).map (·.1), s'.length < s.length := by
  induction h with
  | @one a b m hm e =>
    intro hne s hs ha hb
    obtain ⟨p, hp, rfl⟩ := List.mem_map.mp hs
    obtain ⟨k, hk, er⟩ := mv_row hm
    exact ⟨_, bfs_cl hN hp hk, nb_lt ((bfs_ok c N).ok p hp).1.lt ha hb hne (by rw [er]; exact e)⟩
  | @step a b m hm _ ih =>
    intro hne s hs ha hb
    obtain ⟨p, hp, rfl⟩ := List.mem_map.mp hs
    obtain ⟨k, hk, er⟩ := mv_row hm
    by_cases e : gI m.2 a = gI m.2 b
    · exact ⟨_, bfs_cl hN hp hk, nb_lt ((bfs_ok c N).ok p hp).1.lt ha hb hne (by rw [er]; exact e)⟩
    · obtain ⟨s', h1, h2⟩ := ih e (bfs_cl hN hp hk) (nb_mem.mpr ⟨a, ha, by rw [er]⟩) (nb_mem.mpr ⟨b, hb, by rw [er]⟩)
      have := nb_le mv (k : Int) p.1
      exact ⟨s', h1, by omega⟩
theorem bfs_one {many : Int} {mv : List (Int × List Int)} (c : Ch many mv) (hap : apL many mv = []) {N : Nat} (hN : N = (bfs many mv N).length) : ∃ p ∈ bfs many mv N, p.1.length = 1 := by
  have key : ∀ (n : Nat) (p : List Int × List Int), p ∈ bfs many mv N → p.1.length ≤ n → ∃ p ∈ bfs many mv N, p.1.length = 1 := by
    intro n
    induction n with
    | zero =>
      intro p hp hl
      exact absurd (List.length_eq_zero_iff.mp (Nat.le_zero.mp hl)) ((bfs_ok c N).ok p hp).1.ne
    | succ n ih =>
      intro p hp hl
      have so := ((bfs_ok c N).ok p hp).1
      match hs : p.1, so with
      | [], so => exact absurd rfl so.ne
      | [a], _ => exact ⟨p, hp, by rw [hs]; rfl⟩
      | a :: b :: r, so =>
        have hab : a < b := (List.pairwise_cons.mp so.lt).1 b (by simp)
        have ra := so.rg a (by simp)
        have rb := so.rg b (by simp)
        obtain ⟨s', h1, h2⟩ := bfs_less c hN (apL_nil hap ra.1 ra.2 rb.1 rb.2 (by omega)) (by omega) (List.mem_map.mpr ⟨p, hp, hs⟩) (by simp) (by simp)
        obtain ⟨p', hp', rfl⟩ := List.mem_map.mp h1
        rw [hs] at hl
        exact ih p' hp' (by omega)
  have h0 : (bfs many mv 0) <+: bfs many mv N := by
    have := bfs_pre many mv 0 N
    rwa [Nat.zero_add] at this
  have hm : (rg many, ([] : List Int)) ∈ bfs many mv N := by
    obtain ⟨t, ht⟩ := h0
    rw [← ht]
    exact List.mem_append_left _ (List.mem_singleton.mpr rfl)
  exact key _ _ hm (Nat.le_refl _)
/-- _law_shortest -/
def bKL (B : BR) : KTD := B.map fun p => (p.1, D.lst (p.2.map .int))
theorem bKL_len (B : BR) : (bKL B).length = B.length := List.length_map ..
theorem bKL_isSome (k : List Int) : ∀ B : BR, (tget (bKL B) k).isSome = decide (k ∈ B.map (·.1))
  | [] => rfl
  | q :: B => by
    have ih := bKL_isSome k B
    unfold tget bKL at ih ⊢
    rw [List.map_cons, List.find?_cons]
    by_cases e : q.1 = k
    · simp [e]
    · rw [decide_eq_false e]
      rw [ih]
      have : ¬ k = q.1 := fun z => e z.symm
      simp [this]
theorem bKL_get {p : List Int × List Int} : ∀ {B : BR}, (B.map (·.1)).Nodup → p ∈ B → tget (bKL B) p.1 = some (.lst (p.2.map .int))
  | [], _, h => by cases h
  | q :: B, nd, h => by
    have nd' := List.nodup_cons.mp nd
    unfold tget bKL
    rw [List.map_cons, List.find?_cons]
    by_cases e : q.1 = p.1
    · have : q = p := by
        rcases List.mem_cons.mp h with h | h
        · exact h.symm
        · exact absurd (show q.1 ∈ B.map (·.1) by rw [e]; exact List.mem_map.mpr ⟨p, h, rfl⟩) nd'.1
      subst this
      simp
    · rw [decide_eq_false e]
      have hp : p ∈ B := by
        rcases List.mem_cons.mp h with h | h
        · exact absurd (by rw [h]) e
        · exact h
      have := bKL_get nd'.2 hp
      unfold tget bKL at this
      exact this
theorem bKL_put {B : BR} {b r : List Int} (h : b ∉ B.map (·.1)) : tput (bKL B) b (.lst (r.map .int)) = bKL (B ++ [(b, r)]) := by
  have e : ((bKL B).any fun q => decide (q.1 = b)) = false := by
    rw [List.any_eq_false]
    intro q hq
    obtain ⟨p, hp, rfl⟩ := List.mem_map.mp hq
    simp only [decide_eq_true_eq]
    intro z
    have z : p.1 = b := z
    exact h (by rw [← z]; exact List.mem_map.mpr ⟨p, hp, rfl⟩)
  unfold tput
  rw [e, if_neg (by decide)]
  unfold bKL
  rw [List.map_append]; rfl
@[reducible] def sp__law_shortest : J.Spec := fun ps R _ => ∃ (many : Int) (mv : List (Int × List Int)), ps = [.v (toldD many mv)] ∧ Ch many mv ∧ apL many mv = [] ∧ ∀ r : List Int, (∀ N, N = (bfs many mv N).length → mtD (bfs many mv N) = roD r) → R (.fz (.lst (r.map .int))) []
theorem ok__law_shortest (T : Tx K mg) : FnOk P w K mg base (L2.CX P w) 1 T.a__law_shortest T.d__law_shortest ["_law_told"] (SpJ K sp__law_shortest) := by
  refine jfn T.F__law_shortest z__law_shortest zo__law_shortest zf__law_shortest sp__law_shortest (fun as R RX h => ?_) (fun X B E as R RX cj hE h => ?_)
  · obtain ⟨_, _, rfl, _⟩ := h; rfl
  obtain ⟨many, mv, rfl, hc, hap, hR⟩ := h
  have m1 := hc.m1
  have m2 := hc.m2
  have l2 := hc.l2
  show JSs X B _ [.fz (toldD many mv), .no, .no, .no, .no, .no, .no, .no] _
  refine JSs.cons ?_
  refine js_set cj 1 (je_tdisp1 cj (jv_tupRgP cj 0 1 T.z_tuple T.z_range (jv_ix (jv_name cj 0 (jv_int ⟨_, _, D.int many, .tup, rfl, rfl, many, rfl, ⟨by omega, by omega, by omega, by omega, by omega⟩, ?_⟩)))))
  rw [rgI0]
  refine JE.jv (je_lst (JD.nil ⟨lz rfl, rg many, rfl, ?_⟩))
  show JSs X B _ [.fz (toldD many mv), .ow (.dT (kt (bKL (bfs many mv 0)))), .no, .no, .no, .no, .no, .no] _
  refine JSs.cons ?_
  refine js_set cj 2 (je_listKeysT cj 2 1 T.z_list (m := bKL (bfs many mv 0)) ?_)
  show JSs X B _ [.fz (toldD many mv), .ow (.dT (kt (bKL (bfs many mv 0)))), .ow (.lst (wK (bfs many mv 0))), .no, .no, .no, .no, .no] _
  refine JSs.cons (js_set cj 3 (JV.je (jv_int ?_)))
  refine JSs.cons ?_
  refine JS.whileN cj (fun m G => ∃ n a4 a5 a6, n ≤ (bfs many mv n).length ∧ (∀ j p, j < n → (bfs many mv n)[j]? = some p → p.1.length ≠ 1) ∧ m + n = 64 ∧ G = [.fz (toldD many mv), .ow (.dT (kt (bKL (bfs many mv n)))), .ow (.lst (wK (bfs many mv n))), .fz (.int (n : Nat)), a4, a5, a6, .no]) 64 ⟨0, _, _, _, Nat.zero_le _, fun _ _ h => absurd h (Nat.not_lt_zero _), rfl, rfl⟩ fun m G hI => ?_
  obtain ⟨n, a4, a5, a6, hn, hno, hm, rfl⟩ := hI
  have bo := bfs_ok hc n
  have few := bo.few m2
  have hlt : n < (bfs many mv n).length := by
    apply Classical.byContradiction
    intro z
    obtain ⟨p, hp, h1⟩ := bfs_one hc hap (N := n) (by omega)
    obtain ⟨i, hi⟩ := List.getElem?_of_mem hp
    exact hno i p (by have := (List.getElem?_eq_some_iff.mp hi).1; omega) hi h1
  obtain ⟨p, hp⟩ : ∃ p, (bfs many mv n)[n]? = some p := ⟨_, List.getElem?_eq_getElem hlt⟩
  have hpm := List.mem_of_getElem? hp
  obtain ⟨so, rok, _⟩ := bo.ok p hpm
  have plen := bo.len n p hp
  have slen : p.1.length ≤ 6 := by
    have := (set_sub so).length_le
    rw [rg_len] at this; omega
  refine jt_gt (jv_len cj 3 T.z_len (jv_ixO cj 2 (jv_name cj 3 ⟨_, _, _, rfl, rfl, at_nat (wK_get hp), _, .tp, jv_int ⟨_, _, rfl, rfl, fun hb => ?_, fun hb => ?_⟩⟩)))
  · have hb := of_decide_eq_true hb
    rw [List.length_map] at hb
    refine JSs.cons ?_
    refine js_set cj 4 (JV.je (jv_ixO cj 2 (jv_name cj 3 ⟨_, _, _, rfl, rfl, at_nat (wK_get hp), ?_⟩)))
    refine JSs.cons ?_
    refine js_set cj 3 (JV.je (jv_add (jv_name cj 3 (jv_int ⟨_, _, rfl, rfl, ?_⟩))))
    refine JSs.one ?_
    refine js_for cj (ji_range1 cj 1 T.z_range (jv_len cj 3 T.z_len (jv_ix (jv_name cj 0 (jv_int ⟨_, _, D.lst (mv.map mvD), .tup, rfl, rfl, _, .lst, _, rfl, ?_, ?_, fun j G => ∃ a5 a6, G = [.fz (toldD many mv), .ow (.dT (kt (bKL (bIn mv p.1 p.2 j (bfs many mv n))))), .ow (.lst (wK (bIn mv p.1 p.2 j (bfs many mv n)))), .fz (.int ((n : Int) + 1)), .fz (.tp (p.1.map .int)), a5, a6, .no], ⟨a5, a6, rfl⟩, fun j d G hj hd hI => ?_, fun G hI => ?_⟩)))))
    · omega
    · rw [List.length_map]; omega
    · obtain ⟨a5, a6, rfl⟩ := hI
      have hd : d = .int ((j : Nat) : Int) := hd.trans (by rw [Int.zero_add])
      subst hd
      rw [List.length_map] at hj
      have hj : j < mv.length := by omega
      obtain ⟨⟨wt, row⟩, hq⟩ : ∃ q, mv[j]? = some q := ⟨_, List.getElem?_eq_getElem hj⟩
      have ok : NumOk mv (j : Nat) := ⟨by omega, by omega⟩
      have er : rw_ mv (j : Nat) = row := by simp [rw_, hq]
      have hrow := hc.row ok
      rw [er] at hrow
      have bo2 := bo.ins hc hp j (by omega)
      have few2 := bo2.few m2
      have hp2 := pre_get (bIn_pre mv p.1 p.2 (bfs many mv n) j) hp
      have hgm : (mv.map mvD)[j]? = some (mvD (wt, row)) := by rw [List.getElem?_map, hq]; rfl
      refine JG.name cj 5 ?_
      refine JSs.cons ?_
      refine js_set cj 6 (JV.je (jv_tupleP cj 0 T.z_tuple (JE.jv (je_sortedSetS cj 4 5 T.z_sorted T.z_set (JE.jv ?_)))))
      refine je_lcB cj [0, 5, 7] [7] [] [("_law_place", 7)] (ji_tp (jv_name cj 4 ⟨_, rfl, ?_⟩))
      refine LcI.map (fun i d => ∀ x, p.1[i]? = some x → d = .int (gI row x)) ?_ (fun G => G = [.fz (toldD many mv), .ow (.dT (kt (bKL (bIn mv p.1 p.2 j (bfs many mv n))))), .ow (.lst (wK (bIn mv p.1 p.2 j (bfs many mv n)))), .fz (.int ((n : Int) + 1)), .fz (.tp (p.1.map .int)), .fz (.int ((j : Nat) : Int)), a6, .no]) rfl (fun i d G2 hi hd hI X1 c1 => ?_) fun acc G2 hacc hv hI => ?_
      · rw [List.length_map]; unfold sizeLine; omega
      · subst hI
        obtain ⟨x, hx, rfl⟩ := map_int_get hd
        have hx2 := so.rg x (List.mem_of_getElem? hx)
        refine JG.name c1 7 fun X3 c3 => ?_
        refine jv_ix (jv_ix (jv_ix (jv_ix (jv_name c3 0 (jv_int ⟨_, _, D.lst (mv.map mvD), .tup, rfl, rfl, jv_name c3 5 ⟨_, _, _, .lst, rfl, at_nat hgm, jv_int ⟨_, _, D.tup (row.map .int), .tup, rfl, rfl, jv_name c3 7 ⟨_, _, _, .tup, rfl, at_int (ns := row) hx2.1 (by omega), fun y hy => ?_, rfl⟩⟩⟩⟩)))))
        rw [hx] at hy; cases hy; rfl
      subst hI
      rw [List.length_map] at hacc
      have eacc := map_acc hacc hv
      subst eacc
      refine ⟨p.1.map (gI row), .lst, by rw [List.length_map]; omega, ?_⟩
      refine ⟨_, .inl rfl, ?_⟩
      have enb : ss (p.1.map (gI row)) = nb mv (j : Nat) p.1 := by unfold nb; rw [er]
      rw [enb]
      show JSs X B _ [.fz (toldD many mv), .ow (.dT (kt (bKL (bIn mv p.1 p.2 j (bfs many mv n))))), .ow (.lst (wK (bIn mv p.1 p.2 j (bfs many mv n)))), .fz (.int ((n : Int) + 1)), .fz (.tp (p.1.map .int)), .fz (.int ((j : Nat) : Int)), .fz (.tp ((nb mv (j : Nat) p.1).map .int)), .no] _
      refine JSs.one ?_
      refine JS.ite (jt_tnotin cj 1 (jv_name cj 6 ⟨bKL (bIn mv p.1 p.2 j (bfs many mv n)), nb mv (j : Nat) p.1, _, rfl, .free, rfl, ?_⟩))
      rw [bKL_isSome]
      refine ⟨fun hb => ?_, fun hb => JSs.nil ⟨.fz (.int ((j : Nat) : Int)), .fz (.tp ((nb mv (j : Nat) p.1).map .int)), ?_⟩⟩
      rotate_left
      · have hb : nb mv (j : Nat) p.1 ∈ (bIn mv p.1 p.2 j (bfs many mv n)).map (·.1) := by simpa using hb
        have e : bIn mv p.1 p.2 (j + 1) (bfs many mv n) = bIn mv p.1 p.2 j (bfs many mv n) := by
          show bAdd _ _ _ = _
          unfold bAdd
          rw [if_pos hb]
        rw [e]
      have hnot : nb mv (j : Nat) p.1 ∉ (bIn mv p.1 p.2 j (bfs many mv n)).map (·.1) := by simpa using hb
      have e : bIn mv p.1 p.2 (j + 1) (bfs many mv n) = bIn mv p.1 p.2 j (bfs many mv n) ++ [(nb mv (j : Nat) p.1, p.2 ++ [((j : Nat) : Int)])] := by
        show bAdd _ _ _ = _
        unfold bAdd
        rw [if_neg hnot]
      refine JSs.cons ?_
      refine js_tput cj 1 (JE.jv (je_cat (jv_tget cj 1 (jv_name cj 4 ⟨bKL (bIn mv p.1 p.2 j (bfs many mv n)), p.1, .lst (p.2.map .int), _, rfl, .free, rfl, bKL_get bo2.nd (List.mem_of_getElem? hp2), ?_⟩))))
      refine JE.jv (je_lst (JD.cons (jv_name cj 5 (JD.nil ⟨lz rfl, _, _, rfl, rfl, ?_, ?_⟩))))
      · rw [List.length_map]; unfold sizeLine; show _ + 1 ≤ _; omega
      refine jv_name cj 6 ⟨bKL (bIn mv p.1 p.2 j (bfs many mv n)), nb mv (j : Nat) p.1, rfl, rfl, ?_, ?_⟩
      · rw [bKL_len]; unfold sizeLine; omega
      have er2 : (D.lst (p.2.map .int ++ [.int ((j : Nat) : Int)])) = .lst ((p.2 ++ [((j : Nat) : Int)]).map .int) := by rw [List.map_append]; rfl
      rw [er2, bKL_put hnot, ← e]
      refine JSs.one (js_append cj 2 (jv_name cj 6 ⟨wK (bIn mv p.1 p.2 j (bfs many mv n)), rfl, ?_, .fz (.int ((j : Nat) : Int)), .fz (.tp ((nb mv (j : Nat) p.1).map .int)), ?_⟩))
      · rw [wK_len]; unfold sizeLine; omega
      · have ew : wK (bIn mv p.1 p.2 (j + 1) (bfs many mv n)) = wK (bIn mv p.1 p.2 j (bfs many mv n)) ++ [.tp ((nb mv (j : Nat) p.1).map .int)] := by
          rw [e]; unfold wK; rw [List.map_append]; rfl
        rw [ew]; rfl
    · obtain ⟨a5, a6, rfl⟩ := hI
      have ez : ((mv.map mvD).length : Int).toNat = mv.length := by rw [List.length_map]; omega
      rw [ez, ← bfs_succ hp]
      have pre := bfs_pre1 many mv n
      have prl := pre.length_le
      refine ⟨m - 1, by omega, n + 1, _, _, _, by omega, fun j q hj hq => ?_, by omega, rfl⟩
      have hq2 : (bfs many mv n)[j]? = some q := by
        obtain ⟨t, ht⟩ := pre
        rw [← ht, List.getElem?_append_left (by omega)] at hq
        exact hq
      by_cases z : j < n
      · exact hno j q z hq2
      · have : j = n := by omega
        subst this
        rw [hp] at hq2; cases hq2
        omega
  · have hb := of_decide_eq_false hb
    rw [List.length_map] at hb
    have h1 : p.1.length = 1 := by
      have := List.length_pos_iff.mpr so.ne
      omega
    refine JSs.forget 4 (JSs.forget 5 (JSs.forget 6 ?_))
    refine JSs.one (JS.ret (JV.je (jv_tget cj 1 (jv_ixO cj 2 (jv_name cj 3 ⟨_, _, _, rfl, rfl, at_nat (wK_get hp), bKL (bfs many mv n), p.1, .lst (p.2.map .int), _, rfl, .free, rfl, bKL_get bo.nd hpm, hR p.2 fun N hN => ?_⟩)))))
    have hnN : n < N := by
      apply Classical.byContradiction
      intro z
      have := bfs_stop (many := many) (mv := mv) (n := N) (by omega) (n - N)
      rw [show N + (n - N) = n by omega] at this
      rw [this] at hlt
      omega
    have pre := bfs_pre many mv n (N - n)
    rw [show n + (N - n) = N by omega] at pre
    unfold mtD
    rw [find_at (pre_get pre hp) (decide_eq_true h1) fun j r hj hr => ?_]
    refine decide_eq_false (hno j r hj ?_)
    obtain ⟨t, ht⟩ := pre
    rw [← ht, List.getElem?_append_left (by omega)] at hr
    exact hr
/-! pairs come to, turn by turn -/
def PrN (mv : List (Int × List Int)) (p0 : Int × Int) : Nat → Int × Int → Prop
  | 0, q => q = p0
  | t + 1, q => PrN mv p0 t q ∨ ∃ q' m, PrN mv p0 t q' ∧ m ∈ mv ∧ q = behP m.2 q'
theorem PrN.pr {mv : List (Int × List Int)} {p0 : Int × Int} : ∀ {t : Nat} {q : Int × Int}, PrN mv p0 t q → Pr mv p0 q
  | 0, q, h => by rw [show q = p0 from h]; exact .refl
  | t + 1, q, h => by
    rcases h with h | ⟨q', m, h1, h2, rfl⟩
    · exact PrN.pr h
    · exact .step (PrN.pr h1) h2
open Classical in
noncomputable def lbL (many : Int) (mv : List (Int × List Int)) (p0 : Int × Int) (t : Nat) : List (Int × Int) := (prs many).filter fun p => decide (PrN mv p0 t p)
theorem prs_few {many : Int} (m2 : many ≤ 6) : (prs many).length ≤ 15 := by
  have key : ∀ n : Nat, n ≤ 6 → ∀ m : Int, m.toNat = n → (prsTo m n).length ≤ 15 := fun n hn m hm => by
    have e : ∀ i : Nat, (prsTo m (i + 1)).length = (prsTo m i).length + (n - (i + 1)) := fun i => by
      show (prsTo m i ++ _).length = _
      rw [List.length_append, List.length_map, List.length_range, hm]
    have e0 : (prsTo m 0).length = 0 := rfl
    match n, hn with
    | 0, _ => rw [e0]; decide
    | 1, _ => rw [e, e0]; decide
    | 2, _ => rw [e, e, e0]; decide
    | 3, _ => rw [e, e, e, e0]; decide
    | 4, _ => rw [e, e, e, e, e0]; decide
    | 5, _ => rw [e, e, e, e, e, e0]; decide
    | 6, _ => rw [e, e, e, e, e, e, e0]; decide
  exact key many.toNat (by omega) many rfl
theorem prs_nodup {many : Int} (m2 : many ≤ 6) : (prs many).Nodup := (prsTo_lt many.toNat m2).imp fun {a b} h e => by subst e; omega
open Classical in
theorem lb_grow {many : Int} {mv : List (Int × List Int)} (c : Ch many mv) {p0 : Int × Int} (h0 : p0 ∈ prs many) (n0 : ¬ Mt mv p0.1 p0.2) : ∀ t : Nat, t + 1 ≤ (lbL many mv p0 t).length ∨ ∀ q, PrN mv p0 (t + 1) q → PrN mv p0 t q
  | 0 => by
    refine .inl ?_
    have : p0 ∈ lbL many mv p0 0 := List.mem_filter.mpr ⟨h0, decide_eq_true rfl⟩
    exact List.length_pos_of_mem this
  | t + 1 => by
    by_cases cl : ∀ q, PrN mv p0 (t + 1) q → PrN mv p0 t q
    · refine .inr fun q hq => ?_
      rcases hq with hq | ⟨q', m, h1, h2, rfl⟩
      · exact hq
      · exact .inr ⟨q', m, cl q' h1, h2, rfl⟩
    · rcases lb_grow c h0 n0 t with h | h
      · refine .inl ?_
        obtain ⟨q, hq⟩ := Classical.not_forall.mp cl
        obtain ⟨hq1, hq2⟩ := Classical.not_imp.mp hq
        have sub : ∀ x ∈ q :: lbL many mv p0 t, x ∈ lbL many mv p0 (t + 1) := fun x hx => by
          rcases List.mem_cons.mp hx with rfl | hx
          · exact List.mem_filter.mpr ⟨(hq1.pr.in c h0 n0).1, decide_eq_true hq1⟩
          · obtain ⟨a, b⟩ := List.mem_filter.mp hx
            exact List.mem_filter.mpr ⟨a, decide_eq_true (.inl (of_decide_eq_true b))⟩
        have nd : (q :: lbL many mv p0 t).Nodup := List.nodup_cons.mpr ⟨fun z => hq2 (of_decide_eq_true (List.mem_filter.mp z).2), (prs_nodup c.m2).filter _⟩
        have := List.Nodup.length_le_of_subset nd sub
        rw [List.length_cons] at this
        omega
      · exact absurd h cl
open Classical in
theorem lb_all {many : Int} {mv : List (Int × List Int)} (c : Ch many mv) {p0 : Int × Int} (h0 : p0 ∈ prs many) (n0 : ¬ Mt mv p0.1 p0.2) : lbL many mv p0 16 = pbL many mv p0 := by
  have cl : ∀ q, PrN mv p0 17 q → PrN mv p0 16 q := by
    rcases lb_grow c h0 n0 16 with h | h
    · have h1 : (lbL many mv p0 16).length ≤ (prs many).length := List.length_filter_le _ _
      have := prs_few c.m2
      omega
    · exact h
  have all : ∀ q, Pr mv p0 q → PrN mv p0 16 q := fun q hq => by
    induction hq with
    | refl =>
      have : ∀ t, PrN mv p0 t p0 := fun t => by
        induction t with
        | zero => exact rfl
        | succ t ih => exact .inl ih
      exact this 16
    | step _ hm ih => exact cl _ (.inr ⟨_, _, ih, hm, rfl⟩)
  unfold lbL pbL
  refine List.filter_congr fun q _ => ?_
  by_cases h : Pr mv p0 q
  · rw [decide_eq_true h, decide_eq_true (all q h)]
  · rw [decide_eq_false h, decide_eq_false fun z => h z.pr]
open Classical in
theorem lbL_of {many : Int} {mv : List (Int × List Int)} {p0 : Int × Int} {t : Nat} (m2 : many ≤ 6) {ks : List (List Int)} (nd : ks.Nodup) (hm : ∀ k, k ∈ ks ↔ ∃ q, q ∈ prs many ∧ PrN mv p0 t q ∧ k = pl q) (pw : ks.Pairwise (fun a b => TS.code 64 a ≤ TS.code 64 b)) : ks = (lbL many mv p0 t).map pl := by
  have slt : (lbL many mv p0 t).Pairwise (fun p q => p.1 < q.1 ∨ (p.1 = q.1 ∧ p.2 < q.2)) := List.Pairwise.filter _ (prsTo_lt many.toNat m2)
  have bnd : ∀ q, q ∈ prs many → 0 ≤ q.1 ∧ q.1 < 6 ∧ 0 ≤ q.2 ∧ q.2 < 6 := fun q hq => by
    have := prs_mem.mp (show (q.1, q.2) ∈ prs many from hq)
    omega
  have inj : ∀ p q : Int × Int, pl p = pl q → p = q := fun p q h => by
    unfold pl at h
    injection h with h1 h2
    injection h2 with h2 _
    exact Prod.ext h1 h2
  have ndb : ((lbL many mv p0 t).map pl).Nodup := by
    rw [List.Nodup, List.pairwise_map]
    exact slt.imp fun {a b} h e => by have := inj _ _ e; subst this; omega
  have memb : ∀ k, k ∈ (lbL many mv p0 t).map pl ↔ ∃ q, q ∈ prs many ∧ PrN mv p0 t q ∧ k = pl q := fun k => by
    rw [List.mem_map]
    constructor
    · rintro ⟨q, hq, rfl⟩
      obtain ⟨a, b⟩ := List.mem_filter.mp hq
      exact ⟨q, a, of_decide_eq_true b, rfl⟩
    · rintro ⟨q, a, b, rfl⟩
      exact ⟨q, List.mem_filter.mpr ⟨a, decide_eq_true b⟩, rfl⟩
  have pm : ks.Perm ((lbL many mv p0 t).map pl) := (List.perm_ext_iff_of_nodup nd ndb).mpr fun k => by rw [hm, memb]
  refine List.Perm.eq_of_pairwise (le := fun a b => TS.code 64 a ≤ TS.code 64 b) (fun a b ha hb h1 h2 => ?_) pw ?_ pm
  · obtain ⟨p, hp, _, rfl⟩ := (hm a).mp ha
    obtain ⟨q, hq, _, rfl⟩ := (memb b).mp hb
    have b1 := bnd p hp
    have b2 := bnd q hq
    unfold pl at h1 h2 ⊢
    rw [code_pair, code_pair] at h1 h2
    have e1 : p.1 = q.1 := by omega
    have e2 : p.2 = q.2 := by omega
    rw [e1, e2]
  · rw [List.pairwise_map]
    refine List.Pairwise.imp_of_mem (fun {p q} hp hq h => ?_) slt
    have b1 := bnd p (List.mem_filter.mp hp).1
    have b2 := bnd q (List.mem_filter.mp hq).1
    unfold pl
    rw [code_pair, code_pair]
    omega
/-- _law_behind -/
def moreL (mv : List (Int × List Int)) (L : List (Int × Int)) (i : Nat) : List (Int × Int) := L ++ (mv.take i).flatMap fun m => L.map (behP m.2)
theorem moreL_succ {mv : List (Int × List Int)} {L : List (Int × Int)} {i : Nat} {m : Int × List Int} (h : mv[i]? = some m) : moreL mv L (i + 1) = moreL mv L i ++ L.map (behP m.2) := by
  unfold moreL
  rw [List.take_add_one, h, List.flatMap_append]
  simp [List.append_assoc]
theorem moreL_len {mv : List (Int × List Int)} {L : List (Int × Int)} (hL : L.length ≤ 15) (l2 : mv.length ≤ 8) (i : Nat) : (moreL mv L i).length ≤ 135 := by
  have go : ∀ l : List (Int × List Int), (l.flatMap fun m => L.map (behP m.2)).length ≤ 15 * l.length := by
    intro l
    induction l with
    | nil => simp
    | cons q l ih => rw [List.flatMap_cons, List.length_append, List.length_map, List.length_cons]; omega
  have := go (mv.take i)
  have h3 : (mv.take i).length ≤ 8 := by rw [List.length_take]; omega
  unfold moreL
  rw [List.length_append]
  omega
open Classical in
theorem lbL_mem {many : Int} {mv : List (Int × List Int)} {p0 : Int × Int} {t : Nat} {q : Int × Int} : q ∈ lbL many mv p0 t ↔ q ∈ prs many ∧ PrN mv p0 t q := by
  unfold lbL
  rw [List.mem_filter]
  simp
theorem moreL_mem {many : Int} {mv : List (Int × List Int)} (c : Ch many mv) {p0 : Int × Int} (h0 : p0 ∈ prs many) (n0 : ¬ Mt mv p0.1 p0.2) {t : Nat} {q : Int × Int} : q ∈ moreL mv (lbL many mv p0 t) mv.length ↔ q ∈ prs many ∧ PrN mv p0 (t + 1) q := by
  unfold moreL
  rw [List.take_length, List.mem_append, lbL_mem, List.mem_flatMap]
  constructor
  · rintro (⟨h1, h2⟩ | ⟨m, hm, hq⟩)
    · exact ⟨h1, .inl h2⟩
    · obtain ⟨q', hq', rfl⟩ := List.mem_map.mp hq
      have h := lbL_mem.mp hq'
      have hp : PrN mv p0 (t + 1) (behP m.2 q') := .inr ⟨q', m, h.2, hm, rfl⟩
      exact ⟨(hp.pr.in c h0 n0).1, hp⟩
  · rintro ⟨h1, h2⟩
    rcases h2 with h2 | ⟨q', m, h3, hm, rfl⟩
    · exact .inl ⟨h1, h2⟩
    · exact .inr ⟨m, hm, List.mem_map.mpr ⟨q', lbL_mem.mpr ⟨(h3.pr.in c h0 n0).1, h3⟩, rfl⟩⟩
theorem lbL_zero {many : Int} {mv : List (Int × List Int)} (m2 : many ≤ 6) {p0 : Int × Int} (h0 : p0 ∈ prs many) : lbL many mv p0 0 = [p0] := by
  have h := lbL_of (many := many) (mv := mv) (p0 := p0) (t := 0) m2 (ks := [pl p0]) (by simp) (fun k => ?_) (by simp)
  · cases hl : lbL many mv p0 0 with
    | nil => rw [hl] at h; cases h
    | cons a r =>
      rw [hl] at h
      injection h with h1 h2
      have e2 : r = [] := List.map_eq_nil_iff.mp h2.symm
      have ha : a ∈ lbL many mv p0 0 := by rw [hl]; simp
      have e1 : a = p0 := (lbL_mem.mp ha).2
      rw [e1, e2]
  · constructor
    · intro hk
      rw [List.mem_singleton.mp hk]
      exact ⟨p0, h0, rfl, rfl⟩
    · rintro ⟨q, _, hq, rfl⟩
      rw [show q = p0 from hq]; simp
@[reducible] def sp__law_behind : J.Spec := fun ps R _ => ∃ (many : Int) (mv : List (Int × List Int)) (p0 : Int × Int), ps = [.v (toldD many mv), .v (prD p0)] ∧ Ch many mv ∧ p0 ∈ prs many ∧ ¬ Mt mv p0.1 p0.2 ∧ R (.fz (.lst ((pbL many mv p0).map prD))) []
theorem ok__law_behind (T : Tx K mg) : FnOk P w K mg base (L2.CX P w) 1 T.a__law_behind T.d__law_behind ["_law_told", "_law_pair"] (SpJ K sp__law_behind) := by
  refine jfn T.F__law_behind z__law_behind zo__law_behind zf__law_behind sp__law_behind (fun as R RX h => ?_) (fun X B E as R RX cj hE h => ?_)
  · obtain ⟨_, _, _, rfl, _⟩ := h; rfl
  obtain ⟨many, mv, p0, rfl, hc, h0, n0, hR⟩ := h
  have m1 := hc.m1
  have m2 := hc.m2
  have l2 := hc.l2
  have pf := prs_few m2
  have few : ∀ t, (lbL many mv p0 t).length ≤ 15 := fun t => Nat.le_trans (List.length_filter_le _ _) pf
  show JSs X B _ [.fz (toldD many mv), .fz (prD p0), .no, .no, .no, .no, .no] _
  refine JSs.cons ?_
  refine js_set cj 2 (je_lst (JD.cons (jv_name cj 1 (JD.nil ⟨lz rfl, ?_⟩))))
  refine JSs.freeze 2 rfl rfl ?_
  have e0 := lbL_zero (mv := mv) m2 h0
  refine JSs.cons ?_
  refine js_for cj (ji_range1 cj 0 T.z_range (jv_int ⟨16, rfl, by decide, by decide, fun t G => ∃ a b c, G = [.fz (toldD many mv), .fz (prD p0), .fz (.lst ((lbL many mv p0 t).map prD)), a, b, c, .no], ⟨.no, .no, .no, ?_⟩, fun t d G ht hd hI => ?_, fun G hI => ?_⟩))
  · rw [e0]; rfl
  · obtain ⟨a, b, c, rfl⟩ := hI
    refine JG.name cj 3 ?_
    refine JSs.cons ?_
    refine js_set cj 4 (je_listOf cj 1 T.z_list (jv_name cj 2 ⟨_, .lst, ?_⟩))
    refine JSs.cons ?_
    refine js_for cj (ji_seq (jv_ix (jv_name cj 0 (jv_int ⟨_, _, D.lst (mv.map mvD), .tup, rfl, rfl, _, .inl rfl, fun i G => ∃ c, G = [.fz (toldD many mv), .fz (prD p0), .fz (.lst ((lbL many mv p0 t).map prD)), .fz d, .ow (.lst ((moreL mv (lbL many mv p0 t) i).map prD)), c, .no], ⟨c, ?_⟩, fun i d2 G hi hd2 hI => ?_, fun G hI => ?_⟩))))
    · have e : moreL mv (lbL many mv p0 t) 0 = lbL many mv p0 t := by unfold moreL; simp
      rw [e]; rfl
    · obtain ⟨c, rfl⟩ := hI
      obtain ⟨⟨wt, row⟩, hq, rfl⟩ := map_get hd2
      have rok := (hc.mv _ (List.mem_of_getElem? hq)).2
      have rl : (row.length : Int) = many := rok.1
      refine JG.name cj 5 ?_
      refine JSs.one ?_
      refine js_set cj 4 (je_cat (jv_nameF cj 4 (JE.jv (je_lcB cj [5, 6] [6] ["tuple", "sorted"] [("_law_one", 6)] (ji_seq (jv_name cj 2 ⟨_, .inl rfl, ?_⟩))))))
      refine LcI.map (fun j d => ∀ q, (lbL many mv p0 t)[j]? = some q → d = prD (behP row q)) ?_ (fun G => G = [.fz (toldD many mv), .fz (prD p0), .fz (.lst ((lbL many mv p0 t).map prD)), .fz d, .fz (.lst ((moreL mv (lbL many mv p0 t) i).map prD)), .fz (mvD (wt, row)), .no]) rfl (fun j d3 G2 hj hd3 hI X1 c1 => ?_) fun acc G2 hacc hv hI => ?_
      · have := few t
        rw [List.length_map]; unfold sizeLine; omega
      · subst hI
        obtain ⟨q, hq2, rfl⟩ := map_get hd3
        have hq3 := (lbL_mem.mp (List.mem_of_getElem? hq2)).1
        have hp2 := prs_mem.mp (show (q.1, q.2) ∈ prs many from hq3)
        refine JG.name c1 6 fun X3 c3 => ?_
        refine jv_tupleOf c3 0 T.z_tuple (JE.jv (je_sorted c3 1 T.z_sorted (JE.jv (je_lst ?_))))
        refine JD.cons (jv_ix (jv_ix (jv_name c3 5 (jv_int ⟨_, _, D.tup (row.map .int), .tup, rfl, rfl, jv_ix (jv_name c3 6 (jv_int ⟨_, _, D.int q.1, .tup, rfl, rfl, _, q.1, D.int (gI row q.1), .tup, rfl, at_int (ns := row) ?_ ?_, ?_⟩))⟩))))
        · omega
        · omega
        refine JD.cons (jv_ix (jv_ix (jv_name c3 5 (jv_int ⟨_, _, D.tup (row.map .int), .tup, rfl, rfl, jv_ix (jv_name c3 6 (jv_int ⟨_, _, D.int q.2, .tup, rfl, rfl, _, q.2, D.int (gI row q.2), .tup, rfl, at_int (ns := row) ?_ ?_, ?_⟩))⟩))))
        · omega
        · omega
        refine JD.nil ⟨lz rfl, [gI row q.1, gI row q.2], rfl, (by show 2 < 64; decide), ?_⟩
        rw [isort2]
        refine ⟨_, .lst, fun q' hq' => ?_, rfl⟩
        rw [hq2] at hq'; cases hq'; rfl
      subst hI
      rw [List.length_map] at hacc
      have eacc : acc = ((lbL many mv p0 t).map (behP row)).map prD := by
        rw [List.map_map]
        apply List.ext_getElem?
        intro j
        by_cases hj : j < (lbL many mv p0 t).length
        · have hlt : j < acc.length := by omega
          rw [List.getElem?_eq_getElem hlt, hv j _ (List.getElem?_eq_getElem hlt) _ (List.getElem?_eq_getElem hj), List.getElem?_map, List.getElem?_eq_getElem hj]; rfl
        · rw [List.getElem?_eq_none (by omega), List.getElem?_eq_none (by rw [List.length_map]; omega)]
      subst eacc
      refine ⟨_, _, rfl, rfl, ?_, .fz (mvD (wt, row)), ?_⟩
      · have h1 := moreL_len (mv := mv) (few t) l2 i
        have h2 := few t
        rw [List.length_map, List.length_map, List.length_map]; unfold sizeLine; omega
      · rw [moreL_succ hq, List.map_append]; rfl
    · obtain ⟨c, rfl⟩ := hI
      rw [List.length_map]
      have mm : ∀ q, q ∈ moreL mv (lbL many mv p0 t) mv.length ↔ _ := fun q => moreL_mem hc h0 n0 (t := t)
      have ek : (moreL mv (lbL many mv p0 t) mv.length).map prD = ((moreL mv (lbL many mv p0 t) mv.length).map pl).map fun k => D.tup (k.map .int) := by rw [List.map_map]; rfl
      refine JSs.one ?_
      refine js_set cj 2 (JV.je (JE.jv (je_sortedSetT cj 2 3 T.z_sorted T.z_set (jv_nameF cj 4 ⟨(moreL mv (lbL many mv p0 t) mv.length).map pl, (prs many).map pl, congrArg D.lst ek, ?_, fun k hk => ?_, fun k hk => ?_, fun ks nd hm pw => ?_⟩))))
      · rw [List.length_map]; omega
      · obtain ⟨q, hq, rfl⟩ := List.mem_map.mp hk
        exact List.mem_map.mpr ⟨q, ((mm q).mp hq).1, rfl⟩
      · obtain ⟨q, hq, rfl⟩ := List.mem_map.mp hk
        have h1 := prs_mem.mp (show (q.1, q.2) ∈ prs many from ((mm q).mp hq).1)
        refine ⟨rfl, fun y hy => ?_⟩
        rcases List.mem_cons.mp hy with rfl | hy
        · omega
        · rw [List.mem_singleton.mp hy]; omega
      · have e := lbL_of (many := many) (mv := mv) (p0 := p0) (t := t + 1) m2 nd (fun k => ?_) pw
        · rw [e, List.map_map]
          exact ⟨.fz d, .fz (.lst ((moreL mv (lbL many mv p0 t) mv.length).map prD)), c, rfl⟩
        · rw [hm, List.mem_map]
          constructor
          · rintro ⟨q, hq, rfl⟩
            exact ⟨q, ((mm q).mp hq).1, ((mm q).mp hq).2, rfl⟩
          · rintro ⟨q, a, b, rfl⟩
            exact ⟨q, (mm q).mpr ⟨a, b⟩, rfl⟩
  · obtain ⟨a, b, c, rfl⟩ := hI
    have e16 : lbL many mv p0 16 = pbL many mv p0 := lb_all hc h0 n0
    refine JSs.forget 3 (JSs.forget 4 (JSs.forget 5 ?_))
    refine JSs.one (JS.ret (JV.je (jv_name cj 2 ?_)))
    show R (.fz (.lst ((lbL many mv p0 16).map prD))) _
    rw [e16]
    exact hR
/-- _law_permuted -/
@[reducible] def sp__law_permuted : J.Spec := fun ps R _ => ∃ (s : List Int) (o : Ow), ps = [.b o] ∧ Dice s o ∧ s.length ≤ 63 ∧ ∀ many mv o', Ch many mv → Dice s o' → R (.fz (toldD many mv)) [(0, o')]
theorem ok__law_permuted (T : Tx K mg) : FnOk P w K mg base (L2.CX P w) 3 T.a__law_permuted T.d__law_permuted ["_law_d"] (SpJ K sp__law_permuted) := by
  refine jfn T.F__law_permuted z__law_permuted zo__law_permuted zf__law_permuted sp__law_permuted (fun as R RX h => ?_) (fun X B E as R RX cj hE h => ?_)
  · obtain ⟨_, _, rfl, _⟩ := h; rfl
  obtain ⟨s, o, rfl, ho, hs, hR⟩ := h
  show JSs X B _ [.bw 0 o, .no, .no, .no, .no, .no] _
  refine JSs.cons (js_set cj 1 (JV.je (jv_add (jv_int (jv_off T cj (by decide) 0 0 s hs (jv_int ⟨_, _, rfl, rfl, ho, by decide, fun r o1 r0 r1 ho1 => ⟨_, _, rfl, rfl, ?_⟩⟩))))))
  obtain ⟨many, hmany⟩ : ∃ many : Int, 2 + r = many := ⟨_, rfl⟩
  rw [hmany]
  refine JSs.cons (js_set cj 2 (je_lst (JD.nil ⟨lz rfl, ?_⟩)))
  refine JSs.cons (js_for cj (ji_range1 cj 1 T.z_range (jv_add (jv_int (jv_off T cj (by decide) 0 0 s hs (jv_int ⟨_, _, rfl, rfl, ho1, by decide, fun r2 o2 r20 r21 ho2 => ?_⟩))))))
  refine ⟨_, _, rfl, rfl, _, rfl, ?_, ?_, fun i G => ∃ (mv : List (Int × List Int)) (o : Ow) (a b : Ent), G = [.bw 0 o, .fz (.int many), .ow (.lst (mv.map mvD)), a, b, .no] ∧ Dice s o ∧ mv.length = i ∧ ∀ p ∈ mv, MvOk many p, ⟨[], o2, .no, .no, rfl, ho2, rfl, fun p hp => by cases hp⟩, fun i d G hi hd hI => ?_, fun G hI => ?_⟩
  · omega
  · omega
  · obtain ⟨mv, o, a, b, rfl, ho, hml, hmv⟩ := hI
    subst hd
    refine JG.name cj 3 ?_
    refine JSs.cons (js_set cj 4 (je_listRg cj 2 1 T.z_list T.z_range (jv_name cj 1 ⟨many, rfl, ⟨by omega, by omega, by omega, by omega, by omega⟩, ?_⟩)))
    rw [rgI0]
    refine JSs.one (js_append cj 2 (jv_tup (JD.cons (jv_add (jv_int (jv_off T cj (by decide) 0 0 s hs (jv_int ⟨_, _, rfl, rfl, ho, by decide, fun r3 o3 r30 r31 ho3 => ⟨_, _, rfl, rfl, ?_⟩⟩)))))))
    refine JD.cons (jv_tupleOf cj 3 T.z_tuple (JE.jv (je_lcB cj [0, 4, 5] [5] ["_law_off", "len"] [("_law_k", 5)] (ji_range1 cj 1 T.z_range (jv_name cj 1 ⟨_, rfl, ?_, ?_, ?_⟩)))))
    · omega
    · omega
    refine LcI.mapN (fun _ d => ∃ x, d = .int x ∧ 0 ≤ x ∧ x < many) ?_ (fun j G => ∃ (o : Ow) (l : List Int), G = [.bw 0 o, .fz (.int many), .ow (.lst (mv.map mvD)), .fz (.int (0 + (i : Nat))), .ow (.lst (l.map .int)), .no] ∧ Dice s o ∧ l.length + j = many.toNat ∧ ∀ x ∈ l, 0 ≤ x ∧ x < many) ⟨o3, rg many, rfl, ho3, by rw [rg_len]; omega, fun x hx => rg_mem.mp hx⟩ (fun j d G2 hj hd hI X1 c1 => ?_) fun acc G2 hacc hv hI => ?_
    · unfold sizeLine; omega
    · obtain ⟨o, l, rfl, ho, hlen, hl⟩ := hI
      refine JG.name c1 5 fun X3 c3 => ?_
      refine jv_popAt c3 4 (jv_off T c3 (by decide) 0 0 s hs (jv_lenO c3 1 4 T.z_len ⟨_, _, rfl, rfl, ho, ⟨?_, ?_⟩, fun r4 o4 r40 r41 ho4 => ?_⟩))
      · rw [List.length_map]; omega
      · rw [List.length_map]; omega
      rw [List.length_map] at r41
      have hlt : r4.toNat < l.length := by omega
      refine ⟨_, _, .int l[r4.toNat], rfl, rfl, r40, ?_, ?_, ⟨_, rfl, hl _ (List.getElem_mem hlt)⟩, o4, l.eraseIdx r4.toNat, ?_, ho4, ?_, fun x hx => hl x (mem_eraseIdx_of hx)⟩
      · omega
      · rw [List.getElem?_map, List.getElem?_eq_getElem hlt]; rfl
      · rw [eraseIdx_mapD]; rfl
      · rw [List.length_eraseIdx_of_lt hlt]; omega
    · obtain ⟨o, l, rfl, ho, hlen, hl⟩ := hI
      obtain ⟨row, rfl, hrow⟩ := ints_ex (p := fun x => 0 ≤ x ∧ x < many) hv
      rw [List.length_map] at hacc
      refine ⟨_, .lst, JD.nil ⟨lz rfl, ⟨_, rfl, ?_, ?_⟩⟩⟩
      · rw [List.length_map]; unfold sizeLine; omega
      refine ⟨mv ++ [(1 + r3, row)], o, .fz (.int (0 + (i : Nat))), .ow (.lst (l.map .int)), ?_, ho, by simp [hml], fun p hp => ?_⟩
      · rw [List.map_append]; rfl
      · rcases List.mem_append.mp hp with hp | hp
        · exact hmv p hp
        · rcases List.mem_singleton.mp hp with rfl
          exact ⟨⟨by show 1 ≤ 1 + r3; omega, by show 1 + r3 ≤ 99; omega⟩, by show (row.length : Int) = many; omega, hrow⟩
  · obtain ⟨mv, o, a, b, rfl, ho, hml, hmv⟩ := hI
    refine JSs.forget 3 (JSs.forget 4 ?_)
    refine JSs.one (JS.ret (JV.je (jv_tup (JD.cons (jv_name cj 1 (JD.cons (jv_nameF cj 2 (JD.nil ⟨lz rfl, ?_⟩))))))))
    exact hR many mv o ⟨by omega, by omega, by omega, by omega, hmv⟩ ho
/-- law -/
theorem strs_flat : Flat 0 (.str "row") ∧ Flat 0 (.str "apart") := ⟨.str _ (by decide +kernel), .str _ (by decide +kernel)⟩
theorem apD_flat (l : List (Int × Int)) : Flat 3 (apD l) := .tup fun d hd => by
  rcases List.mem_cons.mp hd with rfl | hd
  · exact strs_flat.2.mono (by decide)
  · rw [List.mem_singleton.mp hd]; exact (Flat.lst (prs_flat l)).mono (by decide)
theorem roD_flat (r : List Int) : Flat 3 (roD r) := .tup fun d hd => by
  rcases List.mem_cons.mp hd with rfl | hd
  · exact strs_flat.1.mono (by decide)
  · rw [List.mem_singleton.mp hd]; exact (Flat.lst (k := 0) (flat_ints r)).mono (by decide)
theorem bfs_same {many : Int} {mv : List (Int × List Int)} {N N' : Nat} (hN : N = (bfs many mv N).length) (hN' : N' = (bfs many mv N').length) : N = N' := by
  rcases Nat.le_total N N' with h | h
  · have := bfs_stop (many := many) (mv := mv) (n := N) (by omega) (N' - N)
    rw [show N + (N' - N) = N' by omega] at this
    rw [this] at hN'
    omega
  · have := bfs_stop (many := many) (mv := mv) (n := N') (by omega) (N - N')
    rw [show N' + (N - N') = N by omega] at this
    rw [this] at hN
    omega
theorem ok_law (T : Tx K mg) : FnOk P w K mg base (L2.CX P w) 6 T.a_law T.d_law ["_law_script"] (SpJ K spLaw) := by
  refine jfn T.F_law z_law zo_law zf_law spLaw (fun as R RX h => ?_) (fun X B E as R RX cj hE h => ?_)
  · obtain ⟨_, rfl, _⟩ := h; rfl
  obtain ⟨s, rfl, hs, hR⟩ := h
  show JSs X B _ [.fz (.kls (s.map .int)), .no, .no, .no, .no] _
  refine JSs.cons (js_set cj 1 (je_callG cj (ok__law_chain T) (by decide) 0 T.g__law_chain T.F__law_chain.kp T.b__law_chain ?_))
  refine je_call0 cj (ok__law_dice T) (by decide) 1 T.g__law_dice T.F__law_dice.kp T.b__law_dice ?_
  refine JD.cons (jv_name cj 0 (JD.cons (jv_int (JD.nil ⟨s, _, rfl, by decide, hs, fun o ho => ⟨_, rfl, ?_⟩⟩))))
  refine JD.cons (jv_int (JD.nil ⟨s, o, _, rfl, ho, hs, by decide, by decide, fun many mv o' hc _ => ?_⟩))
  refine JSs.mid (fun G => ∃ (many : Int) (mv : List (Int × List Int)), G = [.fz (.kls (s.map .int)), .fz (toldD many mv), .no, .no, .no] ∧ Ch many mv) ?_ ?_
  · refine JS.ite (jt_eqi cj (jv_mod (jv_abs cj 2 T.z_abs (JE.jv (je_call0 cj (ok__law_cell T) (by decide) 3 T.g__law_cell T.F__law_cell.kp T.b__law_cell ?_)))))
    refine JD.cons (jv_name cj 0 (JD.cons (jv_int (JD.nil ⟨s, _, rfl, by decide, hs, fun r => ?_⟩))))
    refine ⟨_, rfl, jv_int ⟨_, _, rfl, rfl, by decide, jv_int ⟨_, _, rfl, rfl, fun _ => ?_, fun _ => JSs.nil ⟨many, mv, rfl, hc⟩⟩⟩⟩
    refine JSs.one (js_set cj 1 (je_callG cj (ok__law_permuted T) (by decide) 4 T.g__law_permuted T.F__law_permuted.kp T.b__law_permuted ?_))
    refine je_call0 cj (ok__law_dice T) (by decide) 1 T.g__law_dice T.F__law_dice.kp T.b__law_dice ?_
    exact JD.cons (jv_name cj 0 (JD.cons (jv_int (JD.nil ⟨s, _, rfl, by decide, hs, fun o ho => ⟨_, rfl, JD.nil ⟨s, o, rfl, ho, hs, fun many mv _ hc _ => ⟨many, mv, rfl, hc⟩⟩⟩⟩))))
  rintro G ⟨many, mv, rfl, hc⟩
  have m1 := hc.m1
  have m2 := hc.m2
  have pf := prs_few m2
  have fl : ∀ l : List (Int × Int), Flat 2 (.lst (l.map prD)) := fun l => .lst (prs_flat l)
  have f0 : Flat 2 (.lst []) := .lst fun d hd => by cases hd
  refine JSs.mid (fun G => ∃ d, ((∃ p0 rest, apL many mv = p0 :: rest ∧ d = apD (pbL many mv p0)) ∨ (apL many mv = [] ∧ ∃ (r : List Int) (N : Nat), d = roD r ∧ N = (bfs many mv N).length ∧ mtD (bfs many mv N) = roD r)) ∧ G = [.fz (.kls (s.map .int)), .fz (toldD many mv), .fz d, .no, .no]) ?_ ?_
  · refine js_set cj 2 (je_call0 cj (ok_meeting T) (by decide) 5 T.g_meeting T.F_meeting.kp T.b_meeting ?_)
    refine JD.cons (JE.jv (je_call0 cj (ok__law_made T) (by decide) 6 T.g__law_made T.F__law_made.kp T.b__law_made (JD.cons (jv_name cj 1 (JD.nil ⟨many, mv, rfl, fun _ => ?_, fun h => absurd hc h⟩)))))
    refine JD.nil ⟨many, mv, rfl, hc, fun p0 rest hap => ⟨_, .inl ⟨p0, rest, hap, rfl⟩, rfl⟩, fun hap N hN => ⟨_, .inr ⟨hap, ?_⟩, rfl⟩⟩
    obtain ⟨p, hp, h1⟩ := bfs_one hc hap hN
    cases hf : (bfs many mv N).find? (fun p => decide (p.1.length = 1)) with
    | none => exact absurd (decide_eq_true h1) (List.find?_eq_none.mp hf p hp)
    | some q =>
      have e : mtD (bfs many mv N) = roD q.2 := by unfold mtD; rw [hf]
      exact ⟨q.2, N, e, hN, e⟩
  rintro G ⟨d, hd, rfl⟩
  obtain ⟨w1, d2, rfl, hd2⟩ : ∃ w1 d2, d = .tup [.str w1, .lst d2] ∧ True := by
    rcases hd with ⟨_, _, _, rfl⟩ | ⟨_, _, _, rfl, _⟩
    · exact ⟨_, _, rfl, trivial⟩
    · exact ⟨_, _, rfl, trivial⟩
  refine JSs.cons ?_
  refine JS.ite (JW.jt (jw_or (jt_not (jt_val (jv_isi cj 7 T.z_isinstance (jv_name cj 2 (jv_ty (T := "tuple") cj 8 T.z_tuple (by decide +kernel) ⟨"tuple", "tuple", true, rfl, rfl, by decide +kernel, _, rfl, fun _ => ?_, fun z => absurd z (by decide)⟩)))))))
  refine (jw_or (jt_nei cj (jv_len cj 9 T.z_len (jv_name cj 2 ⟨_, .tup, jv_int ⟨_, _, rfl, rfl, fun _ => ?_, fun z => ?_⟩⟩))))
  rotate_left
  · simp at z
  refine jw_or1 (jt_not (jt_val (jv_isi cj 7 T.z_isinstance (jv_ix (jv_name cj 2 (jv_int ⟨_, _, D.lst d2, .tup, rfl, rfl, jv_ty (T := "list") cj 10 T.z_list (by decide +kernel) ⟨"list", "list", true, rfl, rfl, by decide +kernel, _, rfl, fun z => absurd z (by decide), fun _ => JSs.nil ?_⟩⟩))))))
  refine JSs.cons ?_
  refine js_set cj 3 (je_call0 cj (ok__law_apart T) (by decide) 11 T.g__law_apart T.F__law_apart.kp T.b__law_apart (JD.cons (jv_name cj 1 (JD.nil ⟨many, mv, rfl, hc, ?_⟩))))
  refine JSs.freeze 3 rfl rfl ?_
  show JSs X B _ [.fz (.kls (s.map .int)), .fz (toldD many mv), .fz (.tup [.str w1, .lst d2]), .fz (.lst ((apL many mv).map prD)), .no] _
  refine JSs.cons ?_
  refine JS.ite (jt_eq cj (jv_name cj 3 (JE.jv (je_lst (JD.nil ⟨lz rfl, ⟨2, fl _, by decide⟩, ⟨2, f0, by decide⟩, fun hb => ?_, fun hb => JSs.nil ?_⟩)))))
  · have hap : apL many mv = [] := by
      have := (deq_iff (fl _) f0).mp hb
      injection this with this
      exact List.map_eq_nil_iff.mp this
    rcases hd with ⟨p0, rest, h2, _⟩ | ⟨_, r, N, ed, hN, hr⟩
    · rw [hap] at h2; cases h2
    refine JSs.one (JS.ret (JV.je (jv_eq cj (jv_name cj 2 (jv_tup (JD.cons (jv_str (JD.cons (JE.jv (je_call0 cj (ok__law_shortest T) (by decide) 12 T.g__law_shortest T.F__law_shortest.kp T.b__law_shortest (JD.cons (jv_name cj 1 (JD.nil ⟨many, mv, rfl, hc, hap, fun r2 h2 => ?_⟩)))))))))))))
    have e2 := h2 N hN
    rw [hr] at e2
    rw [ed]
    have e3 : deq (roD r) (roD r2) = true := by rw [e2]; exact deq_refl (roD_flat r2)
    refine JD.nil ⟨lz rfl, ⟨3, roD_flat r, by decide⟩, ⟨3, roD_flat r2, by decide⟩, ?_⟩
    have e3 : deq (roD r) (.tup [.str "row", .lst (r2.map .int)]) = true := e3
    rw [e3]
    exact hR
  · rcases hd with ⟨p0, rest, hap, ed⟩ | ⟨hap, _⟩
    rotate_left
    · rw [hap] at hb
      have hb : deq (.lst ([].map prD)) (.lst ([].map prD)) = false := hb
      rw [deq_refl (fl [])] at hb; cases hb
    obtain ⟨h0, n0⟩ := ap_first hap
    rw [hap, ed]
    refine JSs.cons ?_
    refine JS.ite (jt_ne cj (jv_name cj 2 (jv_tup (JD.cons (jv_str (JD.cons (JE.jv (je_call0 cj (ok__law_behind T) (by decide) 13 T.g__law_behind T.F__law_behind.kp T.b__law_behind ?_))))))))
    refine JD.cons (jv_name cj 1 (JD.cons (jv_ix (jv_name cj 3 (jv_int ⟨_, _, prD p0, .lst, rfl, at_nat (i := 0) rfl, JD.nil ⟨many, mv, p0, rfl, hc, h0, n0, ?_⟩⟩)))))
    refine JD.nil ⟨lz rfl, ⟨3, apD_flat _, by decide⟩, ⟨3, apD_flat (pbL many mv p0), by decide⟩, fun z => ?_, fun _ => JSs.nil ?_⟩
    · have e : deq (apD (pbL many mv p0)) (.tup [.str "apart", .lst ((pbL many mv p0).map prD)]) = true := deq_refl (apD_flat _)
      rw [e] at z; cases z
    refine JSs.one (JS.ret (JV.je (jv_eq cj (JE.jv ?_))))
    refine je_lcB cj [4] [4] ["isinstance", "tuple"] [("_law_pair", 4)] (ji_seq (jv_ix (jv_name cj 2 (jv_int ⟨_, _, D.lst ((pbL many mv p0).map prD), .tup, rfl, rfl, _, .inl rfl, ?_, fun i acc G => acc = [] ∧ G = [.fz (.kls (s.map .int)), .fz (toldD many mv), .fz (apD (pbL many mv p0)), .fz (.lst ((p0 :: rest).map prD)), .no], ⟨rfl, rfl⟩, fun i d acc G2 hi hd hI hlt X1 c1 => ?_, fun acc G2 hI => ?_⟩))))
    · have : (pbL many mv p0).length ≤ (prs many).length := List.length_filter_le _ _
      rw [List.length_map]; unfold sizeLine; omega
    · obtain ⟨rfl, rfl⟩ := hI
      obtain ⟨q, hq, rfl⟩ := map_get hd
      have hqm : q ∈ prs many := (List.mem_filter.mp (List.mem_of_getElem? hq)).1
      have hq2 := prs_mem.mp (show (q.1, q.2) ∈ prs many from hqm)
      refine JG.name c1 4 fun X2 c2 => JTs.one ?_
      refine JW.jt (jw_or (jt_not (jt_val (jv_isi c2 0 T.z_isinstance (jv_name c2 4 (jv_ty (T := "tuple") c2 1 T.z_tuple (by decide +kernel) ⟨"tuple", "tuple", true, rfl, rfl, by decide +kernel, _, rfl, fun _ => ?_, fun z => absurd z (by decide)⟩))))))
      refine jw_or1 (jt_eqi c2 (jv_ix (jv_name c2 4 (jv_int ⟨_, _, D.int q.1, .tup, rfl, rfl, jv_ix (jv_name c2 4 (jv_int ⟨_, _, D.int q.2, .tup, rfl, rfl, _, _, rfl, rfl, fun z => ?_, fun _ => ⟨rfl, rfl⟩⟩))⟩))))
      have := of_decide_eq_true z
      omega
    obtain ⟨rfl, rfl⟩ := hI
    refine JE.jv (je_lst (JD.nil ⟨lz rfl, ⟨2, f0, by decide⟩, ⟨2, f0, by decide⟩, ?_⟩))
    rw [deq_refl f0]
    exact hR
end
theorem all_mk {l : PySem.W.OpenLaw} {w : World} {K : PySem.W.Frag} {h : Heap} {mg : Str → Option Value} {fa : Addr} (X : K.In h) (G : h.Ns mainGlobals mg) (hfa : mg "law" = some (.ref fa))
    {C_Chain : Addr} {C_BadChain : Addr} {f1 : Addr} {od1 an1 : Option Addr} {sl1 : Array (Option Value)} {oc1 kV1 dc1 pm1 cd1 ct1 : Value} {f2 : Addr} {od2 an2 : Option Addr} {sl2 : Array (Option Value)} {oc2 kV2 dc2 pm2 cd2 ct2 : Value} {f3 : Addr} {od3 an3 : Option Addr} {sl3 : Array (Option Value)} {oc3 kV3 dc3 pm3 cd3 ct3 : Value} {f4 : Addr} {od4 an4 : Option Addr} {sl4 : Array (Option Value)} {oc4 kV4 dc4 pm4 cd4 ct4 : Value} {f5 : Addr} {od5 an5 : Option Addr} {sl5 : Array (Option Value)} {oc5 kV5 dc5 pm5 cd5 ct5 : Value} {f6 : Addr} {od6 an6 : Option Addr} {sl6 : Array (Option Value)} {oc6 kV6 dc6 pm6 cd6 ct6 : Value} {f7 : Addr} {od7 an7 : Option Addr} {sl7 : Array (Option Value)} {oc7 kV7 dc7 pm7 cd7 ct7 : Value} {f8 : Addr} {od8 an8 : Option Addr} {sl8 : Array (Option Value)} {oc8 kV8 dc8 pm8 cd8 ct8 : Value} {f9 : Addr} {od9 an9 : Option Addr} {sl9 : Array (Option Value)} {oc9 kV9 dc9 pm9 cd9 ct9 : Value} {f10 : Addr} {od10 an10 : Option Addr} {sl10 : Array (Option Value)} {oc10 kV10 dc10 pm10 cd10 ct10 : Value} {f11 : Addr} {od11 an11 : Option Addr} {sl11 : Array (Option Value)} {oc11 kV11 dc11 pm11 cd11 ct11 : Value} {f12 : Addr} {od12 an12 : Option Addr} {sl12 : Array (Option Value)} {oc12 kV12 dc12 pm12 cd12 ct12 : Value} {f13 : Addr} {od13 an13 : Option Addr} {sl13 : Array (Option Value)} {oc13 kV13 dc13 pm13 cd13 ct13 : Value} {f14 : Addr} {od14 an14 : Option Addr} {sl14 : Array (Option Value)} {oc14 kV14 dc14 pm14 cd14 ct14 : Value} {f15 : Addr} {od15 an15 : Option Addr} {sl15 : Array (Option Value)} {oc15 kV15 dc15 pm15 cd15 ct15 : Value} {f16 : Addr} {od16 an16 : Option Addr} {sl16 : Array (Option Value)} {oc16 kV16 dc16 pm16 cd16 ct16 : Value} {f17 : Addr} {od17 an17 : Option Addr} {sl17 : Array (Option Value)} {oc17 kV17 dc17 pm17 cd17 ct17 : Value} {f18 : Addr} {od18 an18 : Option Addr} {sl18 : Array (Option Value)} {oc18 kV18 dc18 pm18 cd18 ct18 : Value} {f19 : Addr} {od19 an19 : Option Addr} {sl19 : Array (Option Value)} {oc19 kV19 dc19 pm19 cd19 ct19 : Value} {f20 : Addr} {od20 an20 : Option Addr} {sl20 : Array (Option Value)} {oc20 kV20 dc20 pm20 cd20 ct20 : Value} {tk_MOST_PLACES : Tok} {tk_MOST_MOVES : Tok} {tk_MOST_WEIGHT : Tok}
    (aC_Chain : PySem.W.nsIn K mainGlobals "Chain" = some (some (.ref C_Chain)))
    (pg_Chain : PySem.W.plainGet K C_Chain Str.empty = true)
    (hd_Chain : PySem.W.hasDictIn K C_Chain = true)
    (po_Chain : PySem.W.plainOver K C_Chain = true)
    (sa_Chain : PySem.W.findIn K (.ref C_Chain) "__setattr__" = some (some (.builtin "object.__setattr__")))
    (mm_Chain : PySem.W.makesIn K C_Chain = true)
    (kc_Chain : PySem.W.keepIn K (.ref C_Chain) = true)
    (na_Chain_many : PySem.W.findIn K (.ref C_Chain) "many" = some none)
    (na_Chain_moves : PySem.W.findIn K (.ref C_Chain) "moves" = some none)
    (aC_BadChain : PySem.W.nsIn K mainGlobals "BadChain" = some (some (.ref C_BadChain)))
    (kp_BadChain : PySem.W.keepIn K (.ref C_BadChain) = true)
    (su_BadChain : PySem.W.subIn K (.ref C_BadChain) (.type "BaseException") = some true)
    (ty_BadChain : PySem.W.typeIn K (.ref C_BadChain) = some (.type "type"))
    (xi_BadChain : PySem.W.excIn K C_BadChain [.type "ValueError", .type "Exception", .type "BaseException", .type "object"] "ValueError.__new__" = true)
    (a1 : PySem.W.nsIn K mainGlobals "_law_cell" = some (some (.ref f1)))
    (l1 : K.lookup f1 = some ⟨oc1, od1, .func (PySem.W.fnOf "_law_cell" "_law_cell" (defArgs s__law_cell) (defBody s__law_cell) (defScope s__law_cell) .none kV1 dc1 pm1 an1 cd1 ct1), sl1⟩)
    (c1 : PySem.W.codeIn K cd1 "_law_cell" = true)
    (k1 : PySem.W.keepIn K (.ref f1) = true)
    (a2 : PySem.W.nsIn K mainGlobals "_law_off" = some (some (.ref f2)))
    (l2 : K.lookup f2 = some ⟨oc2, od2, .func (PySem.W.fnOf "_law_off" "_law_off" (defArgs s__law_off) (defBody s__law_off) (defScope s__law_off) .none kV2 dc2 pm2 an2 cd2 ct2), sl2⟩)
    (c2 : PySem.W.codeIn K cd2 "_law_off" = true)
    (k2 : PySem.W.keepIn K (.ref f2) = true)
    (a3 : PySem.W.nsIn K mainGlobals "_law_chain" = some (some (.ref f3)))
    (l3 : K.lookup f3 = some ⟨oc3, od3, .func (PySem.W.fnOf "_law_chain" "_law_chain" (defArgs s__law_chain) (defBody s__law_chain) (defScope s__law_chain) .none kV3 dc3 pm3 an3 cd3 ct3), sl3⟩)
    (c3 : PySem.W.codeIn K cd3 "_law_chain" = true)
    (k3 : PySem.W.keepIn K (.ref f3) = true)
    (a4 : PySem.W.nsIn K mainGlobals "_law_dice" = some (some (.ref f4)))
    (l4 : K.lookup f4 = some ⟨oc4, od4, .func (PySem.W.fnOf "_law_dice" "_law_dice" (defArgs s__law_dice) (defBody s__law_dice) (defScope s__law_dice) .none kV4 dc4 pm4 an4 cd4 ct4), sl4⟩)
    (c4 : PySem.W.codeIn K cd4 "_law_dice" = true)
    (k4 : PySem.W.keepIn K (.ref f4) = true)
    (a5 : PySem.W.nsIn K mainGlobals "_law_permuted" = some (some (.ref f5)))
    (l5 : K.lookup f5 = some ⟨oc5, od5, .func (PySem.W.fnOf "_law_permuted" "_law_permuted" (defArgs s__law_permuted) (defBody s__law_permuted) (defScope s__law_permuted) .none kV5 dc5 pm5 an5 cd5 ct5), sl5⟩)
    (c5 : PySem.W.codeIn K cd5 "_law_permuted" = true)
    (k5 : PySem.W.keepIn K (.ref f5) = true)
    (a6 : PySem.W.nsIn K mainGlobals "pairs_of" = some (some (.ref f6)))
    (l6 : K.lookup f6 = some ⟨oc6, od6, .func (PySem.W.fnOf "pairs_of" "pairs_of" (defArgs s_pairs_of) (defBody s_pairs_of) (defScope s_pairs_of) .none kV6 dc6 pm6 an6 cd6 ct6), sl6⟩)
    (c6 : PySem.W.codeIn K cd6 "pairs_of" = true)
    (k6 : PySem.W.keepIn K (.ref f6) = true)
    (a7 : PySem.W.nsIn K mainGlobals "moved_pair" = some (some (.ref f7)))
    (l7 : K.lookup f7 = some ⟨oc7, od7, .func (PySem.W.fnOf "moved_pair" "moved_pair" (defArgs s_moved_pair) (defBody s_moved_pair) (defScope s_moved_pair) .none kV7 dc7 pm7 an7 cd7 ct7), sl7⟩)
    (c7 : PySem.W.codeIn K cd7 "moved_pair" = true)
    (k7 : PySem.W.keepIn K (.ref f7) = true)
    (a8 : PySem.W.nsIn K mainGlobals "goes" = some (some (.ref f8)))
    (l8 : K.lookup f8 = some ⟨oc8, od8, .func (PySem.W.fnOf "goes" "goes" (defArgs s_goes) (defBody s_goes) (defScope s_goes) .none kV8 dc8 pm8 an8 cd8 ct8), sl8⟩)
    (c8 : PySem.W.codeIn K cd8 "goes" = true)
    (k8 : PySem.W.keepIn K (.ref f8) = true)
    (a9 : PySem.W.nsIn K mainGlobals "meeting_pairs" = some (some (.ref f9)))
    (l9 : K.lookup f9 = some ⟨oc9, od9, .func (PySem.W.fnOf "meeting_pairs" "meeting_pairs" (defArgs s_meeting_pairs) (defBody s_meeting_pairs) (defScope s_meeting_pairs) .none kV9 dc9 pm9 an9 cd9 ct9), sl9⟩)
    (c9 : PySem.W.codeIn K cd9 "meeting_pairs" = true)
    (k9 : PySem.W.keepIn K (.ref f9) = true)
    (a10 : PySem.W.nsIn K mainGlobals "never" = some (some (.ref f10)))
    (l10 : K.lookup f10 = some ⟨oc10, od10, .func (PySem.W.fnOf "never" "never" (defArgs s_never) (defBody s_never) (defScope s_never) .none kV10 dc10 pm10 an10 cd10 ct10), sl10⟩)
    (c10 : PySem.W.codeIn K cd10 "never" = true)
    (k10 : PySem.W.keepIn K (.ref f10) = true)
    (a11 : PySem.W.nsIn K mainGlobals "pairs_behind" = some (some (.ref f11)))
    (l11 : K.lookup f11 = some ⟨oc11, od11, .func (PySem.W.fnOf "pairs_behind" "pairs_behind" (defArgs s_pairs_behind) (defBody s_pairs_behind) (defScope s_pairs_behind) .none kV11 dc11 pm11 an11 cd11 ct11), sl11⟩)
    (c11 : PySem.W.codeIn K cd11 "pairs_behind" = true)
    (k11 : PySem.W.keepIn K (.ref f11) = true)
    (a12 : PySem.W.nsIn K mainGlobals "walking" = some (some (.ref f12)))
    (l12 : K.lookup f12 = some ⟨oc12, od12, .func (PySem.W.fnOf "walking" "walking" (defArgs s_walking) (defBody s_walking) (defScope s_walking) .none kV12 dc12 pm12 an12 cd12 ct12), sl12⟩)
    (c12 : PySem.W.codeIn K cd12 "walking" = true)
    (k12 : PySem.W.keepIn K (.ref f12) = true)
    (a13 : PySem.W.nsIn K mainGlobals "meeting" = some (some (.ref f13)))
    (l13 : K.lookup f13 = some ⟨oc13, od13, .func (PySem.W.fnOf "meeting" "meeting" (defArgs s_meeting) (defBody s_meeting) (defScope s_meeting) .none kV13 dc13 pm13 an13 cd13 ct13), sl13⟩)
    (c13 : PySem.W.codeIn K cd13 "meeting" = true)
    (k13 : PySem.W.keepIn K (.ref f13) = true)
    (a14 : PySem.W.nsIn K mainGlobals "must" = some (some (.ref f14)))
    (l14 : K.lookup f14 = some ⟨oc14, od14, .func (PySem.W.fnOf "must" "must" (defArgs s_must) (defBody s_must) (defScope s_must) .none kV14 dc14 pm14 an14 cd14 ct14), sl14⟩)
    (c14 : PySem.W.codeIn K cd14 "must" = true)
    (k14 : PySem.W.keepIn K (.ref f14) = true)
    (a15 : PySem.W.findIn K (.ref C_Chain) "__init__" = some (some (.ref f15)))
    (i15 : PySem.W.isFn K (.ref f15) = true)
    (l15 : K.lookup f15 = some ⟨oc15, od15, .func (PySem.W.fnOf "__init__" "Chain.__init__" (defArgs s_Chain___init__) (defBody s_Chain___init__) (defScope s_Chain___init__) .none kV15 dc15 pm15 an15 cd15 ct15), sl15⟩)
    (c15 : PySem.W.codeIn K cd15 "Chain.__init__" = true)
    (k15 : PySem.W.keepIn K (.ref f15) = true)
    (a16 : PySem.W.nsIn K mainGlobals "_law_made" = some (some (.ref f16)))
    (l16 : K.lookup f16 = some ⟨oc16, od16, .func (PySem.W.fnOf "_law_made" "_law_made" (defArgs s__law_made) (defBody s__law_made) (defScope s__law_made) .none kV16 dc16 pm16 an16 cd16 ct16), sl16⟩)
    (c16 : PySem.W.codeIn K cd16 "_law_made" = true)
    (k16 : PySem.W.keepIn K (.ref f16) = true)
    (a17 : PySem.W.nsIn K mainGlobals "_law_apart" = some (some (.ref f17)))
    (l17 : K.lookup f17 = some ⟨oc17, od17, .func (PySem.W.fnOf "_law_apart" "_law_apart" (defArgs s__law_apart) (defBody s__law_apart) (defScope s__law_apart) .none kV17 dc17 pm17 an17 cd17 ct17), sl17⟩)
    (c17 : PySem.W.codeIn K cd17 "_law_apart" = true)
    (k17 : PySem.W.keepIn K (.ref f17) = true)
    (a18 : PySem.W.nsIn K mainGlobals "_law_shortest" = some (some (.ref f18)))
    (l18 : K.lookup f18 = some ⟨oc18, od18, .func (PySem.W.fnOf "_law_shortest" "_law_shortest" (defArgs s__law_shortest) (defBody s__law_shortest) (defScope s__law_shortest) .none kV18 dc18 pm18 an18 cd18 ct18), sl18⟩)
    (c18 : PySem.W.codeIn K cd18 "_law_shortest" = true)
    (k18 : PySem.W.keepIn K (.ref f18) = true)
    (a19 : PySem.W.nsIn K mainGlobals "_law_behind" = some (some (.ref f19)))
    (l19 : K.lookup f19 = some ⟨oc19, od19, .func (PySem.W.fnOf "_law_behind" "_law_behind" (defArgs s__law_behind) (defBody s__law_behind) (defScope s__law_behind) .none kV19 dc19 pm19 an19 cd19 ct19), sl19⟩)
    (c19 : PySem.W.codeIn K cd19 "_law_behind" = true)
    (k19 : PySem.W.keepIn K (.ref f19) = true)
    (a20 : PySem.W.nsIn K mainGlobals "law" = some (some (.ref f20)))
    (l20 : K.lookup f20 = some ⟨oc20, od20, .func (PySem.W.fnOf "law" "law" (defArgs s_law) (defBody s_law) (defScope s_law) .none kV20 dc20 pm20 an20 cd20 ct20), sl20⟩)
    (c20 : PySem.W.codeIn K cd20 "law" = true)
    (k20 : PySem.W.keepIn K (.ref f20) = true)
    (gc_MOST_PLACES : PySem.W.nsIn K mainGlobals "MOST_PLACES" = some (some (.int 6 tk_MOST_PLACES)))
    (gc_MOST_MOVES : PySem.W.nsIn K mainGlobals "MOST_MOVES" = some (some (.int 8 tk_MOST_MOVES)))
    (gc_MOST_WEIGHT : PySem.W.nsIn K mainGlobals "MOST_WEIGHT" = some (some (.int 99 tk_MOST_WEIGHT)))
    (z_abs : PySem.W.nsIn K mainGlobals "abs" = some none)
    (z_len : PySem.W.nsIn K mainGlobals "len" = some none)
    (z_max : PySem.W.nsIn K mainGlobals "max" = some none)
    (z_range : PySem.W.nsIn K mainGlobals "range" = some none)
    (z_sorted : PySem.W.nsIn K mainGlobals "sorted" = some none)
    (z_tuple : PySem.W.nsIn K mainGlobals "tuple" = some none)
    (z_min : PySem.W.nsIn K mainGlobals "min" = some none)
    (z_int : PySem.W.nsIn K mainGlobals "int" = some none)
    (z_list : PySem.W.nsIn K mainGlobals "list" = some none)
    (z_set : PySem.W.nsIn K mainGlobals "set" = some none)
    (z_isinstance : PySem.W.nsIn K mainGlobals "isinstance" = some none)
    : ∃ fd : FuncData, (∀ (s : Shared) (v : Value), BindsTo s fd ⟨[v], []⟩ [("_law_script", v)]) ∧ ∀ base : Heap, K.In base → base.Ns mainGlobals mg → FnOk l.prog w K mg base (L2.CX l.prog w) 6 fa fd ["_law_script"] (SpJ K J.spLaw) := by
  have e := hfa.symm.trans (PySem.W.mg_of X G a20)
  cases e
  have F1 := fun_mk (st := s__law_cell) l1 c1 k1
  have b1 := F1.binds (ps := ["_law_script", "_law_k"]) fun _ _ _ _ _ _ us hl => match us, hl with | [_, _], _ => rfl
  have F2 := fun_mk (st := s__law_off) l2 c2 k2
  have b2 := F2.binds (ps := ["_law_d", "_law_most"]) fun _ _ _ _ _ _ us hl => match us, hl with | [_, _], _ => rfl
  have F3 := fun_mk (st := s__law_chain) l3 c3 k3
  have b3 := F3.binds (ps := ["_law_d", "_law_most"]) fun _ _ _ _ _ _ us hl => match us, hl with | [_, _], _ => rfl
  have F4 := fun_mk (st := s__law_dice) l4 c4 k4
  have b4 := F4.binds (ps := ["_law_script", "_law_k"]) fun _ _ _ _ _ _ us hl => match us, hl with | [_, _], _ => rfl
  have F5 := fun_mk (st := s__law_permuted) l5 c5 k5
  have b5 := F5.binds (ps := ["_law_d"]) fun _ _ _ _ _ _ us hl => match us, hl with | [_], _ => rfl
  have F6 := fun_mk (st := s_pairs_of) l6 c6 k6
  have b6 := F6.binds (ps := ["chain"]) fun _ _ _ _ _ _ us hl => match us, hl with | [_], _ => rfl
  have F7 := fun_mk (st := s_moved_pair) l7 c7 k7
  have b7 := F7.binds (ps := ["row", "pair"]) fun _ _ _ _ _ _ us hl => match us, hl with | [_, _], _ => rfl
  have F8 := fun_mk (st := s_goes) l8 c8 k8
  have b8 := F8.binds (ps := ["chain", "pair", "known"]) fun _ _ _ _ _ _ us hl => match us, hl with | [_, _, _], _ => rfl
  have F9 := fun_mk (st := s_meeting_pairs) l9 c9 k9
  have b9 := F9.binds (ps := ["chain"]) fun _ _ _ _ _ _ us hl => match us, hl with | [_], _ => rfl
  have F10 := fun_mk (st := s_never) l10 c10 k10
  have b10 := F10.binds (ps := ["chain"]) fun _ _ _ _ _ _ us hl => match us, hl with | [_], _ => rfl
  have F11 := fun_mk (st := s_pairs_behind) l11 c11 k11
  have b11 := F11.binds (ps := ["chain", "pair"]) fun _ _ _ _ _ _ us hl => match us, hl with | [_, _], _ => rfl
  have F12 := fun_mk (st := s_walking) l12 c12 k12
  have b12 := F12.binds (ps := ["chain", "rows", "waiting"]) fun _ _ _ _ _ _ us hl => match us, hl with | [_, _, _], _ => rfl
  have F13 := fun_mk (st := s_meeting) l13 c13 k13
  have b13 := F13.binds (ps := ["chain"]) fun _ _ _ _ _ _ us hl => match us, hl with | [_], _ => rfl
  have F14 := fun_mk (st := s_must) l14 c14 k14
  have b14 := F14.binds (ps := ["good"]) fun _ _ _ _ _ _ us hl => match us, hl with | [_], _ => rfl
  have F15 := fun_mk (st := s_Chain___init__) l15 c15 k15
  have b15 := F15.binds (ps := ["self", "many", "moves"]) fun _ _ _ _ _ _ us hl => match us, hl with | [_, _, _], _ => rfl
  have F16 := fun_mk (st := s__law_made) l16 c16 k16
  have b16 := F16.binds (ps := ["_law_told"]) fun _ _ _ _ _ _ us hl => match us, hl with | [_], _ => rfl
  have F17 := fun_mk (st := s__law_apart) l17 c17 k17
  have b17 := F17.binds (ps := ["_law_told"]) fun _ _ _ _ _ _ us hl => match us, hl with | [_], _ => rfl
  have F18 := fun_mk (st := s__law_shortest) l18 c18 k18
  have b18 := F18.binds (ps := ["_law_told"]) fun _ _ _ _ _ _ us hl => match us, hl with | [_], _ => rfl
  have F19 := fun_mk (st := s__law_behind) l19 c19 k19
  have b19 := F19.binds (ps := ["_law_told", "_law_pair"]) fun _ _ _ _ _ _ us hl => match us, hl with | [_, _], _ => rfl
  have F20 := fun_mk (st := s_law) l20 c20 k20
  have b20 := F20.binds (ps := ["_law_script"]) fun _ _ _ _ _ _ us hl => match us, hl with | [_], _ => rfl
  exact ⟨PySem.W.fnOf "law" "law" (defArgs s_law) (defBody s_law) (defScope s_law) .none kV20 dc20 pm20 an20 cd20 ct20, fun s v => .of_eq rfl,
    fun base _ _ => ok_law (P := l.prog) (w := w) (base := base) ({ C_Chain := C_Chain, cl_Chain := ⟨pg_Chain, hd_Chain, po_Chain, sa_Chain⟩, g_Chain := PySem.W.mg_of X G aC_Chain, na_Chain_many := na_Chain_many, na_Chain_moves := na_Chain_moves, C_BadChain := C_BadChain, g_BadChain := PySem.W.mg_of X G aC_BadChain, kp_BadChain := kp_BadChain, su_BadChain := su_BadChain, ty_BadChain := ty_BadChain, xi_BadChain := xi_BadChain, a__law_cell := f1, d__law_cell := _, F__law_cell := F1, b__law_cell := b1, g__law_cell := PySem.W.mg_of X G a1, a__law_off := f2, d__law_off := _, F__law_off := F2, b__law_off := b2, g__law_off := PySem.W.mg_of X G a2, a__law_chain := f3, d__law_chain := _, F__law_chain := F3, b__law_chain := b3, g__law_chain := PySem.W.mg_of X G a3, a__law_dice := f4, d__law_dice := _, F__law_dice := F4, b__law_dice := b4, g__law_dice := PySem.W.mg_of X G a4, a__law_permuted := f5, d__law_permuted := _, F__law_permuted := F5, b__law_permuted := b5, g__law_permuted := PySem.W.mg_of X G a5, a_pairs_of := f6, d_pairs_of := _, F_pairs_of := F6, b_pairs_of := b6, g_pairs_of := PySem.W.mg_of X G a6, a_moved_pair := f7, d_moved_pair := _, F_moved_pair := F7, b_moved_pair := b7, g_moved_pair := PySem.W.mg_of X G a7, a_goes := f8, d_goes := _, F_goes := F8, b_goes := b8, g_goes := PySem.W.mg_of X G a8, a_meeting_pairs := f9, d_meeting_pairs := _, F_meeting_pairs := F9, b_meeting_pairs := b9, g_meeting_pairs := PySem.W.mg_of X G a9, a_never := f10, d_never := _, F_never := F10, b_never := b10, g_never := PySem.W.mg_of X G a10, a_pairs_behind := f11, d_pairs_behind := _, F_pairs_behind := F11, b_pairs_behind := b11, g_pairs_behind := PySem.W.mg_of X G a11, a_walking := f12, d_walking := _, F_walking := F12, b_walking := b12, g_walking := PySem.W.mg_of X G a12, a_meeting := f13, d_meeting := _, F_meeting := F13, b_meeting := b13, g_meeting := PySem.W.mg_of X G a13, a_must := f14, d_must := _, F_must := F14, b_must := b14, g_must := PySem.W.mg_of X G a14, a_Chain___init__ := f15, d_Chain___init__ := _, F_Chain___init__ := F15, b_Chain___init__ := b15, mk_Chain := ⟨mm_Chain, a15, i15, kc_Chain⟩, a__law_made := f16, d__law_made := _, F__law_made := F16, b__law_made := b16, g__law_made := PySem.W.mg_of X G a16, a__law_apart := f17, d__law_apart := _, F__law_apart := F17, b__law_apart := b17, g__law_apart := PySem.W.mg_of X G a17, a__law_shortest := f18, d__law_shortest := _, F__law_shortest := F18, b__law_shortest := b18, g__law_shortest := PySem.W.mg_of X G a18, a__law_behind := f19, d__law_behind := _, F__law_behind := F19, b__law_behind := b19, g__law_behind := PySem.W.mg_of X G a19, a_law := fa, d_law := _, F_law := F20, b_law := b20, g_law := PySem.W.mg_of X G a20, g_MOST_PLACES := ⟨_, PySem.W.mg_of X G gc_MOST_PLACES⟩, g_MOST_MOVES := ⟨_, PySem.W.mg_of X G gc_MOST_MOVES⟩, g_MOST_WEIGHT := ⟨_, PySem.W.mg_of X G gc_MOST_WEIGHT⟩, z_abs := PySem.W.mg_none_of X G z_abs, z_len := PySem.W.mg_none_of X G z_len, z_max := PySem.W.mg_none_of X G z_max, z_range := PySem.W.mg_none_of X G z_range, z_sorted := PySem.W.mg_none_of X G z_sorted, z_tuple := PySem.W.mg_none_of X G z_tuple, z_min := PySem.W.mg_none_of X G z_min, z_int := PySem.W.mg_none_of X G z_int, z_list := PySem.W.mg_none_of X G z_list, z_set := PySem.W.mg_none_of X G z_set, z_isinstance := PySem.W.mg_none_of X G z_isinstance } : Tx K mg)⟩
end Kz
open PySem PySem.W PyProof.Rows in
set_option maxRecDepth 100000 in
set_option maxHeartbeats 0 in
theorem PySem.Challenge.cw_longago_k11_whole_together_or_apart_holds : PySem.Challenge.rw_longago_k11_whole_together_or_apart.Holds := by
  w_on; o_law; k_head; (case hw => w_witness2)
  k_fill
  refine L2.walk_of (l := PySem.Challenge.rw_longago_k11_whole_together_or_apart) (n := 63) (k := 6) (x := "_law_script") (CX := fun w => L2.CX (PySem.Challenge.rw_longago_k11_whole_together_or_apart).prog w) (sp := fun w => J.SpJ _ J.spLaw) rfl (by decide) rfl ⟨rfl, by decide, by decide⟩ (fun w h Y => PySem.W.kIn_of Y) ?F (fun _ H a ns hl _ hS => J.spLaw_start hS hl) J.cx_none
  case F =>
    intro w mg fa h KX G hmg
    refine' Kz.all_mk KX G hmg ?aC_Chain ?pg_Chain ?hd_Chain ?po_Chain ?sa_Chain ?mm_Chain ?kc_Chain ?na_Chain_many ?na_Chain_moves ?aC_BadChain ?kp_BadChain ?su_BadChain ?ty_BadChain ?xi_BadChain ?a1 ?l1 ?c1 ?k1 ?a2 ?l2 ?c2 ?k2 ?a3 ?l3 ?c3 ?k3 ?a4 ?l4 ?c4 ?k4 ?a5 ?l5 ?c5 ?k5 ?a6 ?l6 ?c6 ?k6 ?a7 ?l7 ?c7 ?k7 ?a8 ?l8 ?c8 ?k8 ?a9 ?l9 ?c9 ?k9 ?a10 ?l10 ?c10 ?k10 ?a11 ?l11 ?c11 ?k11 ?a12 ?l12 ?c12 ?k12 ?a13 ?l13 ?c13 ?k13 ?a14 ?l14 ?c14 ?k14 ?a15 ?i15 ?l15 ?c15 ?k15 ?a16 ?l16 ?c16 ?k16 ?a17 ?l17 ?c17 ?k17 ?a18 ?l18 ?c18 ?k18 ?a19 ?l19 ?c19 ?k19 ?a20 ?l20 ?c20 ?k20 ?gc_MOST_PLACES ?gc_MOST_MOVES ?gc_MOST_WEIGHT ?z_abs ?z_len ?z_max ?z_range ?z_sorted ?z_tuple ?z_min ?z_int ?z_list ?z_set ?z_isinstance
    (case aC_Chain => k_is)
    (case pg_Chain => k_is)
    (case hd_Chain => k_is)
    (case po_Chain => k_is)
    (case sa_Chain => k_is)
    (case mm_Chain => k_is)
    (case kc_Chain => k_is)
    (case na_Chain_many => k_is)
    (case na_Chain_moves => k_is)
    (case aC_BadChain => k_is)
    (case kp_BadChain => k_is)
    (case su_BadChain => k_is)
    (case ty_BadChain => k_is)
    (case xi_BadChain => kernel_rfl)
    (case a1 => k_is)
    (case l1 => k_is)
    (case c1 => k_is)
    (case k1 => k_is)
    (case a2 => k_is)
    (case l2 => k_is)
    (case c2 => k_is)
    (case k2 => k_is)
    (case a3 => k_is)
    (case l3 => k_is)
    (case c3 => k_is)
    (case k3 => k_is)
    (case a4 => k_is)
    (case l4 => k_is)
    (case c4 => k_is)
    (case k4 => k_is)
    (case a5 => k_is)
    (case l5 => k_is)
    (case c5 => k_is)
    (case k5 => k_is)
    (case a6 => k_is)
    (case l6 => k_is)
    (case c6 => k_is)
    (case k6 => k_is)
    (case a7 => k_is)
    (case l7 => k_is)
    (case c7 => k_is)
    (case k7 => k_is)
    (case a8 => k_is)
    (case l8 => k_is)
    (case c8 => k_is)
    (case k8 => k_is)
    (case a9 => k_is)
    (case l9 => k_is)
    (case c9 => k_is)
    (case k9 => k_is)
    (case a10 => k_is)
    (case l10 => k_is)
    (case c10 => k_is)
    (case k10 => k_is)
    (case a11 => k_is)
    (case l11 => k_is)
    (case c11 => k_is)
    (case k11 => k_is)
    (case a12 => k_is)
    (case l12 => k_is)
    (case c12 => k_is)
    (case k12 => k_is)
    (case a13 => k_is)
    (case l13 => k_is)
    (case c13 => k_is)
    (case k13 => k_is)
    (case a14 => k_is)
    (case l14 => k_is)
    (case c14 => k_is)
    (case k14 => k_is)
    (case a15 => k_is)
    (case i15 => k_is)
    (case l15 => k_is)
    (case c15 => k_is)
    (case k15 => k_is)
    (case a16 => k_is)
    (case l16 => k_is)
    (case c16 => k_is)
    (case k16 => k_is)
    (case a17 => k_is)
    (case l17 => k_is)
    (case c17 => k_is)
    (case k17 => k_is)
    (case a18 => k_is)
    (case l18 => k_is)
    (case c18 => k_is)
    (case k18 => k_is)
    (case a19 => k_is)
    (case l19 => k_is)
    (case c19 => k_is)
    (case k19 => k_is)
    (case a20 => k_is)
    (case l20 => k_is)
    (case c20 => k_is)
    (case k20 => k_is)
    (case gc_MOST_PLACES => k_is)
    (case gc_MOST_MOVES => k_is)
    (case gc_MOST_WEIGHT => k_is)
    (case z_abs => k_is)
    (case z_len => k_is)
    (case z_max => k_is)
    (case z_range => k_is)
    (case z_sorted => k_is)
    (case z_tuple => k_is)
    (case z_min => k_is)
    (case z_int => k_is)
    (case z_list => k_is)
    (case z_set => k_is)
    (case z_isinstance => k_is)
