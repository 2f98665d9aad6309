import PyProof.Rows.All
import Wide.All
import OpenK.AllK
import Wide.FinOn
import HandS.ForMost
import HandS.ForExc
import HandS.ExcInit
import HandS.TupAny
import HandS.Conv
import HandS.Walk
import HandS.CallSlots
import HandS.ExcField
import HandS.ExcIs
import HandS.Style
import HandS.IsInst
import HandS.Wide
import KE.KExcIs
import HandS.SortInts
import PySem.Challenge.RW_oneleftout_k09_rows_seen
set_option Elab.async false
set_option linter.all false
set_option maxRecDepth 100000
set_option maxHeartbeats 4000000
namespace Lp
open PySem L2

/-! ## deep data -/
inductive D where
  | non | bl (b : Bool) | int (i : Int) | str (s : Str)
  | tup (xs : List D) | lst (xs : List D) | scr (ns : List Int)
  | dct (kvs : List (Key × D))
  | ins (c : Str) (fs : List (Str × D))
deriving Inhabited

/-- the hidden part of the heap is not seen -/
def hid (Hd : Addr → Bool) (H : Hp) : Hp := fun a => if Hd a = true then none else H a

section
variable (mg : Str → Option Value) (K : PySem.W.Frag) (H : Hp)
mutual
inductive Rep : D → V → Prop
  | non : Rep .non .non
  | bl (b : Bool) : Rep (.bl b) (.bl b)
  | int (i : Int) : Rep (.int i) (.int i)
  | str (s : Str) : Rep (.str s) (.str s)
  | tup {a : Addr} {vs : List V} {ds : List D} : H a = some (.tup vs) → RepA ds vs → Rep (.tup ds) (.ref a)
  | lst {a : Addr} {vs : List V} {ds : List D} : H a = some (.lst vs) → RepA ds vs → Rep (.lst ds) (.ref a)
  | scr {a : Addr} {ns : List Int} : SqL K H a (ns.map V.int) → Rep (.scr ns) (.ref a)
  | dct {a : Addr} {kvs : List (Key × V)} {kds : List (Key × D)} : H a = some (.dK kvs) → RepK kds kvs → Rep (.dct kds) (.ref a)
  | ins {a C dx : Addr} {c : Str} {fs : List (Str × V)} {ds : List (Str × D)} : H a = some (.ins C dx fs) → mg c = some (.ref C) → RepF ds fs → Rep (.ins c ds) (.ref a)
inductive RepA : List D → List V → Prop
  | nil : RepA [] []
  | cons {d : D} {v : V} {ds : List D} {vs : List V} : Rep d v → RepA ds vs → RepA (d :: ds) (v :: vs)
inductive RepK : List (Key × D) → List (Key × V) → Prop
  | nil : RepK [] []
  | cons {k : Key} {d : D} {v : V} {ds : List (Key × D)} {vs : List (Key × V)} : Rep d v → RepK ds vs → RepK ((k, d) :: ds) ((k, v) :: vs)
inductive RepF : List (Str × D) → List (Str × V) → Prop
  | nil : RepF [] []
  | cons {k : Str} {d : D} {v : V} {ds : List (Str × D)} {vs : List (Str × V)} : Rep d v → RepF ds vs → RepF ((k, d) :: ds) ((k, v) :: vs)
end
/-- the top read in H, what lies under it in F -/
inductive RepT (F : Hp) : D → V → Prop
  | non : RepT F .non .non
  | bl (b : Bool) : RepT F (.bl b) (.bl b)
  | int (i : Int) : RepT F (.int i) (.int i)
  | str (s : Str) : RepT F (.str s) (.str s)
  | tup {a : Addr} {vs : List V} {ds : List D} : F a = some (.tup vs) → RepA mg K F ds vs → RepT F (.tup ds) (.ref a)
  | lst {a : Addr} {vs : List V} {ds : List D} : H a = some (.lst vs) → RepA mg K F ds vs → RepT F (.lst ds) (.ref a)
  | scr {a : Addr} {ns : List Int} : SqL K H a (ns.map V.int) → RepT F (.scr ns) (.ref a)
  | dct {a : Addr} {kvs : List (Key × V)} {kds : List (Key × D)} : H a = some (.dK kvs) → RepK mg K F kds kvs → RepT F (.dct kds) (.ref a)
  | ins {a C dx : Addr} {c : Str} {fs : List (Str × V)} {ds : List (Str × D)} : H a = some (.ins C dx fs) → mg c = some (.ref C) → RepF mg K F ds fs → RepT F (.ins c ds) (.ref a)
end

section
variable {mg : Str → Option Value} {K : PySem.W.Frag} {H H' : Hp}
mutual
theorem Rep.mono (e : Same H H') : ∀ {d : D} {v : V}, Rep mg K H d v → Rep mg K H' d v
  | _, _, .non => .non
  | _, _, .bl b => .bl b
  | _, _, .int i => .int i
  | _, _, .str s => .str s
  | _, _, .tup h r => .tup (e _ _ h) (RepA.mono e r)
  | _, _, .lst h r => .lst (e _ _ h) (RepA.mono e r)
  | _, _, .scr h => .scr (e.seq h)
  | _, _, .dct h r => .dct (e _ _ h) (RepK.mono e r)
  | _, _, .ins h m r => .ins (e _ _ h) m (RepF.mono e r)
theorem RepA.mono (e : Same H H') : ∀ {ds : List D} {vs : List V}, RepA mg K H ds vs → RepA mg K H' ds vs
  | _, _, .nil => .nil
  | _, _, .cons r t => .cons (Rep.mono e r) (RepA.mono e t)
theorem RepK.mono (e : Same H H') : ∀ {ds : List (Key × D)} {vs : List (Key × V)}, RepK mg K H ds vs → RepK mg K H' ds vs
  | _, _, .nil => .nil
  | _, _, .cons r t => .cons (Rep.mono e r) (RepK.mono e t)
theorem RepF.mono (e : Same H H') : ∀ {ds : List (Str × D)} {vs : List (Str × V)}, RepF mg K H ds vs → RepF mg K H' ds vs
  | _, _, .nil => .nil
  | _, _, .cons r t => .cons (Rep.mono e r) (RepF.mono e t)
end
theorem Rep.top (e : Same H H') {d : D} {v : V} (h : Rep mg K H d v) : RepT mg K H' H d v := by
  cases h with
  | non => exact .non
  | bl b => exact .bl b
  | int i => exact .int i
  | str s => exact .str s
  | tup h r => exact .tup h r
  | lst h r => exact .lst (e _ _ h) r
  | scr h => exact .scr (e.seq h)
  | dct h r => exact .dct (e _ _ h) r
  | ins h m r => exact .ins (e _ _ h) m r
theorem RepT.mono {F F' : Hp} (e : Same H H') (f : Same F F') {d : D} {v : V} (h : RepT mg K H F d v) : RepT mg K H' F' d v := by
  cases h with
  | non => exact .non
  | bl b => exact .bl b
  | int i => exact .int i
  | str s => exact .str s
  | tup h r => exact .tup (f _ _ h) (r.mono f)
  | lst h r => exact .lst (e _ _ h) (r.mono f)
  | scr h => exact .scr (e.seq h)
  | dct h r => exact .dct (e _ _ h) (r.mono f)
  | ins h m r => exact .ins (e _ _ h) m (r.mono f)
/-- what may be seen from above -/
theorem RepT.rep {F G : Hp} (f : Same F G) {d : D} {v : V} (g : ∀ a o, v = .ref a → H a = some o → G a = some o) (h : RepT mg K H F d v) (hs : ∀ ns, d ≠ .scr ns) : Rep mg K G d v := by
  cases h with
  | non => exact .non
  | bl b => exact .bl b
  | int i => exact .int i
  | str s => exact .str s
  | tup h r => exact .tup (f _ _ h) (r.mono f)
  | lst h r => exact .lst (g _ _ rfl h) (r.mono f)
  | scr h => exact absurd rfl (hs _)
  | dct h r => exact .dct (g _ _ rfl h) (r.mono f)
  | ins h m r => exact .ins (g _ _ rfl h) m (r.mono f)
theorem RepK.find {k : Key} : ∀ {ds : List (Key × D)} {vs : List (Key × V)}, RepK mg K H ds vs →
    (((ds.find? fun kv => decide (kv.1 = k)) = none ∧ valV vs k = none) ∨ ∃ d v, ((ds.find? fun kv => decide (kv.1 = k)).map (·.2)) = some d ∧ valV vs k = some v ∧ Rep mg K H d v)
  | _, _, .nil => .inl ⟨rfl, rfl⟩
  | _, _, .cons (k := j) (d := d0) (ds := ds) (vs := vs) r t => by
    by_cases e : j = k
    · refine .inr ⟨_, _, ?_, valV_pos e, r⟩
      simp [List.find?_cons, e]
    · rw [valV_neg e]
      have q : ((j, d0) :: ds).find? (fun kv => decide (kv.1 = k)) = ds.find? (fun kv => decide (kv.1 = k)) := by
        rw [List.find?_cons]; simp [e]
      rw [q]
      exact RepK.find t
theorem RepK.anyKey {k : Key} : ∀ {ds : List (Key × D)} {vs : List (Key × V)}, RepK mg K H ds vs → (ds.any fun kv => decide (kv.1 = k)) = (vs.any fun kv => decide (kv.1 = k))
  | _, _, .nil => rfl
  | _, _, .cons r t => by rw [List.any_cons, List.any_cons, RepK.anyKey t]
theorem RepK.mapPut {k : Key} {d : D} {v : V} (r : Rep mg K H d v) : ∀ {ds : List (Key × D)} {vs : List (Key × V)}, RepK mg K H ds vs →
    RepK mg K H (ds.map fun kv => if kv.1 = k then (kv.1, d) else kv) (vs.map fun kv => if kv.1 = k then (kv.1, v) else kv)
  | _, _, .nil => .nil
  | _, _, .cons (k := j) q t => by
    rw [List.map_cons, List.map_cons]
    by_cases e : j = k
    · simp only [e, if_true]; exact .cons r (RepK.mapPut r t)
    · simp only [e, if_false]; exact .cons q (RepK.mapPut r t)
theorem RepK.snoc {k : Key} {d : D} {v : V} (r : Rep mg K H d v) : ∀ {ds : List (Key × D)} {vs : List (Key × V)}, RepK mg K H ds vs → RepK mg K H (ds ++ [(k, d)]) (vs ++ [(k, v)])
  | _, _, .nil => .cons r .nil
  | _, _, .cons q t => .cons q (RepK.snoc r t)
theorem RepK.length : ∀ {ds : List (Key × D)} {vs : List (Key × V)}, RepK mg K H ds vs → ds.length = vs.length
  | _, _, .nil => rfl
  | _, _, .cons r t => by rw [List.length_cons, List.length_cons, RepK.length t]
theorem RepK.keys : ∀ {ds : List (Key × D)} {vs : List (Key × V)}, RepK mg K H ds vs → ds.map (·.1) = vs.map (·.1)
  | _, _, .nil => rfl
  | _, _, .cons r t => by rw [List.map_cons, List.map_cons, RepK.keys t]
theorem RepF.look {k : Str} : ∀ {ds : List (Str × D)} {vs : List (Str × V)} {d : D}, RepF mg K H ds vs → ds.lookup k = some d → ∃ v, vs.lookup k = some v ∧ Rep mg K H d v
  | _, _, _, .nil, h => by cases h
  | _, _, d, .cons (k := j) r t, h => by
    rw [List.lookup_cons] at h ⊢
    cases e : k == j with
    | true => rw [e] at h; cases h; exact ⟨_, rfl, r⟩
    | false => rw [e] at h; exact RepF.look t h
theorem RepF.lookNone {k : Str} : ∀ {ds : List (Str × D)} {vs : List (Str × V)}, RepF mg K H ds vs → ds.lookup k = none → vs.lookup k = none
  | _, _, .nil, h => rfl
  | _, _, .cons (k := j) r t, h => by
    rw [List.lookup_cons] at h ⊢
    cases e : k == j with
    | true => rw [e] at h; cases h
    | false => rw [e] at h; exact RepF.lookNone t h
theorem RepF.length : ∀ {ds : List (Str × D)} {vs : List (Str × V)}, RepF mg K H ds vs → ds.length = vs.length
  | _, _, .nil => rfl
  | _, _, .cons r t => by rw [List.length_cons, List.length_cons, RepF.length t]
/-- self.k = d -/
def putFD (k : Str) (d : D) : List (Str × D) → List (Str × D)
  | [] => [(k, d)]
  | p :: r => if p.1 = k then (k, d) :: r else p :: putFD k d r
theorem RepF.put {k : Str} {d : D} {v : V} (r : Rep mg K H d v) : ∀ {ds : List (Str × D)} {vs : List (Str × V)}, RepF mg K H ds vs → RepF mg K H (putFD k d ds) (putF k v vs)
  | _, _, .nil => .cons r .nil
  | _, _, .cons (k := j) q t => by
    unfold putFD putF
    by_cases e : j = k
    · simp only [e, if_true]; exact .cons r t
    · simp only [e, if_false]; exact .cons q (RepF.put r t)
theorem RepA.length : ∀ {ds : List D} {vs : List V}, RepA mg K H ds vs → ds.length = vs.length
  | _, _, .nil => rfl
  | _, _, .cons _ t => by rw [List.length_cons, List.length_cons, RepA.length t]
theorem RepA.get : ∀ {ds : List D} {vs : List V} {i : Nat} {v : V}, RepA mg K H ds vs → vs[i]? = some v → ∃ d, ds[i]? = some d ∧ Rep mg K H d v
  | _, _, _, _, .nil, e => by simp at e
  | _, _, 0, _, .cons r _, e => by simp at e; subst e; exact ⟨_, rfl, r⟩
  | _, _, i + 1, _, .cons _ t, e => by
    obtain ⟨d, h1, h2⟩ := RepA.get (i := i) t (by simpa using e)
    exact ⟨d, by simpa using h1, h2⟩
theorem RepA.get' : ∀ {ds : List D} {vs : List V} {i : Nat} {d : D}, RepA mg K H ds vs → ds[i]? = some d → ∃ v, vs[i]? = some v ∧ Rep mg K H d v
  | _, _, _, _, .nil, e => by simp at e
  | _, _, 0, _, .cons r _, e => by simp at e; subst e; exact ⟨_, rfl, r⟩
  | _, _, i + 1, _, .cons _ t, e => by
    obtain ⟨d, h1, h2⟩ := RepA.get' (i := i) t (by simpa using e)
    exact ⟨d, by simpa using h1, h2⟩
theorem RepA.append : ∀ {ds es : List D} {vs us : List V}, RepA mg K H ds vs → RepA mg K H es us → RepA mg K H (ds ++ es) (vs ++ us)
  | _, _, _, _, .nil, s => s
  | _, _, _, _, .cons r t, s => .cons r (RepA.append t s)
theorem RepA.take : ∀ {ds : List D} {vs : List V} (n : Nat), RepA mg K H ds vs → RepA mg K H (ds.take n) (vs.take n)
  | _, _, 0, _ => .nil
  | _, _, _ + 1, .nil => .nil
  | _, _, n + 1, .cons r t => .cons r (RepA.take n t)
theorem RepA.drop : ∀ {ds : List D} {vs : List V} (n : Nat), RepA mg K H ds vs → RepA mg K H (ds.drop n) (vs.drop n)
  | _, _, 0, r => r
  | _, _, _ + 1, .nil => .nil
  | _, _, n + 1, .cons _ t => RepA.drop n t
theorem RepA.set {d : D} {v : V} (r : Rep mg K H d v) : ∀ {ds : List D} {vs : List V} (i : Nat), RepA mg K H ds vs → RepA mg K H (ds.set i d) (vs.set i v)
  | _, _, _, .nil => .nil
  | _, _, 0, .cons _ t => .cons r t
  | _, _, i + 1, .cons q t => .cons q (RepA.set r i t)
theorem RepA.reverse {ds : List D} {vs : List V} (h : RepA mg K H ds vs) : RepA mg K H ds.reverse vs.reverse := by
  induction ds generalizing vs with
  | nil => cases h; exact .nil
  | cons d ds ih =>
    cases h with
    | cons r t => simp only [List.reverse_cons]; exact (ih t).append (.cons r .nil)
theorem RepA.one {d : D} {v : V} (r : Rep mg K H d v) : RepA mg K H [d] [v] := .cons r .nil
theorem RepA.rep {ds : List D} {vs : List V} (h : RepA mg K H ds vs) : ∀ n : Nat, RepA mg K H (List.replicate n ds).flatten (List.replicate n vs).flatten
  | 0 => .nil
  | n + 1 => by simp only [List.replicate_succ, List.flatten_cons]; exact h.append (RepA.rep h n)
theorem RepA.ints : ∀ {ns : List Int} {vs : List V}, RepA mg K H (ns.map D.int) vs → vs = ns.map V.int
  | [], _, .nil => rfl
  | n :: ns, _, .cons r t => by cases r; rw [RepA.ints t]; rfl
theorem RepA.strs : ∀ {ns : List Str} {vs : List V}, RepA mg K H (ns.map D.str) vs → vs = ns.map V.str
  | [], _, .nil => rfl
  | n :: ns, _, .cons r t => by cases r; rw [RepA.strs t]; rfl
theorem RepA.of_ints : ∀ {ns : List Int}, RepA mg K H (ns.map D.int) (ns.map V.int)
  | [] => .nil
  | n :: ns => .cons (.int n) RepA.of_ints
theorem RepA.of_strs : ∀ {ns : List Str}, RepA mg K H (ns.map D.str) (ns.map V.str)
  | [] => .nil
  | n :: ns => .cons (.str n) RepA.of_strs
end

/-! ## hiding -/
section
variable {Hd Hd' : Addr → Bool} {H H' : Hp} {a : Addr} {o : HO}
theorem hid_off (h : Hd a = false) : hid Hd H a = H a := by unfold hid; rw [h]; rfl
theorem hid_on (h : Hd a = true) : hid Hd H a = none := by unfold hid; rw [if_pos h]
theorem of_hid (h : hid Hd H a = some o) : H a = some o ∧ Hd a = false := by
  unfold hid at h
  split at h
  · cases h
  · rename_i q; exact ⟨h, by simpa using q⟩
theorem hid_same (e : Same H H') : Same (hid Hd H) (hid Hd H') := fun a o h => by
  obtain ⟨h1, h2⟩ := of_hid h
  rw [hid_off h2]; exact e a o h1
theorem hid_sub : Same (hid Hd H) H := fun a o h => (of_hid h).1
theorem hid_less (s : ∀ a, Hd a = true → Hd' a = true) : Same (hid Hd' H) (hid Hd H) := fun a o h => by
  obtain ⟨h1, h2⟩ := of_hid h
  have : Hd a = false := by
    cases q : Hd a with
    | false => rfl
    | true => rw [s a q] at h2; cases h2
  rw [hid_off this]; exact h1
theorem Same.new (h : H a = none) : Same H (upd H a o) := fun b u e => by
  rw [upd_ne (ne_of_none e h)]; exact e
/-- what is hidden may change -/
theorem hid_upd (h : Hd a = true) : hid Hd (upd H a o) = hid Hd H := by
  funext b
  by_cases hb : b = a
  · rw [hb, hid_on h, hid_on h]
  · unfold hid; rw [upd_ne hb]
/-- hidden addresses stand in the heap -/
def Dom (Hd : Addr → Bool) (H : Hp) : Prop := ∀ a, Hd a = true → H a ≠ none
theorem Dom.mono (d : Dom Hd H) (e : Same H H') : Dom Hd H' := fun a h q => by
  cases r : H a with
  | none => exact d a h r
  | some o => rw [e a o r] at q; cases q
theorem Dom.off (d : Dom Hd H) (h : H a = none) : Hd a = false := by
  cases q : Hd a with
  | false => rfl
  | true => exact absurd h (d a q)
theorem Dom.put (d : Dom Hd H) : Dom Hd (upd H a o) := fun b h => by
  by_cases hb : b = a
  · rw [hb, upd_same]; exact fun z => nomatch z
  · rw [upd_ne hb]; exact d b h
end
def addH (Hd : Addr → Bool) (a : Addr) : Addr → Bool := fun b => if b = a then true else Hd b
theorem addH_same {Hd : Addr → Bool} {a : Addr} : addH Hd a a = true := by unfold addH; rw [if_pos rfl]
theorem addH_ne {Hd : Addr → Bool} {a b : Addr} (h : b ≠ a) : addH Hd a b = Hd b := by unfold addH; rw [if_neg h]
theorem addH_up {Hd : Addr → Bool} {a : Addr} : ∀ b, Hd b = true → addH Hd a b = true := fun b h => by
  by_cases hb : b = a
  · rw [hb, addH_same]
  · rw [addH_ne hb]; exact h
theorem Dom.add {Hd : Addr → Bool} {H : Hp} {a : Addr} {o : HO} (d : Dom Hd H) : Dom (addH Hd a) (upd H a o) := fun b h => by
  by_cases hb : b = a
  · rw [hb, upd_same]; exact fun z => nomatch z
  · rw [upd_ne hb]; rw [addH_ne hb] at h; exact d b h
theorem Dom.add' {Hd : Addr → Bool} {H : Hp} {a : Addr} {o : HO} (d : Dom Hd H) (h : H a = some o) : Dom (addH Hd a) H := fun b hb => by
  by_cases e : b = a
  · rw [e, h]; exact fun z => nomatch z
  · rw [addH_ne e] at hb; exact d b hb
/-- a new hidden address: what is seen stays -/
theorem hid_add {Hd : Addr → Bool} {H : Hp} {a : Addr} {o : HO} (h : H a = none) : hid (addH Hd a) (upd H a o) = hid Hd H := by
  funext b
  by_cases hb : b = a
  · rw [hb, hid_on addH_same]; unfold hid; split <;> first | rfl | exact h.symm
  · unfold hid; rw [addH_ne hb, upd_ne hb]
/-- remove a from the hidden ones -/
def delH (Hd : Addr → Bool) (a : Addr) : Addr → Bool := fun b => if b = a then false else Hd b
theorem delH_same {Hd : Addr → Bool} {a : Addr} : delH Hd a a = false := by unfold delH; rw [if_pos rfl]
theorem delH_ne {Hd : Addr → Bool} {a b : Addr} (h : b ≠ a) : delH Hd a b = Hd b := by unfold delH; rw [if_neg h]
theorem delH_sub {Hd : Addr → Bool} {a : Addr} : ∀ b, delH Hd a b = true → Hd b = true := fun b h => by
  by_cases hb : b = a
  · rw [hb, delH_same] at h; cases h
  · rw [delH_ne hb] at h; exact h

end Lp
namespace Lp
open PySem L2

/-! ## the syntax -/
inductive BO where | add | sub | mul | fdiv | mod | pow
  deriving DecidableEq
inductive BI where | len | int | abs | min | max | sum | list | tuple | sorted
  deriving DecidableEq
inductive TY where | tuple | list | str | dict | int | bool
  deriving DecidableEq
inductive CO where | eq | ne | lt | le | gt | ge | isin | notin | isN | notN
  deriving DecidableEq
/-- a target: a name, names -/
inductive Tg where | nm (i : Nat) | tp (is : List Nat)
  deriving DecidableEq
mutual
inductive E where
  | var (i : Nat) | bv (i : Nat)
  | non | bl (b : Bool) | int (i : Int) | str (s : Str) | dead
  | glb (x : Str)
  | bin (o : BO) (a b : E)
  | neg (a : E)
  | cmp (o : CO) (a b : E)
  | chain (o p : CO) (a b c : E)
  | din (k d : E) | dni (k d : E)
  | and_ (a b : E) | or_ (a b : E) | not_ (a : E)
  | ife (c a b : E)
  | ix (a i : E)
  | dix (d k : E)
  | slu (a hi : E) | sll (a lo : E) | slb (a lo hi : E) | rev (a : E)
  | sluL (a hi : E) | mulL (a k : E) | addL (a b : E)
  | tup (es : Es) | lst (es : Es) | dnew
  | call (f : Str) (es : Es)
  | mk (c : Str) (es : Es)
  | meth (o : E) (c m : Str) (es : Es)
  | fld (o : E) (f : Str)
  | bi (f : BI) (es : Es)
  | isi (a : E) (t : TY)
  | join (s a : E)
  | dget (d k x : E)
  | lc (own : List Nat) (t : Tg) (it : Src) (c e : E)
  | lc2 (own : List Nat) (t : Tg) (it : Src) (c : E) (t2 : Tg) (it2 : Src) (c2 e : E)
inductive Es where
  | nil | cons (e : E) (r : Es)
inductive Src where
  | seq (e : E) | rng (a : E) | rng2 (a b : E)
end
/-- an except suite: with if not isinstance(e, y): ..; return e.f -/
inductive Hs where
  | isRet (y f : Str)
mutual
inductive S where
  | set (i : Nat) (e : E) | setO (i : Nat) (e : E)
  | unp (is : List Nat) (e : E)
  | stx (i : Nat) (k v : E) | app (i : Nat) (e : E)
  | fset (f : Str) (e : E)
  | ex (e : E)
  | if_ (c : E) (a b : Ss)
  | for_ (t : Tg) (it : Src) (b : Ss)
  | whl (c : E) (b : Ss)
  | ret (e : E) | retN
  | raise (c : Str) (es : Es)
  | brk | cont | pass | dead
  | try_ (b : Ss) (x : Str) (i : Nat) (h : Hs)
  | frz (i : Nat)
inductive Ss where
  | nil | cons (s : S) (r : Ss)
end
def Es.toList : Es → List E
  | .nil => []
  | .cons e r => e :: r.toList
def Es.of : List E → Es
  | [] => .nil
  | e :: r => .cons e (Es.of r)
def Ss.of : List S → Ss
  | [] => .nil
  | e :: r => .cons e (Ss.of r)

/-! ## plain values -/
mutual
def toP : D → PyData
  | .non => .none | .bl b => .bool b | .int i => .int i | .str s => .str s
  | .tup xs => .tuple (toPs xs) | .lst xs => .list (toPs xs)
  | .scr ns => .list (ns.map .int) | .dct _ => .none | .ins _ _ => .none
def toPs : List D → List PyData
  | [] => []
  | d :: r => toP d :: toPs r
end
mutual
def plain : D → Bool
  | .non => true | .bl _ => true | .int _ => true | .str _ => true
  | .tup xs => plains xs | .lst xs => plains xs
  | .scr _ => false | .dct _ => false | .ins _ _ => false
def plains : List D → Bool
  | [] => true
  | d :: r => plain d && plains r
end
def flatD : D → Bool
  | .non => true | .bl _ => true | .int _ => true | .str _ => true | _ => false
def fV : D → V
  | .non => .non | .bl b => .bl b | .int i => .int i | .str s => .str s | _ => .non
def toKey : D → Option Key
  | .int i => some (.inl i) | .str s => some (.inr s) | _ => none
def ofKey : Key → D
  | .inl i => .int i | .inr s => .str s
/-- tables of deep data -/
def dlook (kvs : List (Key × D)) (k : Key) : Option D := (kvs.find? fun kv => decide (kv.1 = k)).map (·.2)
def dput (kvs : List (Key × D)) (k : Key) (d : D) : List (Key × D) :=
  if (kvs.any fun kv => decide (kv.1 = k)) = true then kvs.map (fun kv => if kv.1 = k then (kv.1, d) else kv) else kvs ++ [(k, d)]
def cutD (xs : List D) (lo hi : Option Int) : List D := (xs.drop (HT.sIx xs.length 0 lo)).take (HT.sIx xs.length xs.length hi - HT.sIx xs.length 0 lo)
def chars (s : Str) : List D := s.cps.toList.map fun c => .str ⟨#[c]⟩

/-! ## operations -/
def opBin : BO → D → D → (D → Prop) → Prop
  | .add, .int i, .int j, Q => Q (.int (i + j))
  | .add, .str s, .str t, Q => s.length + t.length ≤ sizeLine ∧ Q (.str (s ++ t))
  | .add, .lst xs, .lst ys, Q => xs.length + ys.length ≤ sizeLine ∧ Q (.lst (xs ++ ys))
  | .add, .tup xs, .tup ys, Q => xs.length + ys.length ≤ sizeLine ∧ Q (.tup (xs ++ ys))
  | .sub, .int i, .int j, Q => Q (.int (i - j))
  | .mul, .int i, .int j, Q => (i.natAbs.log2 + j.natAbs.log2 < 1000000) ∧ Q (.int (i * j))
  | .mul, .lst xs, .int k, Q => (-(2 ^ 63) ≤ k ∧ k < 2 ^ 63 ∧ xs.length * k.toNat ≤ sizeLine) ∧ Q (.lst (List.replicate k.toNat xs).flatten)
  | .mul, .str s, .int k, Q => (0 ≤ k ∧ k ≤ 1000 ∧ s.length * k.toNat ≤ 1000) ∧ Q (.str ⟨(List.replicate k.toNat s.cps.toList).flatten.toArray⟩)
  | .fdiv, .int i, .int j, Q => (0 < j ∧ j.natAbs.log2 < 9000) ∧ Q (.int (i / j))
  | .mod, .int i, .int j, Q => 0 < j ∧ Q (.int (i % j))
  | .pow, .int i, .int j, Q => (0 ≤ j ∧ j ≤ 1000000 ∧ i.natAbs < 2 ^ 64) ∧ Q (.int (i ^ j.toNat))
  | _, _, _, _ => False
def eqOk (x y : D) : Prop := plain x = true ∧ plain y = true ∧ SeqAt.shaped (toP x) = true ∧ SeqAt.shaped (toP y) = true
def inD (x : D) (xs : List D) : Bool := inV (fV x) (xs.map fV)
def opCmp : CO → D → D → (Bool → Prop) → Prop
  | .eq, x, y, Q => eqOk x y ∧ Q (PyData.eqv (toP x) (toP y))
  | .ne, x, y, Q => eqOk x y ∧ Q (!PyData.eqv (toP x) (toP y))
  | .lt, .int i, .int j, Q => Q (decide (i < j))
  | .le, .int i, .int j, Q => Q (decide (i ≤ j))
  | .gt, .int i, .int j, Q => Q (decide (j < i))
  | .ge, .int i, .int j, Q => Q (decide (j ≤ i))
  | .lt, .str i, .str j, Q => Q (decide (i.cps.toList < j.cps.toList))
  | .le, .str i, .str j, Q => Q (!decide (j.cps.toList < i.cps.toList))
  | .gt, .str i, .str j, Q => Q (decide (j.cps.toList < i.cps.toList))
  | .ge, .str i, .str j, Q => Q (!decide (i.cps.toList < j.cps.toList))
  | .isin, .str i, .str j, Q => Q (!(Builtin.Str.occurrences j i 0 j.length 1).isEmpty)
  | .notin, .str i, .str j, Q => Q (!(!(Builtin.Str.occurrences j i 0 j.length 1).isEmpty))
  | .isin, x, .lst xs, Q => (flatD x = true ∧ xs.all flatD = true) ∧ Q (inD x xs)
  | .isin, x, .tup xs, Q => (flatD x = true ∧ xs.all flatD = true) ∧ Q (inD x xs)
  | .notin, x, .lst xs, Q => (flatD x = true ∧ xs.all flatD = true) ∧ Q (!inD x xs)
  | .notin, x, .tup xs, Q => (flatD x = true ∧ xs.all flatD = true) ∧ Q (!inD x xs)
  | .isN, x, .non, Q => Q (match x with | .non => true | _ => false)
  | .notN, x, .non, Q => Q (match x with | .non => false | _ => true)
  | _, _, _, _ => False
def opIx : D → D → (D → Prop) → Prop
  | .lst xs, .int i, Q => ∃ d, atI xs i = some d ∧ Q d
  | .tup xs, .int i, Q => ∃ d, atI xs i = some d ∧ Q d
  | .scr ns, .int i, Q => ∃ n, atI ns i = some n ∧ Q (.int n)
  | .str s, .int i, Q => ∃ c, s.length ≤ sizeLine ∧ atI s.cps.toList i = some c ∧ Q (.str ⟨#[c]⟩)
  | _, _, _ => False
def opSl : D → Option Int → Option Int → (D → Prop) → Prop
  | .lst xs, lo, hi, Q => Q (.lst (cutD xs lo hi))
  | .tup xs, lo, hi, Q => Q (.tup (cutD xs lo hi))
  | .str s, lo, hi, Q => s.length ≤ sizeLine ∧ Q (.str (cutS s lo hi))
  | _, _, _, _ => False
/-- the built-ins by name -/
def biLen : List D → (D → Prop) → Prop
  | [.lst xs], Q => Q (.int xs.length) | [.tup xs], Q => Q (.int xs.length) | [.scr ns], Q => Q (.int ns.length)
  | [.str s], Q => s.length ≤ sizeLine ∧ Q (.int s.length) | [.dct kvs], Q => Q (.int kvs.length)
  | _, _ => False
def biInt : List D → (D → Prop) → Prop
  | [.int i], Q => Q (.int i) | [.bl b], Q => Q (.int (if b then 1 else 0)) | _, _ => False
def biAbs : List D → (D → Prop) → Prop
  | [.int i], Q => Q (.int (if i < 0 then -i else i)) | _, _ => False
def biMin : List D → (D → Prop) → Prop
  | [.int i, .int j], Q => Q (.int (if j < i then j else i)) | _, _ => False
def biMax : List D → (D → Prop) → Prop
  | [.int i, .int j], Q => Q (.int (if j > i then j else i)) | _, _ => False
def biSum (ds : List D) (Q : D → Prop) : Prop := ∃ ns : List Int, ds = [.lst (ns.map .int)] ∧ Q (.int ns.sum)
def biList : List D → (D → Prop) → Prop
  | [.lst xs], Q => Q (.lst xs) | [.tup xs], Q => Q (.lst xs) | [.dct kvs], Q => Q (.lst (kvs.map fun kv => ofKey kv.1)) | _, _ => False
def biTuple : List D → (D → Prop) → Prop
  | [.lst xs], Q => Q (.tup xs) | [.tup xs], Q => Q (.tup xs) | _, _ => False
def biSorted (ds : List D) (Q : D → Prop) : Prop := (∃ ss : List Str, ds = [.lst (ss.map .str)] ∧ ss.length < 64 ∧ ∀ ys : List Str, ys.Perm ss → PyProof.Rows.sortedS ys = true → Q (.lst (ys.map .str))) ∨
    (∃ ns : List Int, ds = [.lst (ns.map .int)] ∧ ∀ ms : List Int, ms.Perm ns → ms.Pairwise (· ≤ ·) → Q (.lst (ms.map .int)))
def opBi : BI → List D → (D → Prop) → Prop
  | .len => biLen | .int => biInt | .abs => biAbs | .min => biMin | .max => biMax | .sum => biSum | .list => biList | .tuple => biTuple | .sorted => biSorted
def biStr : BI → Str
  | .len => "len" | .int => "int" | .abs => "abs" | .min => "min" | .max => "max" | .sum => "sum" | .list => "list" | .tuple => "tuple" | .sorted => "sorted"
/-- the type's name of a value -/
def tyS : D → Option String
  | .non => some "NoneType" | .bl _ => some "bool" | .int _ => some "int" | .str _ => some "str" | .tup _ => some "tuple" | .lst _ => some "list" | .scr _ => none | .dct _ => some "dict" | .ins _ _ => none
def tyB : TY → String
  | .tuple => "tuple" | .list => "list" | .str => "str" | .dict => "dict" | .int => "int" | .bool => "bool"
def tyN : TY → Str
  | .tuple => "tuple" | .list => "list" | .str => "str" | .dict => "dict" | .int => "int" | .bool => "bool"

/-! ## exceptions, contracts -/
structure Exn where
  cls : Str
  fs : List (Str × D)
structure Ct where
  run : List D → (D → Prop) → (Exn → Prop) → Prop
  mono : ∀ {ds : List D} {Q Q' : D → Prop} {X X' : Exn → Prop}, run ds Q X → (∀ d, Q d → Q' d) → (∀ x, X x → X' x) → run ds Q' X'
structure Tab where
  fn : Str → Option Ct
  cls : Str → Option Ct
  meth : Str → Str → Option Ct
  glb : Str → Option Int
  exc : Str → Option (List Str)
  fld : Str → Str → Bool
  isx : Str → Str → Option Bool
  xfl : Str → Str → Bool

abbrev Env := List (Option (Bool × D))
abbrev XQ := Exn → Prop
def wipeE (env : Env) : List Nat → Env
  | [] => env
  | v :: vs => (wipeE env vs).set v none
/-- the owned ones are not read -/
def dropO (env : Env) : Env := env.map fun s => match s with | some (true, _) => none | x => x
def tgSl : Tg → List Nat
  | .nm i => [i] | .tp is => is
def bindTs : List Nat → List D → Env → Option Env
  | [], [], env => some env
  | i :: is, d :: ds, env => bindTs is ds (env.set i (some (false, d)))
  | _, _, _ => none
def bindT (t : Tg) (d : D) (env : Env) : Option Env :=
  match t with
  | .nm i => some (env.set i (some (false, d)))
  | .tp is => match d with | .tup ds => bindTs is ds env | _ => none
def wpFold {β : Type} (step : D → β → (β → Prop) → Prop) : List D → β → (β → Prop) → Prop
  | [], b, Q => Q b
  | x :: xs, b, Q => step x b fun b' => wpFold step xs b' Q
/-- the items of what a for walks -/
def opIter : D → (List D → Prop) → Prop
  | .lst xs, Q => Q xs
  | .tup xs, Q => Q xs
  | .scr ns, Q => Q (ns.map .int)
  | .str s, Q => Q (chars s)
  | _, _ => False
def isTrueD (d : D) (Q : Bool → Prop) : Prop := match d with | .bl b => Q b | _ => False

section
variable (T : Tab)
mutual
def wpE : E → Env → (D → Prop) → XQ → Prop
  | .var i, env, Q, _ => ∃ d, env[i]? = some (some (false, d)) ∧ Q d
  | .bv i, env, Q, _ => ∃ d, env[i]? = some (some (true, d)) ∧ Q d
  | .non, _, Q, _ => Q .non
  | .dead, _, _, _ => False
  | .bl b, _, Q, _ => Q (.bl b)
  | .int i, _, Q, _ => Q (.int i)
  | .str s, _, Q, _ => Q (.str s)
  | .glb x, _, Q, _ => ∃ i, T.glb x = some i ∧ Q (.int i)
  | .bin o a b, env, Q, X => wpE a env (fun x => wpE b env (fun y => opBin o x y Q) X) X
  | .neg a, env, Q, X => wpE a env (fun x => match x with | .int i => Q (.int (-i)) | _ => False) X
  | .cmp o a b, env, Q, X => wpE a env (fun x => wpE b env (fun y => opCmp o x y fun r => Q (.bl r)) X) X
  | .chain o p a b c, env, Q, X => wpE a env (fun x => wpE b env (fun y => opCmp o x y fun r => if r = true then wpE c env (fun z => opCmp p y z fun r => Q (.bl r)) X else Q (.bl false)) X) X
  | .din k d, env, Q, X => wpE k env (fun x => wpE d env (fun y => match y with | .dct kvs => ∃ k, toKey x = some k ∧ Q (.bl (dlook kvs k).isSome) | _ => False) X) X
  | .dni k d, env, Q, X => wpE k env (fun x => wpE d env (fun y => match y with | .dct kvs => ∃ k, toKey x = some k ∧ Q (.bl (!(dlook kvs k).isSome)) | _ => False) X) X
  | .and_ a b, env, Q, X => wpE a env (fun x => match x with | .bl true => wpE b env (fun y => ∃ c, y = .bl c ∧ Q y) X | .bl false => Q (.bl false) | _ => False) X
  | .or_ a b, env, Q, X => wpE a env (fun x => match x with | .bl true => Q (.bl true) | .bl false => wpE b env (fun y => ∃ c, y = .bl c ∧ Q y) X | _ => False) X
  | .not_ a, env, Q, X => wpE a env (fun x => match x with | .bl b => Q (.bl !b) | _ => False) X
  | .ife c a b, env, Q, X => wpE c env (fun x => match x with | .bl true => wpE a env Q X | .bl false => wpE b env Q X | _ => False) X
  | .ix a i, env, Q, X => wpE a env (fun x => wpE i env (fun y => opIx x y Q) X) X
  | .dix d k, env, Q, X => wpE d env (fun y => wpE k env (fun x => match y with | .dct kvs => ∃ k v, toKey x = some k ∧ dlook kvs k = some v ∧ Q v | _ => False) X) X
  | .slu a hi, env, Q, X => wpE a env (fun x => wpE hi env (fun y => match y with | .int j => opSl x none (some j) Q | _ => False) X) X
  | .sll a lo, env, Q, X => wpE a env (fun x => wpE lo env (fun y => match y with | .int j => opSl x (some j) none Q | _ => False) X) X
  | .slb a lo hi, env, Q, X => wpE a env (fun x => wpE lo env (fun y => match y with | .int i => wpE hi env (fun z => match z with | .int j => opSl x (some i) (some j) Q | _ => False) X | _ => False) X) X
  | .rev a, env, Q, X => wpE a env (fun x => match x with | .lst xs => Q (.lst xs.reverse) | .tup xs => Q (.tup xs.reverse) | _ => False) X
  | .sluL a hi, env, Q, X => wpE a env (fun x => wpE hi env (fun y => match x with | .lst xs => (match y with | .int j => Q (.lst (cutD xs none (some j))) | _ => False) | _ => False) X) X
  | .mulL a hi, env, Q, X => wpE a env (fun x => wpE hi env (fun y => match x with | .lst xs => (match y with | .int k => (-(2 ^ 63) ≤ k ∧ k < 2 ^ 63 ∧ xs.length * k.toNat ≤ sizeLine) ∧ Q (.lst (List.replicate k.toNat xs).flatten) | _ => False) | _ => False) X) X
  | .addL a hi, env, Q, X => wpE a env (fun x => wpE hi env (fun y => match x with | .lst xs => (match y with | .lst ys => xs.length + ys.length ≤ sizeLine ∧ Q (.lst (xs ++ ys)) | _ => False) | _ => False) X) X
  | .tup es, env, Q, X => wpEs es env (fun ds => ds.length ≤ sizeLine ∧ Q (.tup ds)) X
  | .lst es, env, Q, X => wpEs es env (fun ds => ds.length ≤ sizeLine ∧ Q (.lst ds)) X
  | .dnew, _, Q, _ => Q (.dct [])
  | .call f es, env, Q, X => ∃ c, T.fn f = some c ∧ wpEs es env (fun ds => c.run ds Q X) X
  | .mk f es, env, Q, X => ∃ c, T.cls f = some c ∧ wpEs es env (fun ds => c.run ds Q X) X
  | .meth o k m es, env, Q, X => ∃ ct, T.meth k m = some ct ∧ wpE o env (fun x => match x with | .ins c fs => c = k ∧ fs.lookup m = none ∧ wpEs es env (fun ds => ct.run (.ins c fs :: ds) Q X) X | _ => False) X
  | .fld o f, env, Q, X => wpE o env (fun x => match x with | .ins c fs => T.fld c f = true ∧ ∃ d, fs.lookup f = some d ∧ Q d | _ => False) X
  | .bi f es, env, Q, X => wpEs es env (fun ds => opBi f ds Q) X
  | .isi a t, env, Q, X => wpE a env (fun x => ∃ s r, tyS x = some s ∧ L2.kitB s (tyB t) = some r ∧ Q (.bl r)) X
  | .join s a, env, Q, X => wpE s env (fun x => match x with | .str t => wpE a env (fun y => ∃ ys : List Str, (y = .lst (ys.map .str) ∨ y = .tup (ys.map .str)) ∧ (ys.map (·.length)).sum + ys.length * t.length ≤ 16777216 ∧ Q (.str (Txt.join t ys))) X | _ => False) X
  | .dget d k x, env, Q, X => wpE d env (fun y => match y with | .dct kvs => wpE k env (fun z => wpE x env (fun u => ∃ k, toKey z = some k ∧ Q ((dlook kvs k).getD u)) X) X | _ => False) X
  | .lc own t it c e, env, Q, X => wpSrc it env (fun items =>
      wpFold (fun x acc K => ∃ env', bindT t x (wipeE env own) = some env' ∧ wpE c env' (fun b => match b with
        | .bl true => wpE e env' (fun y => acc.length < sizeLine ∧ K (acc ++ [y])) (fun _ => False) | .bl false => K acc | _ => False) (fun _ => False)) items [] fun r => Q (.lst r)) X
  | .lc2 own t it c t2 it2 c2 e, env, Q, X => wpSrc it env (fun items =>
      wpFold (fun x acc K => ∃ env', bindT t x (wipeE (dropO env) own) = some env' ∧ wpE c env' (fun b => match b with
        | .bl true => wpSrc it2 env' (fun items2 => wpFold (fun x2 acc K => ∃ env2, bindT t2 x2 (wipeE env' (tgSl t2)) = some env2 ∧ wpE c2 env2 (fun b => match b with
            | .bl true => wpE e env2 (fun y => acc.length < sizeLine ∧ K (acc ++ [y])) (fun _ => False) | .bl false => K acc | _ => False) (fun _ => False)) items2 acc K) (fun _ => False)
        | .bl false => K acc | _ => False) (fun _ => False)) items [] fun r => Q (.lst r)) X
def wpEs : Es → Env → (List D → Prop) → XQ → Prop
  | .nil, _, Q, _ => Q []
  | .cons e r, env, Q, X => wpE e env (fun d => wpEs r env (fun ds => Q (d :: ds)) X) X
def wpSrc : Src → Env → (List D → Prop) → XQ → Prop
  | .seq e, env, Q, X => wpE e env (fun d => opIter d Q) X
  | .rng a, env, Q, X => wpE a env (fun d => match d with | .int j => (-(2 ^ 62) ≤ j ∧ j < 2 ^ 62) ∧ Q ((List.range j.toNat).map fun i => .int (i : Nat)) | _ => False) X
  | .rng2 a b, env, Q, X => wpE a env (fun x => wpE b env (fun y => match x, y with
      | .int i, .int j => (-(2 ^ 62) ≤ i ∧ i < 2 ^ 62 ∧ -(2 ^ 62) ≤ j ∧ j < 2 ^ 62) ∧ Q ((List.range (j - i).toNat).map fun k => .int (i + (k : Nat))) | _, _ => False) X) X
end

structure Nd where
  nx : Env → Prop
  rt : D → Prop
  bk : Env → Prop
  ct : Env → Prop
  ex : Env → XQ
def wpFor (step : D → Env → (Env → Prop) → Prop) (nx : Env → Prop) : List D → Env → Prop
  | [], env => nx env
  | x :: xs, env => step x env (wpFor step nx xs)
def wpH : Hs → Exn → Nd → Prop
  | .isRet y f, xn, N => T.isx xn.cls y = some true ∧ T.xfl xn.cls f = true ∧ ∃ d, xn.fs.lookup f = some d ∧ N.rt d
mutual
def wpS : S → Env → Nd → Prop
  | .set i e, env, N => wpE T e env (fun d => N.nx (env.set i (some (false, d)))) (N.ex env)
  | .setO i e, env, N => wpE T e env (fun d => N.nx (env.set i (some (true, d)))) (N.ex env)
  | .unp is e, env, N => wpE T e env (fun d => match d with | .tup ds => ∃ env', bindTs is ds env = some env' ∧ N.nx env' | _ => False) (N.ex env)
  | .stx i k v, env, N => ∃ d, env[i]? = some (some (true, d)) ∧ (match d with
      | .lst xs => wpE T v env (fun x => wpE T k env (fun y => ∃ n j, y = .int n ∧ ixN xs.length n = some j ∧ N.nx (env.set i (some (true, .lst (xs.set j x))))) (N.ex env)) (N.ex env)
      | .dct kvs => wpE T v env (fun x => wpE T k env (fun y => ∃ q, toKey y = some q ∧ kvs.length < sizeLine ∧ N.nx (env.set i (some (true, .dct (dput kvs q x))))) (N.ex env)) (N.ex env)
      | _ => False)
  | .app i e, env, N => ∃ xs, env[i]? = some (some (true, .lst xs)) ∧ wpE T e env (fun x => xs.length < sizeLine ∧ N.nx (env.set i (some (true, .lst (xs ++ [x]))))) (N.ex env)
  | .fset f e, env, N => ∃ c fs, T.fld c f = true ∧ env[0]? = some (some (true, .ins c fs)) ∧ fs.length < 900 ∧ wpE T e env (fun x => N.nx (env.set 0 (some (true, .ins c (putFD f x fs))))) (N.ex env)
  | .ex e, env, N => wpE T e env (fun _ => N.nx env) (N.ex env)
  | .if_ c a b, env, N => wpE T c env (fun x => match x with | .bl true => wpSs a env N | .bl false => wpSs b env N | _ => False) (N.ex env)
  | .for_ t it b, env, N => wpSrc T it env (fun items => wpFor (fun x env k => ∃ env', bindT t x env = some env' ∧ wpSs b env' { N with nx := k, ct := k, bk := N.nx }) N.nx items env) (N.ex env)
  | .whl c b, env, N => ∃ W : Nat → Env → Prop, (∃ m, W m env) ∧ ∀ m env, W m env → wpE T c env (fun x => match x with
      | .bl true => wpSs b env { N with nx := fun env' => ∃ m', m' < m ∧ W m' env', ct := fun env' => ∃ m', m' < m ∧ W m' env', bk := N.nx } | .bl false => N.nx env | _ => False) (N.ex env)
  | .ret e, env, N => wpE T e env N.rt (N.ex env)
  | .retN, _, N => N.rt .non
  | .raise c es, env, N => ∃ fs, T.exc c = some fs ∧ wpEs T es env (fun ds => fs.length = ds.length ∧ N.ex env ⟨c, fs.zip ds⟩) (N.ex env)
  | .brk, env, N => N.bk env
  | .cont, env, N => N.ct env
  | .pass, env, N => N.nx env
  | .dead, _, _ => False
  | .try_ b x i h, env, N => T.isx x x = some true ∧ wpSs b env { N with ex := fun env' xn => ∃ r, T.isx xn.cls x = some r ∧ (r = true → i < env'.length ∧ wpH T h xn N) ∧ (r = false → N.ex env' xn) }
  | .frz i, env, N => ∃ d, env[i]? = some (some (true, d)) ∧ N.nx (env.set i (some (false, d)))
def wpSs : Ss → Env → Nd → Prop
  | .nil, env, N => N.nx env
  | .cons s r, env, N => wpS s env { N with nx := fun env' => wpSs r env' N }
end
end
end Lp
namespace Lp
open PySem L2

abbrev Nms := List (Str × NameKind)
def visB (ns : Nms) (x : Str) : Bool := match ns.lookup x with
  | some .local => true | some .cell => true | some .free => true | _ => false
def locB (ns : Nms) (x : Str) : Bool := match ns.lookup x with
  | some .local => true | some .cell => true | _ => false
def glB (ns : Nms) (x : Str) : Bool := decide (ns.lookup x = some .globalImplicit) && !(x == ("__debug__" : Str))
def nmOk (N : List Str) (ns : Nms) (i : Nat) (x : Str) : Bool := decide (N[i]? = some x) && visB ns x && !(x == ("__debug__" : Str)) && !(x == ("__classdict__" : Str))
/-- heads that no rule of the syntax minds -/
def plainX : Expr → Bool
  | .Starred .. => false | .Slice .. => false | .Set .. => false | .SetComp .. => false | .DictComp .. => false | .GeneratorExp .. => false
  | _ => true
/-- heads of attributes -/
def baseX : Expr → Bool
  | .Call (.Name _ _) [] [] _ => false
  | e => plainX e
def boP : BO → Operator
  | .add => .Add | .sub => .Sub | .mul => .Mult | .fdiv => .FloorDiv | .mod => .Mod | .pow => .Pow
def coP : CO → CmpOp
  | .eq => .Eq | .ne => .NotEq | .lt => .Lt | .le => .LtE | .gt => .Gt | .ge => .GtE | .isin => .In | .notin => .NotIn | .isN => .Is | .notN => .IsNot
def nb : E → Bool
  | .bv _ => false | _ => true
def isNon : E → Bool
  | .non => true | _ => false
def relN (scn ns : Nms) : Nms := scn.map fun (n, k) => if (k == .free && ns.lookup n == some .cell) then (n, .cell) else (n, k)
def mkS (ns : Nms) : Scope := { kind := .function, names := ns, isGenerator := false, isCoroutine := false }
def ownN (N : List Str) (own : List Nat) : List (Str × Nat) := own.filterMap fun i => (N[i]?).map fun x => (x, i)
/-- a target's names: slots of N, assignable in the block -/
def tgName (N : List Str) (scn ns : Nms) (i : Nat) : Expr → Bool
  | .Name x _ => decide (N[i]? = some x) && (match ns.lookup x with | some .local => true | some .cell => decide (scn.lookup x = some .cell) | _ => false)
  | _ => false
def tgNames (N : List Str) (scn ns : Nms) : List Nat → List Expr → Bool
  | [], [] => true
  | i :: is, e :: es => tgName N scn ns i e && tgNames N scn ns is es
  | _, _ => false
def chkT (N : List Str) (scn ns : Nms) : Tg → Expr → Bool
  | .nm i, e => tgName N scn ns i e
  | .tp is, .Tuple es _ _ => tgNames N scn ns is es
  | _, _ => false
/-- what may stand as a test -/
def tb : E → Bool
  | .ife .. => false | .and_ a b => tb a && tb b | .or_ a b => tb a && tb b | .not_ a => tb a
  | _ => true
def tgIn (own : List Nat) : Tg → Bool
  | .nm i => decide (i ∈ own)
  | .tp is => is.all fun i => decide (i ∈ own)
def noSet : Expr → Bool
  | .Set .. => false | _ => true
def noStar : List Expr → Bool
  | [] => true
  | e :: r => plainX e && noStar r
abbrev CkE := Nms → Expr → Bool
abbrev CkEs := Nms → List Expr → Bool
def cName (N : List Str) (i : Nat) : CkE := fun ns ex => match ex with | .Name x _ => nmOk N ns i x | _ => false
def cConst (c : Const) : CkE := fun _ ex => match ex with | .Constant d _ _ => decide (c = d) | _ => false
def cGlb (x : Str) : CkE := fun ns ex => match ex with | .Name y _ => decide (x = y) && glB ns x | _ => false
def cBin (o : BO) (k : Bool) (f g : CkE) : CkE := fun ns ex => match ex with | .BinOp l op r _ => decide (boP o = op) && k && f ns l && g ns r | _ => false
def cNeg (k : Bool) (f : CkE) : CkE := fun ns ex => match ex with | .UnaryOp .USub l _ => k && f ns l | _ => false
def cNot (k : Bool) (f : CkE) : CkE := fun ns ex => match ex with | .UnaryOp .Not l _ => k && f ns l | _ => false
def cCmp (o : CO) (f g : CkE) : CkE := fun ns ex => match ex with | .Compare l [op] [r] _ => decide (coP o = op) && !(behindInMarks op r) && f ns l && g ns r | _ => false
def cChain (o p : CO) (f g k : CkE) : CkE := fun ns ex => match ex with
  | .Compare l [op, op'] [r, t] _ => decide (coP o = op) && decide (coP p = op') && !(behindInMarks op r) && !(behindInMarks op' t) && f ns l && g ns r && k ns t | _ => false
def cDin (op0 : CmpOp) (k : Bool) (f g : CkE) : CkE := fun ns ex => match ex with | .Compare l [op] [r] _ => decide (op0 = op) && !(behindInMarks op r) && k && f ns l && g ns r | _ => false
def cBool (op0 : BoolOp) (f g : CkE) : CkE := fun ns ex => match ex with
  | .BoolOp op (x :: y :: r) p => decide (op0 = op) && f ns x && (match r with | [] => plainX y && g ns y | z :: r' => g ns (.BoolOp op (y :: z :: r') p)) | _ => false
def cIfe (k : Bool) (f g h : CkE) : CkE := fun ns ex => match ex with | .IfExp t x y _ => k && f ns t && g ns x && h ns y | _ => false
def cIx (k : Bool) (f g : CkE) : CkE := fun ns ex => match ex with | .Subscript x y _ => plainX y && k && f ns x && g ns y | _ => false
def cSlu (f g : CkE) : CkE := fun ns ex => match ex with | .Subscript x (.Slice none (some z) none _) _ => f ns x && g ns z | _ => false
def cSll (f g : CkE) : CkE := fun ns ex => match ex with | .Subscript x (.Slice (some z) none none _) _ => f ns x && g ns z | _ => false
def cSlb (f g h : CkE) : CkE := fun ns ex => match ex with | .Subscript x (.Slice (some y) (some z) none _) _ => f ns x && g ns y && h ns z | _ => false
def cRev (f : CkE) : CkE := fun ns ex => match ex with | .Subscript x (.Slice none none (some (.UnaryOp .USub (.Constant (.int i) _ _) _)) _) _ => decide (i = 1) && f ns x | _ => false
def cTup (f : CkEs) : CkE := fun ns ex => match ex with | .Tuple xs _ _ => f ns xs | _ => false
def cLst (f : CkEs) : CkE := fun ns ex => match ex with | .List xs _ => f ns xs | _ => false
def cDnew : CkE := fun _ ex => match ex with | .Dict [] [] _ => true | _ => false
def cCall (x : Str) (f : CkEs) : CkE := fun ns ex => match ex with | .Call (.Name y _) xs [] _ => decide (x = y) && glB ns x && noStar xs && f ns xs | _ => false
def cMeth (m : Str) (k : Bool) (f : CkE) (g : CkEs) : CkE := fun ns ex => match ex with | .Call (.Attribute x y ap) xs [] p => decide (m = y) && baseX x && noStar xs && ((ap.endLine == p.line) && decide (xs.length < 30)) && k && f ns x && g ns xs | _ => false
def cFld (n : Str) (k : Bool) (f : CkE) : CkE := fun ns ex => match ex with | .Attribute x y _ => decide (n = y) && baseX x && k && f ns x | _ => false
def cIsi (t : Str) (f : CkE) : CkE := fun ns ex => match ex with | .Call (.Name y _) [x, .Name z _] [] _ => decide (y = "isinstance") && decide (z = t) && glB ns "isinstance" && glB ns t && plainX x && f ns x | _ => false
def cJoin (k : Bool) (f g : CkE) : CkE := fun ns ex => match ex with | .Call (.Attribute x y ap) [z] [] p => decide (y = "join") && baseX x && plainX z && (ap.endLine == p.line) && k && f ns x && g ns z | _ => false
def cDget (k : Bool) (f g h : CkE) : CkE := fun ns ex => match ex with
  | .Call (.Attribute o y ap) [z, u] [] p => decide (y = "get") && baseX o && plainX z && plainX u && (ap.endLine == p.line) && k && f ns o && g ns z && h ns u | _ => false
def cIfs (b : Bool) (k : Bool) (f : CkE) (ns : Nms) : List Expr → Bool
  | [] => b
  | [i] => k && f ns i
  | _ => false
def isT : E → Bool
  | .bl true => true | _ => false
def cLc (N : List Str) (own : List Nat) (t : Tg) (k b kc : Bool) (si : CkE) (c e : CkE) : CkE := fun ns ex => match ex with
  | .ListComp elt [⟨tg, iter, ifs, n⟩] scope _ => (decide (n = 0) && blkC N (mkS ns) scope (ownN N own) && decide ((ownN N own).map (·.2) = own) && tgIn own t && chkT N scope.names (relN scope.names ns) t tg && noSet iter && si ns iter) &&
      (cIfs b kc c (relN scope.names ns) ifs && k && e (relN scope.names ns) elt)
  | _ => false
def cLc2 (N : List Str) (own : List Nat) (t t2 : Tg) (k b kc b2 kc2 : Bool) (si si2 : CkE) (c c2 e : CkE) : CkE := fun ns ex => match ex with
  | .ListComp elt [⟨tg, iter, ifs, n⟩, ⟨tg2, iter2, ifs2, n2⟩] scope _ => (decide (n = 0) && decide (n2 = 0) && blkC N (mkS ns) scope (ownN N own) && decide ((ownN N own).map (·.2) = own) && tgIn own t && chkT N scope.names (relN scope.names ns) t tg && noSet iter && si ns iter) &&
      (tgIn own t2 && chkT N scope.names (relN scope.names ns) t2 tg2 && noSet iter2 && si2 (relN scope.names ns) iter2) &&
      (cIfs b kc c (relN scope.names ns) ifs && cIfs b2 kc2 c2 (relN scope.names ns) ifs2 && k && e (relN scope.names ns) elt)
  | _ => false
def cCons (k : Bool) (f : CkE) (g : CkEs) : CkEs := fun ns xs => match xs with | x :: xs => k && plainX x && f ns x && g ns xs | [] => false
def cNil : CkEs := fun _ xs => match xs with | [] => true | _ => false
def cRng (k : Bool) (f : CkE) : CkE := fun ns ex => match ex with | .Call (.Name y _) [x] [] _ => decide (y = "range") && glB ns "range" && plainX x && k && f ns x | _ => false
def cRng2 (k : Bool) (f g : CkE) : CkE := fun ns ex => match ex with | .Call (.Name y _) [x, z] [] _ => decide (y = "range") && glB ns "range" && plainX x && plainX z && k && f ns x && g ns z | _ => false
def cSeq (k : Bool) (f : CkE) : CkE := fun ns ex => k && f ns ex
mutual
def chkE (N : List Str) : E → CkE
  | .var i => cName N i
  | .bv i => cName N i
  | .non => cConst .none
  | .dead => fun _ _ => true
  | .bl b => cConst (.bool b)
  | .int i => cConst (.int i)
  | .str s => cConst (.str s)
  | .glb x => cGlb x
  | .bin o a b => cBin o (nb a && nb b) (chkE N a) (chkE N b)
  | .neg a => cNeg (nb a) (chkE N a)
  | .cmp o a b => cCmp o (chkE N a) (chkE N b)
  | .chain o p a b c => cChain o p (chkE N a) (chkE N b) (chkE N c)
  | .din k d => cDin .In (nb k) (chkE N k) (chkE N d)
  | .dni k d => cDin .NotIn (nb k) (chkE N k) (chkE N d)
  | .and_ a b => cBool .And (chkE N a) (chkE N b)
  | .or_ a b => cBool .Or (chkE N a) (chkE N b)
  | .not_ a => cNot (nb a) (chkE N a)
  | .ife c a b => cIfe (tb c && nb a && nb b) (chkE N c) (chkE N a) (chkE N b)
  | .ix a i => cIx true (chkE N a) (chkE N i)
  | .dix a i => cIx (nb i) (chkE N a) (chkE N i)
  | .slu a hi => cSlu (chkE N a) (chkE N hi)
  | .sll a lo => cSll (chkE N a) (chkE N lo)
  | .slb a lo hi => cSlb (chkE N a) (chkE N lo) (chkE N hi)
  | .rev a => cRev (chkE N a)
  | .sluL a hi => cSlu (chkE N a) (chkE N hi)
  | .mulL a b => cBin .mul (nb a && nb b) (chkE N a) (chkE N b)
  | .addL a b => cBin .add (nb a && nb b) (chkE N a) (chkE N b)
  | .tup es => cTup (chkEs N es)
  | .lst es => cLst (chkEs N es)
  | .dnew => cDnew
  | .call f es => cCall f (chkEs N es)
  | .mk f es => cCall f (chkEs N es)
  | .meth o c m es => cMeth m (nb o) (chkE N o) (chkEs N es)
  | .fld o f => cFld f (nb o) (chkE N o)
  | .bi f es => cCall (biStr f) (chkBs N es)
  | .isi a t => cIsi (tyN t) (chkE N a)
  | .join s a => cJoin (nb s) (chkE N s) (chkE N a)
  | .dget d k x => cDget (nb k && nb x) (chkE N d) (chkE N k) (chkE N x)
  | .lc own t it c e => cLc N own t (nb e) (isT c) (tb c) (chkI N it) (chkE N c) (chkE N e)
  | .lc2 own t it c t2 it2 c2 e => cLc2 N own t t2 (nb e) (isT c) (tb c) (isT c2) (tb c2) (chkI N it) (chkI N it2) (chkE N c) (chkE N c2) (chkE N e)
def chkEs (N : List Str) : Es → CkEs
  | .nil => cNil
  | .cons e r => cCons (nb e) (chkE N e) (chkEs N r)
/-- a built-in may borrow -/
def chkBs (N : List Str) : Es → CkEs
  | .nil => cNil
  | .cons e r => cCons true (chkE N e) (chkBs N r)
def chkI (N : List Str) : Src → CkE
  | .seq e => cSeq (nb e) (chkE N e)
  | .rng a => cRng (nb a) (chkE N a)
  | .rng2 a b => cRng2 (nb a && nb b) (chkE N a) (chkE N b)
end
def isLc : Expr → Bool
  | .ListComp .. => true | _ => false
/-- the assignment of a comprehension to a local name of the same line exchanges the stores -/
def swB (ns : Nms) (y : Str) (py : Pos) : Expr → Bool
  | .ListComp _ _ scope pos => decide (ns.lookup y = some .local) && (py.line == pos.line) && !(scope.names.any fun (n, k) => n == y && (k == .local || k == .cell))
  | _ => false
/-- a new list or dict -/
def fresh : E → Bool
  | .lst _ => true | .dnew => true | .lc .. => true | .lc2 .. => true
  | .bi .list _ => true | .bi .sorted _ => true
  | .sluL _ _ => true | .mulL _ _ => true | .addL _ _ => true
  | _ => false
abbrev CkS := Nms → Stmt → Bool
abbrev CkSs := Nms → List Stmt → Bool
def sSet (N : List Str) (i : Nat) (k : Bool) (f : CkE) : CkS := fun ns st => match st with | .Assign [.Name y p] v _ => tgName N ns ns i (.Name y p) && plainX v && k && f ns v | _ => false
def sUnp (N : List Str) (is : List Nat) (k : Bool) (f : CkE) : CkS := fun ns st => match st with
  | .Assign [.Tuple ts m p] v _ => chkT N ns ns (.tp is) (.Tuple ts m p) && plainX v && !isLc v && (match v with | .Tuple .. => false | _ => true) && k && f ns v | _ => false
def sStx (N : List Str) (i : Nat) (kk : Bool) (fk fv : CkE) : CkS := fun ns st => match st with | .Assign [.Subscript (.Name y q) z _] w _ => nmOk N ns i y && plainX z && plainX w && kk && fk ns z && fv ns w | _ => false
def sApp (N : List Str) (i : Nat) (k : Bool) (f : CkE) : CkS := fun ns st => match st with
  | .Expr (.Call (.Attribute (.Name y q) m ap) [x] [] p) _ => nmOk N ns i y && decide (m = "append") && plainX x && (ap.endLine == p.line) && k && f ns x | _ => false
def sFset (N : List Str) (n : Str) (k : Bool) (f : CkE) : CkS := fun ns st => match st with | .Assign [.Attribute (.Name y q) g _] v _ => nmOk N ns 0 y && decide (n = g) && plainX v && k && f ns v | _ => false
def sEx (f : CkE) : CkS := fun ns st => match st with | .Expr v _ => plainX v && !isLc v && f ns v | _ => false
def sIf (k : Bool) (f : CkE) (g h : CkSs) : CkS := fun ns st => match st with | .If t x y _ => k && f ns t && g ns x && h ns y | _ => false
def sFor (N : List Str) (t : Tg) (f : CkE) (g : CkSs) : CkS := fun ns st => match st with | .For tg iter body [] _ => chkT N ns ns t tg && noSet iter && f ns iter && g ns body | _ => false
def sWhl (k : Bool) (f : CkE) (g : CkSs) : CkS := fun ns st => match st with | .While t body [] _ => k && f ns t && g ns body | _ => false
def sRet (k : Bool) (f : CkE) : CkS := fun ns st => match st with | .Return (some v) _ => k && f ns v | _ => false
def sRetN : CkS := fun _ st => match st with | .Return none _ => true | _ => false
def sRaise (c : Str) (f : CkEs) : CkS := fun ns st => match st with | .Raise (some (.Call (.Name y _) xs [] _)) none _ => decide (c = y) && glB ns c && noStar xs && f ns xs | _ => false
def sBrk : CkS := fun _ st => match st with | .Break _ => true | _ => false
def sCont : CkS := fun _ st => match st with | .Continue _ => true | _ => false
def sPass : CkS := fun _ st => match st with | .Pass _ => true | _ => false
def sDead : CkS := fun _ _ => true
def hIsRet (N : List Str) (i : Nat) (y f : Str) : CkSs := fun ns sts => match sts with
  | [.If (.UnaryOp .Not (.Call (.Name p _) [.Name n _, .Name z _] [] _) _) _ [] _, .Return (some (.Attribute (.Name m _) g _)) _] => decide (p = "isinstance") && decide (z = y) && decide (g = f) && nmOk N ns i n && nmOk N ns i m && glB ns "isinstance" && glB ns y
  | _ => false
def chkH (N : List Str) (i : Nat) : Hs → CkSs
  | .isRet y f => hIsRet N i y f
def sTry (N : List Str) (x : Str) (i : Nat) (g h : CkSs) : CkS := fun ns st => match st with
  | .Try body [.ExceptHandler (some (.Name y _)) (some n) (b0 :: suite) _] [] [] _ => decide (x = y) && glB ns x && decide (N[i]? = some n) && decide (ns.lookup n = some .local) && g ns body && h ns (b0 :: suite)
  | _ => false
def sCons (f : CkS) (g : CkSs) : CkSs := fun ns sts => match sts with | st :: r => f ns st && g ns r | [] => false
def sNil : CkSs := fun _ sts => match sts with | [] => true | _ => false
def isFrz : S → Bool
  | .frz _ => true | _ => false
mutual
def chkS (N : List Str) : S → CkS
  | .set i e => sSet N i (nb e) (chkE N e)
  | .setO i e => sSet N i (fresh e && !(i == 0)) (chkE N e)
  | .unp is e => sUnp N is (nb e) (chkE N e)
  | .stx i k v => sStx N i (nb k && nb v) (chkE N k) (chkE N v)
  | .app i e => sApp N i (nb e) (chkE N e)
  | .fset f e => sFset N f (nb e) (chkE N e)
  | .ex e => sEx (chkE N e)
  | .if_ c a b => sIf (tb c) (chkE N c) (chkSs N a) (chkSs N b)
  | .for_ t it b => sFor N t (chkI N it) (chkSs N b)
  | .whl c b => sWhl (tb c) (chkE N c) (chkSs N b)
  | .ret e => sRet (nb e) (chkE N e)
  | .retN => sRetN
  | .raise c es => sRaise c (chkEs N es)
  | .brk => sBrk
  | .cont => sCont
  | .pass => sPass
  | .dead => sDead
  | .try_ b x i h => sTry N x i (chkSs N b) (chkH N i h)
  | .frz i => fun _ _ => false
def chkSs (N : List Str) : Ss → CkSs
  | .nil => sNil
  | .cons s r => if isFrz s then chkSs N r else sCons (chkS N s) (chkSs N r)
end
end Lp
namespace Lp
open PySem L2
/-! ## contexts -/
/-- an exception as it lies behind a raise -/
def RepX (mg : Str → Option Value) (K : PySem.W.Frag) (F H : Hp) (x : Exn) (cls : Value) (dd : Option Addr) : Prop :=
  ∃ C, mg x.cls = some (.ref C) ∧ cls = .ref C ∧ ((x.fs = [] ∧ dd = none) ∨ ∃ a fv, dd = some a ∧ H a = some (.xd fv) ∧ ∀ f d, x.fs.lookup f = some d → ∃ v, fv.lookup f = some v ∧ Rep mg K F d v)
/-- a contract as a promise -/
def lift (mg : Str → Option Value) (K : PySem.W.Frag) (c : Ct) : Sp := fun vs H Q E => ∃ (Hd : Addr → Bool) (ds : List D), Dom Hd H ∧ RepA mg K (hid Hd H) ds vs ∧
  c.run ds (fun d => ∀ v H', Same H H' → Rep mg K (hid Hd H') d v → Q v H') (fun x => ∀ cls dd H', Same H H' → RepX mg K (hid Hd H') H' x cls dd → E cls dd H')
/-- all but x stays -/
def SameBut (x : Addr) (H H' : Hp) : Prop := ∀ a o, a ≠ x → H a = some o → H' a = some o
/-- a contract of a class, as the promise of its __init__ -/
def liftI (mg : Str → Option Value) (K : PySem.W.Frag) (C : Addr) (c : Ct) : Sp := fun vs H Q E => ∃ (x dx : Addr) (us : List V) (Hd : Addr → Bool) (ds : List D), vs = .ref x :: us ∧ H x = some (.ins C dx []) ∧ Hd x = false ∧ Dom Hd H ∧
  RepA mg K (hid (addH Hd x) H) ds us ∧
  c.run ds (fun d => ∀ H', SameBut x H H' → Rep mg K (hid Hd H') d (.ref x) → Q .non H') (fun y => ∀ cls dd H', SameBut x H H' → RepX mg K (hid (addH Hd x) H') H' y cls dd → E cls dd H')
/-- what an own exception's __init__ keeps: its fields are told -/
def excSp (C : Addr) (fs : List Str) : Sp := fun vs H Q _ => ∃ (a : Addr) (us : List V), vs = .ref a :: us ∧ us.length = fs.length ∧ H a = some (exo a C none) ∧
  ∀ (d : Addr) (fl : List (Str × V)) (H' : Hp), H d = none → (∀ b o, b ≠ a → H b = some o → H' b = some o) → H' a = some (exo a C (some d)) → H' d = some (exd d fl) → (∀ f v, (fs.zip us).lookup f = some v → fl.lookup f = some v) → Q .non H'
structure TabOk (T : Tab) (lvl : Nat) (P : Program) (w : World) (K : PySem.W.Frag) (mg : Str → Option Value) (base : Heap) : Prop where
  fn : ∀ f c, T.fn f = some c → ∃ a fd ps, mg f = some (.ref a) ∧ PySem.W.keepIn K (.ref a) = true ∧ Binds K fd ps [] ∧ FnOk P w K mg base (L2.CX P w) lvl a fd ps (lift mg K c)
  cls : ∀ f c, T.cls f = some c → ∃ C i fd ps j, mg f = some (.ref C) ∧ Mk K C i ∧ Binds K fd ps [] ∧ j + 1 ≤ lvl ∧ FnOk P w K mg base (L2.CX P w) j i fd ps (liftI mg K C c)
  glb : ∀ x i, T.glb x = some i → ∃ u, mg x = some u ∧ RelV (.int i) u
  blt : ∀ f, mg (biStr f) = none
  rng : mg "range" = none
  isi : mg "isinstance" = none
  tyn : ∀ t, mg (tyN t) = none
  meth : ∀ c m k, T.meth c m = some k → ∃ C a fd ps, mg c = some (.ref C) ∧ Cls K C ∧ Meth K C m a ∧ Binds K fd ps [] ∧ FnOk P w K mg base (L2.CX P w) lvl a fd ps (lift mg K k)
  exc : ∀ c fs, T.exc c = some fs → fs ≠ [] ∧ fs.length ≤ 1000 ∧ ∃ C i fd ps j, mg c = some (.ref C) ∧ OexC K C ∧ PySem.W.findIn K (.ref C) "__init__" = some (some (.ref i)) ∧ PySem.W.typeIn K (.ref i) = some (.type "function") ∧ Binds K fd ps [] ∧ j + 1 ≤ lvl ∧ FnOk P w K mg base (L2.CX P w) j i fd ps (excSp C fs)
  fld : ∀ c f, T.fld c f = true → ∀ C, mg c = some (.ref C) → Cls K C ∧ NoAttr K C f
  isx : ∀ x y b, T.isx x y = some b → ∃ C D, mg x = some (.ref C) ∧ mg y = some (.ref D) ∧ PySem.W.kitOne K (.ref C) (.ref D) = some b ∧ PySem.W.exmOne K (.ref C) (.ref D) = some b ∧ XfC K C ∧ ExcC K C
  xfl : ∀ x f, T.xfl x f = true → ∀ C, mg x = some (.ref C) → PySem.W.findIn K (.ref C) f = some none
structure Good (T : Tab) (lvl : Nat) (N : List Str) (ns : Nms) (X : Cx) (W : WX) : Prop where
  tab : TabOk T lvl X.prog X.w X.K X.mg X.base
  hN : X.N = N
  nd : X.N.Nodup
  names : X.env.scope.names = ns
  kind : X.env.scope.kind = .function
  calm : X.calm = true
  room : Room lvl X.A
  takes : Takes X W
  own : PassesOwn (model X.prog X.w) X.A X.env X.xe
/-- what is known of the slots -/
structure RX (X : Cx) (Hd : Addr → Bool) (env : Env) (σ : L2.St) (H : Hp) : Prop where
  dom : Dom Hd H
  len : σ.length = env.length
  fz : ∀ (i : Nat) (d : D), env[i]? = some (some (false, d)) → ∃ v, σ[i]? = some (some v) ∧ Rep X.mg X.K (hid Hd H) d v
  ow : ∀ (i : Nat) (d : D), env[i]? = some (some (true, d)) → ∃ v, σ[i]? = some (some v) ∧ RepT X.mg X.K H (hid Hd H) d v
theorem RX.mono {X : Cx} {Hd : Addr → Bool} {env : Env} {σ : L2.St} {H H' : Hp} (r : RX X Hd env σ H) (e : Same H H') : RX X Hd env σ H' :=
  ⟨r.dom.mono e, r.len, fun i d h => let ⟨v, h1, h2⟩ := r.fz i d h; ⟨v, h1, h2.mono (hid_same e)⟩, fun i d h => let ⟨v, h1, h2⟩ := r.ow i d h; ⟨v, h1, h2.mono e (hid_same e)⟩⟩

/-! ## what an expression gives -/
def wpSem (X : Cx) (e : Expr) : TE := fun σ H Q => ∀ (pins : List (Addr × Obj)) (s : Shared), Inv X pins σ H s → wpAny (model X.prog X.w) X.A (eval e X.env) (EP X pins σ Q) X.xe s
def wpTst (X : Cx) (e : Expr) : TT := fun σ H Q => ∀ (pins : List (Addr × Obj)) (s : Shared), Inv X pins σ H s → wpAny (model X.prog X.w) X.A (isTrue e X.env (eval e X.env)) (TP X pins σ Q) X.xe s
theorem pe_sem {X : Cx} {e : Expr} : PE X e (wpSem X e) := ⟨fun pins s σ H Q I h => h pins s I⟩
theorem pt_sem {X : Cx} {e : Expr} : PT X e (wpTst X e) := ⟨fun pins s σ H Q I h => h pins s I⟩
theorem sem_of {X : Cx} {e : Expr} {t : TE} (h : PE X e t) {σ : L2.St} {H : Hp} {Q : VK} (q : t σ H Q) : wpSem X e σ H Q := fun pins s I => h.run pins s σ H Q I q
theorem tst_of {X : Cx} {e : Expr} {t : TT} (h : PT X e t) {σ : L2.St} {H : Hp} {Q : Bool → Hp → Prop} (q : t σ H Q) : wpTst X e σ H Q := fun pins s I => h.run pins s σ H Q I q
def XW (X : Cx) (W : WX) (Hd : Addr → Bool) (σ : L2.St) (H : Hp) (XQ : XQ) : Prop := ∀ x cls dd H', XQ x → Same H H' → RepX X.mg X.K (hid Hd H') H' x cls dd → W cls dd σ H'
theorem XW.mono {X : Cx} {W : WX} {Hd : Addr → Bool} {σ : L2.St} {H H1 : Hp} {XQ : XQ} (h : XW X W Hd σ H XQ) (e : Same H H1) : XW X W Hd σ H1 XQ :=
  fun x cls dd H' q e' r => h x cls dd H' q (e.trans e') r
def DenG (R : Hp → D → V → Prop) (X : Cx) (W : WX) (e : Expr) (Hd : Addr → Bool) (σ : L2.St) (H : Hp) (Q : D → Prop) (XQ : XQ) : Prop :=
  ∀ Qs : VK, (∀ d v H', Q d → Same H H' → R H' d v → Qs v H') → XW X W Hd σ H XQ → wpSem X e σ H Qs
abbrev RV (X : Cx) (Hd : Addr → Bool) : Hp → D → V → Prop := fun H' d v => Rep X.mg X.K (hid Hd H') d v
abbrev RT (X : Cx) (Hd : Addr → Bool) : Hp → D → V → Prop := fun H' d v => RepT X.mg X.K H' (hid Hd H') d v
/-- a new object -/
def RO (X : Cx) (Hd : Addr → Bool) (H : Hp) : Hp → D → V → Prop := fun H' d v => ∃ a, v = .ref a ∧ H a = none ∧ RepT X.mg X.K H' (hid (addH Hd a) H') d v ∧ ∀ ns, d ≠ .scr ns
abbrev DenV (X : Cx) (W : WX) (e : Expr) (Hd : Addr → Bool) (σ : L2.St) (H : Hp) (Q : D → Prop) (XQ : XQ) : Prop := DenG (RV X Hd) X W e Hd σ H Q XQ
abbrev DenT (X : Cx) (W : WX) (e : Expr) (Hd : Addr → Bool) (σ : L2.St) (H : Hp) (Q : D → Prop) (XQ : XQ) : Prop := DenG (RT X Hd) X W e Hd σ H Q XQ
abbrev DenO (X : Cx) (W : WX) (e : Expr) (Hd : Addr → Bool) (σ : L2.St) (H : Hp) (Q : D → Prop) (XQ : XQ) : Prop := DenG (RO X Hd H) X W e Hd σ H Q XQ
def DenB (X : Cx) (W : WX) (e : Expr) (Hd : Addr → Bool) (σ : L2.St) (H : Hp) (Q : D → Prop) (XQ : XQ) : Prop :=
  (∀ d, Q d → ∃ b, d = .bl b) → ∀ Qb : Bool → Hp → Prop, (∀ b H', Q (.bl b) → Same H H' → Qb b H') → XW X W Hd σ H XQ → wpTst X e σ H Qb
section
variable {X : Cx} {W : WX} {e a b c : Expr} {Hd : Addr → Bool} {σ : L2.St} {H : Hp} {Q Q' : D → Prop} {XQ : XQ} {R R' R1 R2 : Hp → D → V → Prop}
theorem DenG.rel (h : DenG R X W e Hd σ H Q XQ) (r : ∀ d v H', Same H H' → R H' d v → R' H' d v) : DenG R' X W e Hd σ H Q XQ :=
  fun Qs k x => h Qs (fun d v H' q s p => k d v H' q s (r d v H' s p)) x
theorem DenV.top (h : DenV X W e Hd σ H Q XQ) : DenT X W e Hd σ H Q XQ := DenG.rel h fun d v H' _ r => r.top hid_sub
theorem DenO.val (dm : Dom Hd H) (h : DenO X W e Hd σ H Q XQ) : DenV X W e Hd σ H Q XQ := DenG.rel h fun d v H' s r => by
  obtain ⟨a, rfl, hn, r, ns⟩ := r
  exact RepT.rep (hid_less addH_up) (fun b o eb hb => by cases eb; rw [hid_off (dm.off hn)]; exact hb) r ns
theorem DenG.mono (h : DenG R X W e Hd σ H Q XQ) (k : ∀ d, Q d → Q' d) : DenG R X W e Hd σ H Q' XQ := fun Qs q x => h Qs (fun d v H' z => q d v H' (k d z)) x
/-- a test by its value -/
theorem DenT.tst (h : DenT X W e Hd σ H Q XQ) (he : ∀ whole, isTrue e X.env whole = (do let v ← whole; standAt e.pos; holding [v] (truthy v))) : DenB X W e Hd σ H Q XQ := fun hb Qb k x =>
  tst_of (pt_val pe_sem he) (h _ (fun d v H' q s r => by
    obtain ⟨b, rfl⟩ := hb d q
    cases r
    exact ⟨b, rfl, k b H' q s⟩) x)
/-- two in a row -/
theorem den2 {Qa : D → Prop} {Qb : D → D → Prop} (mono : ∀ {d v H1 H2}, Same H1 H2 → R1 H1 d v → R1 H2 d v) (ha : DenG R1 X W a Hd σ H Qa XQ) (hb : ∀ x, Qa x → ∀ H1, Same H H1 → DenG R2 X W b Hd σ H1 (Qb x) XQ)
    {Qs : V → V → Hp → Prop} (k : ∀ x y v u H2, Qb x y → Same H H2 → R1 H2 x v → R2 H2 y u → Qs v u H2) (xw : XW X W Hd σ H XQ) :
    wpSem X a σ H fun v H1 => wpSem X b σ H1 fun u H2 => Qs v u H2 :=
  ha _ (fun x v H1 qx s1 r1 => hb x qx H1 s1 _ (fun y u H2 qy s2 r2 => k x y v u H2 qy (s1.trans s2) (mono s2 r1) r2) (xw.mono s1)) xw
theorem RV.mono' {d : D} {v : V} {H1 H2 : Hp} (s : Same H1 H2) (r : RV X Hd H1 d v) : RV X Hd H2 d v := Rep.mono (hid_same s) r
theorem RT.mono' {d : D} {v : V} {H1 H2 : Hp} (s : Same H1 H2) (r : RT X Hd H1 d v) : RT X Hd H2 d v := RepT.mono s (hid_same s) r
/-- a new object of a tracked kind -/
theorem rep_new_lst {H2 : Hp} {p : Addr} {ds : List D} {vs : List V} (hp : H2 p = none) (dm : Dom Hd H2) (r : RepA X.mg X.K (hid Hd H2) ds vs) : Rep X.mg X.K (hid Hd (upd H2 p (.lst vs))) (.lst ds) (.ref p) :=
  .lst (by rw [hid_off (dm.off hp)]; exact upd_same) (r.mono (hid_same (Same.new hp)))
theorem rep_new_tup {H2 : Hp} {p : Addr} {ds : List D} {vs : List V} (hp : H2 p = none) (dm : Dom Hd H2) (r : RepA X.mg X.K (hid Hd H2) ds vs) : Rep X.mg X.K (hid Hd (upd H2 p (.tup vs))) (.tup ds) (.ref p) :=
  .tup (by rw [hid_off (dm.off hp)]; exact upd_same) (r.mono (hid_same (Same.new hp)))
theorem ro_new_lst {H2 : Hp} {p : Addr} {ds : List D} {vs : List V} (hp : H2 p = none) (s : Same H H2) (r : RepA X.mg X.K (hid Hd H2) ds vs) : RO X Hd H (upd H2 p (.lst vs)) (.lst ds) (.ref p) :=
  ⟨p, rfl, s.free hp, .lst upd_same (by rw [hid_add hp]; exact r), fun ns e => nomatch e⟩
theorem ro_new_dct {H2 : Hp} {p : Addr} {ds : List (Key × D)} {vs : List (Key × V)} (hp : H2 p = none) (s : Same H H2) (r : RepK X.mg X.K (hid Hd H2) ds vs) : RO X Hd H (upd H2 p (.dK vs)) (.dct ds) (.ref p) :=
  ⟨p, rfl, s.free hp, .dct upd_same (by rw [hid_add hp]; exact r), fun ns e => nomatch e⟩
end

/-! ## operations -/
theorem CMulW.ok' {i j : Int} (h : i.natAbs.log2 + j.natAbs.log2 < 1000000) : CMulW i j := h
section
variable {X : Cx} {Hd : Addr → Bool} {H : Hp}
mutual
theorem Rep.dp {K : PySem.W.Frag} {mg : Str → Option Value} {F G : Hp} (e : Same F G) : ∀ {d : D} {v : V}, Rep mg K F d v → plain d = true → Dp K G v (toP d)
  | _, _, .non, _ => .non
  | _, _, .bl b, _ => .bl b
  | _, _, .int i, _ => .int i
  | _, _, .str s, _ => .str s
  | _, _, .tup h r, p => .tup (SqT.of (e _ _ h)) (RepA.dp e r p)
  | _, _, .lst h r, p => .lst (SqL.of (e _ _ h)) (RepA.dp e r p)
  | _, _, .scr h, p => absurd (show false = true from p) Bool.false_ne_true
  | _, _, .dct h r, p => absurd (show false = true from p) Bool.false_ne_true
  | _, _, .ins h m r, p => absurd (show false = true from p) Bool.false_ne_true
theorem RepA.dp {K : PySem.W.Frag} {mg : Str → Option Value} {F G : Hp} (e : Same F G) : ∀ {ds : List D} {vs : List V}, RepA mg K F ds vs → plains ds = true → DpAll K G vs (toPs ds)
  | _, _, .nil, _ => .nil
  | _, _, .cons r t, p => by
    have p' : (plain _ && plains _) = true := p
    rw [Bool.and_eq_true] at p'
    exact .cons (Rep.dp e r p'.1) (RepA.dp e t p'.2)
end
theorem RepT.dp {K : PySem.W.Frag} {mg : Str → Option Value} {F G H : Hp} (e : Same F G) (e2 : Same H G) {d : D} {v : V} (h : RepT mg K H F d v) (p : plain d = true) : Dp K G v (toP d) := by
  cases h with
  | non => exact .non
  | bl b => exact .bl b
  | int i => exact .int i
  | str s => exact .str s
  | tup h r => exact .tup (SqT.of (e _ _ h)) (RepA.dp e r p)
  | lst h r => exact .lst (SqL.of (e2 _ _ h)) (RepA.dp e r p)
  | scr h => exact absurd (show false = true from p) Bool.false_ne_true
  | dct h r => exact absurd (show false = true from p) Bool.false_ne_true
  | ins h m r => exact absurd (show false = true from p) Bool.false_ne_true
theorem Rep.flat {K : PySem.W.Frag} {mg : Str → Option Value} {F : Hp} {d : D} {v : V} (r : Rep mg K F d v) (f : flatD d = true) : v = fV d ∧ flatV v = true := by
  cases r <;> first | exact ⟨rfl, rfl⟩ | exact absurd (show false = true from f) Bool.false_ne_true
theorem RepT.flat {K : PySem.W.Frag} {mg : Str → Option Value} {H F : Hp} {d : D} {v : V} (r : RepT mg K H F d v) (f : flatD d = true) : v = fV d ∧ flatV v = true := by
  cases r <;> first | exact ⟨rfl, rfl⟩ | exact absurd (show false = true from f) Bool.false_ne_true
theorem RepA.flat {K : PySem.W.Frag} {mg : Str → Option Value} {F : Hp} : ∀ {ds : List D} {vs : List V}, RepA mg K F ds vs → ds.all flatD = true → vs = ds.map fV ∧ vs.all flatV = true
  | _, _, .nil, _ => ⟨rfl, rfl⟩
  | _, _, .cons r t, f => by
    rw [List.all_cons, Bool.and_eq_true] at f
    obtain ⟨h1, h2⟩ := r.flat f.1
    obtain ⟨h3, h4⟩ := RepA.flat t f.2
    exact ⟨by rw [List.map_cons, h1, h3], by rw [List.all_cons, h2, h4]; rfl⟩
/-- str * int -/
def boR : BO → Operator → Prop := fun o p => boP o = p
/-- a two-place operator by deep values -/
def OpD (X : Cx) (Hd : Addr → Bool) (f : Value → Value → Sem Value) (x y : D) (Q : D → Prop) : Prop :=
  ∀ (pins : List (Addr × Obj)) (s : Shared) (σ : L2.St) (H : Hp) (v u : V) (v' u' : Value) (Qs : VK), Inv X pins σ H s → Dom Hd H → RelV v v' → RelV u u' → RV X Hd H x v → RV X Hd H y u →
    (∀ d z H', Q d → Same H H' → RV X Hd H' d z → Qs z H') → wpAny (model X.prog X.w) X.A (f v' u') (EP X pins σ Qs) X.xe s
theorem op_add_d (x y : D) (Q : D → Prop) (h : opBin .add x y Q) : OpD X Hd (binaryOp .Add) x y Q := by
  intro pins s σ H v u v' u' Qs I dm rv ru rx ry k
  cases x <;> cases y <;> first | exact False.elim h | skip
  · cases rx; cases ry
    exact op_add pins s σ H _ _ v' u' Qs I rv ru ⟨_, _, rfl, rfl, k _ _ H h (Same.refl H) (.int _)⟩
  · cases rx; cases ry
    exact op_add_str pins s σ H _ _ v' u' Qs I rv ru ⟨_, _, rfl, rfl, h.1, k _ _ H h.2 (Same.refl H) (.str _)⟩
  · cases rx with
    | tup h1 r1 =>
      cases ry with
      | tup h2 r2 =>
        have l1 := r1.length
        have l2 := r2.length
        refine op_catA pins s σ H _ _ v' u' Qs I rv ru ⟨_, _, _, _, rfl, rfl, SqT.of (hid_sub _ _ h1), SqT.of (hid_sub _ _ h2), by rw [← l1, ← l2]; exact h.1, fun z => ?_, fun z1 z2 => ?_, fun z1 z2 p hp => ?_⟩
        · subst z
          cases r1
          exact k _ _ H h.2 (Same.refl H) (.tup h2 r2)
        · subst z2
          cases r2
          refine k _ _ H h.2 (Same.refl H) (.tup h1 ?_)
          rw [List.append_nil]; exact r1
        · exact k _ _ _ h.2 (Same.new hp) (rep_new_tup hp dm (r1.append r2))
  · cases rx with
    | lst h1 r1 =>
      cases ry with
      | lst h2 r2 =>
        have l1 := r1.length
        have l2 := r2.length
        exact op_cat pins s σ H _ _ v' u' Qs I rv ru ⟨_, _, _, _, rfl, rfl, hid_sub _ _ h1, hid_sub _ _ h2, by rw [← l1, ← l2]; exact h.1, fun p hp => k _ _ _ h.2 (Same.new hp) (rep_new_lst hp dm (r1.append r2))⟩
theorem op_ints_d {o : BO} {op : Operator} {C : Int → Int → Prop} {g : Int → Int → Int} (r : OpR X (binaryOp op) (rI C fun i j => .int (g i j))) {i j : Int} {Q : D → Prop} (hc : C i j) (q : Q (.int (g i j))) : OpD X Hd (binaryOp op) (.int i) (.int j) Q := by
  intro pins s σ H v u v' u' Qs I dm rv ru rx ry k
  cases rx; cases ry
  exact r pins s σ H _ _ v' u' Qs I rv ru ⟨_, _, rfl, rfl, hc, k _ _ H q (Same.refl H) (.int _)⟩
theorem op_sub_d (x y : D) (Q : D → Prop) (h : opBin .sub x y Q) : OpD X Hd (binaryOp .Sub) x y Q := by
  intro pins s σ H v u v' u' Qs I dm rv ru rx ry k
  cases x <;> cases y <;> first | exact False.elim h | skip
  cases rx; cases ry
  exact op_sub pins s σ H _ _ v' u' Qs I rv ru ⟨_, _, rfl, rfl, k _ _ H h (Same.refl H) (.int _)⟩
end
end Lp
namespace Lp
open PySem L2 PyProof.Rows
section
variable {prog : Program} {w : World} {A : Around} {E : Value → Shared → Prop} {s : Shared}
theorem sliceApplied_rev {sl : Addr} {vs : Value} {n : Nat} {Q : Int × Int × Nat → Shared → Prop} (hs : s.heap.IsSliceOf sl .none .none vs) (ps : IsPart vs (some (-1)))
    (h : Q ((n : Int) - 1, -1, n) s) : wpAny (model prog w) A (Builtin.Slice.sliceApplied (.ref sl) (pure (n : Int))) Q E s := by
  obtain ⟨os, hos, hcs, hds⟩ := id hs
  unfold Builtin.Slice.sliceApplied Builtin.Slice.sliceFields
  refine wpAny_bind (wpAny_bind (wpAny_field hos hds (x := .none) rfl (wpAny_bind (wpAny_field hos hds (x := .none) rfl (wpAny_bind (wpAny_field hos hds (x := vs) rfl (wpAny_pure ?_)))))))
  refine wpAny_bind (HT.slicePart_ ps ?_)
  show wpAny _ _ (if ((-1 : Int) == 0) = true then _ else _) _ _ s
  rw [if_neg (by decide)]
  refine wpAny_bind (slicePart_none (wpAny_bind (slicePart_none (wpAny_bind (wpAny_pure ?_)))))
  show wpAny _ _ (pure (((n : Int) - 1), (-1 : Int), Builtin.Slice.slicePlaces ((n : Int) - 1) (-1) (-1))) _ _ s
  have e : Builtin.Slice.slicePlaces ((n : Int) - 1) (-1) (-1) = n := by
    unfold Builtin.Slice.slicePlaces
    rw [if_neg (by decide)]
    by_cases h : (n : Int) - 1 > -1
    · rw [if_pos h]
      have : ((n : Int) - 1 - -1 - 1) / (- -1) + 1 = n := by rw [show (- -1 : Int) = 1 by decide, Int.ediv_one]; omega
      rw [this]; exact Int.toNat_natCast n
    · rw [if_neg h]
      have : n = 0 := by omega
      subst this; rfl
  rw [e]
  exact wpAny_pure h
theorem pick_rev (xs : Array Value) : ((List.range xs.size).filterMap fun (m : Nat) => xs[(((xs.size : Int) - 1) + (m : Int) * -1).toNat]?).toArray = xs.toList.reverse.toArray := by
  have e : (fun (m : Nat) => xs[(((xs.size : Int) - 1) + (m : Int) * -1).toNat]?) = (fun k => xs[k]?) ∘ fun m => xs.size - 1 - m := by
    funext m
    show _ = xs[xs.size - 1 - m]?
    have : (((xs.size : Int) - 1) + (m : Int) * -1).toNat = xs.size - 1 - m := by omega
    rw [this]
  rw [e, ← List.filterMap_map, PySem.W.krv_range, List.filterMap_reverse, PySem.W.krv_all]
theorem getItem_tuple_rev {t sl : Addr} {items : Array Value} {vs : Value} {Q : Value → Shared → Prop} (ht : IsTup s.heap t items) (hs : s.heap.IsSliceOf sl .none .none vs) (ps : IsPart vs (some (-1)))
    (h : Q (.ref s.heap.objs.size) { s with heap := s.heap.push { cls := .type "tuple", data := .seq items.toList.reverse.toArray } })
    (hsz : items.size ≤ sizeLine) : wpAny (model prog w) A (getItem (.ref t) (.ref sl)) Q E s := by
  have htake : sizeOk (.seq items.toList.reverse.toArray) := by
    show items.toList.reverse.toArray.size ≤ sizeLine
    rw [List.size_toArray, List.length_reverse, Array.length_toList]
    exact hsz
  obtain ⟨os, hos, hcs, hds⟩ := id hs
  have hTs : s.TypeIs (.ref sl) "slice" := ⟨os, hos, hcs⟩
  unfold getItem
  try with_reducible refine wpAny_holding ?_
  first | refine wpAny_bind (wpAny_pure ?_) | skip
  refine wpAny_bind (wpAny_sequenceKey ht.typeIs (by decide) ?_)
  refine wpAny_bind (wpAny_callSpecial?_slot (name := Str.ofString "__getitem__") ht.typeIs PyProof.Rows.slot_tuple_getitem
    (wpAny_call_entry PyProof.Rows.slot_tuple_getitem ht.typeIs entry_tuple_getitem ?_ (args_tuple_getitem _ _)))
  show wpAny _ _ (Builtin.Tuple.tupleItemsOf (.ref t) >>= _) _ _ s
  refine wpAny_bind (tupleItemsOf_ ht ?_)
  refine wpAny_bind (wpAny_typeOf hTs ?_)
  rw [if_pos (by decide)]
  refine wpAny_bind (sliceApplied_rev hs ps ?_)
  have hno : ¬ (((((items.size : Nat) : Int) - 1) == 0 && (-1 : Int) == 1 && items.size == items.size) = true) := by
    intro q
    rw [Bool.and_eq_true, Bool.and_eq_true] at q
    have q1 : (-1 : Int) = 1 := eq_of_beq q.1.2
    omega
  show wpAny _ _ (if ((((items.size : Nat) : Int) - 1) == 0 && (-1 : Int) == 1 && items.size == items.size) = true then _ else _) _ _ s
  rw [if_neg hno, pick_rev]
  first
    | exact wpAny_bind (m := Builtin.Tuple.tupleExact _) (wpAny_newObj_type (wpAny_pure ⟨_, rfl, wpAny_pure h⟩) htake)
    | exact wpAny_bind (m := Builtin.Tuple.tupleExact _) (wpAny_newObj_type (wpAny_bind (wpAny_pure (wpAny_pure ⟨_, rfl, wpAny_pure h⟩))) htake)
    | exact wpAny_bind (wpAny_bind (m := Builtin.Tuple.tupleExact _) (wpAny_newObj_type (wpAny_pure (wpAny_pure ⟨_, rfl, wpAny_pure h⟩)) htake))
    | exact wpAny_bind (wpAny_bind (m := Builtin.Tuple.tupleExact _) (wpAny_newObj_type (wpAny_pure ⟨_, rfl, wpAny_pure h⟩) htake))
end
/-- x[::-1] of a list or a tuple -/
def tRev (K : PySem.W.Frag) (te : TE) : TE := fun σ H Q => te σ H fun x H1 => (∃ a xs, x = .ref a ∧ SqL K H1 a xs ∧ ∀ p, H1 p = none → Q (.ref p) (upd H1 p (.lst xs.reverse))) ∨ (∃ a xs, x = .ref a ∧ SqT K H1 a xs ∧ ∀ p, H1 p = none → Q (.ref p) (upd H1 p (.tup xs.reverse)))
section
variable {X : Cx}
theorem pe_rev {e : Expr} {te : TE} {k : Nat} {p1 p2 p3 pos : Pos} (he : PE X e te) : PE X (.Subscript e (.Slice none none (some (.UnaryOp .USub (.Constant (.int 1) k p1) p2)) p3) pos) (tRev X.K te) := by
  refine ⟨fun pins s σ H Q I h => ?_⟩
  refine Subscript_ (thn (he.run pins s σ H _ I h) fun v s1 ⟨x, H1, I1, r1, q1⟩ => ?_)
  have hst : PO X (some (.UnaryOp .USub (.Constant (.int 1) k p1) p2)) (tPart (tUn (rU fun i => .int (-i)) (tC (.int 1)))) := po_some (pe_un un_neg pe_int)
  refine wpAny_Slice (thn (po_none.run pins s1 σ H1 (fun o H2 => o = none ∧ H2 = H1) I1 ⟨rfl, rfl⟩) fun vl s2 ⟨l, H2, I2, pl, el, e2⟩ => ?_)
  subst el e2
  cases pl
  refine thn (po_none.run pins s2 σ H2 (fun o H3 => o = none ∧ H3 = H2) I2 ⟨rfl, rfl⟩) fun vu s3 ⟨u, H3, I3, pu, eu, e3⟩ => ?_
  subst eu e3
  cases pu
  refine thn (hst.run pins s3 σ H3 (fun o H4 => o = some (-1) ∧ H4 = H3) I3 ⟨1, rfl, -1, rfl, rfl, rfl⟩) fun vs s4 ⟨o, H4, I4, ps, eo, e4⟩ => ?_
  subst eo e4
  have I5 : Inv X pins σ H4 { s4 with heap := s4.heap.push { cls := .type "slice", data := .fields #[.none, .none, vs] } } := I4.kept (t' := s4.toks) fun b ob q => Heap.get?_push_of_some _ q
  rcases q1 with ⟨a, xs, ex, hx, q⟩ | ⟨a, xs, ex, hx, q⟩
  · subst ex
    cases r1
    obtain ⟨its, r, ht, hz⟩ := I5.list hx
    have hlen := r.length
    show wpAny (model X.prog X.w) X.A (subscriptTail e (.Slice none none (some (.UnaryOp .USub (.Constant (.int 1) k p1) p2)) p3) (.ref a) (.ref s4.heap.objs.size)) (EP X pins σ Q) X.xe { s4 with heap := s4.heap.push { cls := .type "slice", data := .fields #[.none, .none, vs] } }
    refine tail_any (ops := [.ref a, .ref s4.heap.objs.size]) ht.isList.typeIs (PySem.slot_list_getitem.lookup) ?_ (by with_unfolding_all rfl)
    refine wpAny_getItem_list_slice ht.isList (Heap.IsSliceOf.new _ .none .none vs) .none .none ps (by decide) ?_ (by rw [List.size_toArray]; omega)
    rw [PySem.W.krv_pick]
    refine ⟨.ref _, _, I5.laid (t' := s4.toks) (o := .lst xs.reverse) (fun b ob q => Heap.get?_push_of_some _ q) (Nat.le_refl _) ?_, rfl, q _ (I5.hok.fresh (Nat.le_refl _))⟩
    exact ⟨by rw [List.length_reverse]; exact hz, _, 0, r.reverse, Heap.get?_push_size _ rfl⟩
  · subst ex
    cases r1
    obtain ⟨its, r, ht, hz⟩ := I5.tuple hx
    have hlen := r.length
    show wpAny (model X.prog X.w) X.A (subscriptTail e (.Slice none none (some (.UnaryOp .USub (.Constant (.int 1) k p1) p2)) p3) (.ref a) (.ref s4.heap.objs.size)) (EP X pins σ Q) X.xe { s4 with heap := s4.heap.push { cls := .type "slice", data := .fields #[.none, .none, vs] } }
    refine tail_any (ops := [.ref a, .ref s4.heap.objs.size]) ht.typeIs (PyProof.Rows.slot_tuple_getitem.lookup) ?_ (by with_unfolding_all rfl)
    refine getItem_tuple_rev ht (Heap.IsSliceOf.new _ .none .none vs) ps ?_ (by rw [List.size_toArray]; omega)
    refine ⟨.ref _, _, I5.laid (t' := s4.toks) (o := .tup xs.reverse) (fun b ob q => Heap.get?_push_of_some _ q) (Nat.le_refl _) ?_, rfl, q _ (I5.hok.fresh (Nat.le_refl _))⟩
    exact ⟨by rw [List.length_reverse]; exact hz, _, r.reverse, IsTup.new _ _⟩
/-- text * int -/
theorem op_mul_str : OpR X (binaryOp .Mult) (fun x y H Q => ∃ (z : Str) (k : Int), x = .str z ∧ y = .int k ∧ (0 ≤ k ∧ k ≤ 1000 ∧ z.length * k.toNat ≤ 1000) ∧ Q (.str ⟨(List.replicate k.toNat z.cps.toList).flatten.toArray⟩) H) := by
  intro pins s σ H x y v u Q I rx ry h
  obtain ⟨z, k, rfl, rfl, ⟨h0, h1, h2⟩, q⟩ := h
  obtain ⟨t, rfl⟩ := rx
  obtain ⟨t', rfl⟩ := ry
  have f0 : ∀ (cs : Array Nat) (m : Nat) (acc : List Nat), List.foldl (fun x1 x2 => x1 ++ x2) acc.toArray (List.replicate m cs) = (acc ++ (List.replicate m cs.toList).flatten).toArray := by
    intro cs m
    induction m with
    | zero => intro acc; simp
    | succ m ih =>
      intro acc
      rw [List.replicate_succ, List.foldl_cons]
      have e : acc.toArray ++ cs = (acc ++ cs.toList).toArray := by simp
      rw [e, ih]; simp [List.replicate_succ]
  refine PySem.P.mul_str (by simp; omega) (fun a b c => ?_) (fun a b => ?_) ?_
  · have hk : (0 : Int) < k := by omega
    have : (z.length : Int) ≤ (2 ^ 63 - 1) / k := by
      rw [Int.le_ediv_iff_mul_le hk]
      have e : ((z.length * k.toNat : Nat) : Int) = (z.length : Int) * k := by rw [Int.natCast_mul, Int.toNat_of_nonneg h0]
      omega
    omega
  · unfold Builtin.Str.tooLong
    exact decide_eq_false (by rw [sizeLine_eq]; omega)
  · have fin : ∀ (y : Str) (tk : Tok) (n : Nat), y = ⟨(List.replicate k.toNat z.cps.toList).flatten.toArray⟩ → EP X pins σ Q (.str y tk) { s with toks := n } := fun y tk n e => by
      subst e
      exact ⟨.str _, H, I.tok n, ⟨tk, rfl⟩, q⟩
    by_cases hk : k < 1
    · rw [if_pos hk]
      have : k = 0 := by omega
      subst this
      exact ⟨by decide, fin _ _ _ rfl⟩
    · rw [if_neg hk]
      by_cases hc : (k == 1 || z.length == 0) = true
      · rw [if_pos hc]
        refine fin z t s.toks ?_
        rw [Bool.or_eq_true] at hc
        rcases hc with hc | hc
        · have : k = 1 := eq_of_beq hc
          subst this
          cases z; simp
        · have hz : z.length = 0 := eq_of_beq hc
          have : z.cps = #[] := by
            have : z.cps.size = 0 := hz
            exact Array.size_eq_zero_iff.mp this
          cases z; simp at this; subst this
          simp
      · rw [if_neg hc]
        have e := f0 z.cps k.toNat []
        rw [List.nil_append] at e
        refine ⟨?_, fin _ _ _ ?_⟩
        · have : (⟨List.foldl (fun x1 x2 => x1 ++ x2) #[] (List.replicate k.toNat z.cps)⟩ : Str).length = z.length * k.toNat := by
            show (List.foldl (fun x1 x2 => x1 ++ x2) #[] (List.replicate k.toNat z.cps)).size = _
            rw [e]; simp; exact Nat.mul_comm _ _
          rw [this, sizeLine_eq]; omega
        · exact congrArg _ e
end
end Lp
namespace Lp
open PySem L2
section
variable {X : Cx} {Hd : Addr → Bool}
theorem op_mul_d (x y : D) (Q : D → Prop) (h : opBin .mul x y Q) : OpD X Hd (binaryOp .Mult) x y Q := by
  intro pins s σ H v u v' u' Qs I dm rv ru rx ry k
  cases x <;> cases y <;> first | exact False.elim h | skip
  · cases rx; cases ry
    exact op_mulW pins s σ H _ _ v' u' Qs I rv ru ⟨_, _, rfl, rfl, h.1, k _ _ H h.2 (Same.refl H) (.int _)⟩
  · cases rx; cases ry
    exact op_mul_str pins s σ H _ _ v' u' Qs I rv ru ⟨_, _, rfl, rfl, h.1, k _ _ H h.2 (Same.refl H) (.str _)⟩
  · cases rx with
    | lst h1 r1 =>
      cases ry
      have l1 := r1.length
      obtain ⟨⟨a1, a2, a3⟩, q⟩ := h
      exact op_rep pins s σ H _ _ v' u' Qs I rv ru ⟨_, _, _, rfl, rfl, hid_sub _ _ h1, a1, a2, by rw [← l1]; exact a3, fun p hp => k _ _ _ q (Same.new hp) (rep_new_lst hp dm (r1.rep _))⟩
theorem op_fdiv_d (x y : D) (Q : D → Prop) (h : opBin .fdiv x y Q) : OpD X Hd (binaryOp .FloorDiv) x y Q := by
  cases x <;> cases y <;> first | exact False.elim h | skip
  exact op_ints_d op_fdivW h.1 h.2 (o := .fdiv)
theorem op_mod_d (x y : D) (Q : D → Prop) (h : opBin .mod x y Q) : OpD X Hd (binaryOp .Mod) x y Q := by
  cases x <;> cases y <;> first | exact False.elim h | skip
  exact op_ints_d op_mod h.1 h.2 (o := .mod)
theorem op_pow_d (x y : D) (Q : D → Prop) (h : opBin .pow x y Q) : OpD X Hd (binaryOp .Pow) x y Q := by
  cases x <;> cases y <;> first | exact False.elim h | skip
  exact op_ints_d op_pow h.1 h.2 (o := .pow)
theorem op_bin_d (o : BO) (x y : D) (Q : D → Prop) (h : opBin o x y Q) : OpD X Hd (binaryOp (boP o)) x y Q := by
  cases o
  · exact op_add_d x y Q h
  · exact op_sub_d x y Q h
  · exact op_mul_d x y Q h
  · exact op_fdiv_d x y Q h
  · exact op_mod_d x y Q h
  · exact op_pow_d x y Q h
/-- a comparison by deep values (the tops read in the whole heap) -/
def CmD (X : Cx) (Hd : Addr → Bool) (f : Value → Value → Sem Value) (x y : D) (Q : Bool → Prop) : Prop :=
  ∀ (pins : List (Addr × Obj)) (s : Shared) (σ : L2.St) (H : Hp) (v u : V) (v' u' : Value) (Qs : VK), Inv X pins σ H s → RelV v v' → RelV u u' → RT X Hd H x v → RT X Hd H y u →
    (∀ b, Q b → Qs (.bl b) H) → wpAny (model X.prog X.w) X.A (f v' u') (EP X pins σ Qs) X.xe s
theorem cm_ints {op : CmpOp} {p : Int → Int → Bool} (r : OpR X (compareOp op) (rI0 fun i j => .bl (p i j))) {i j : Int} {Q : Bool → Prop} (q : Q (p i j)) : CmD X Hd (compareOp op) (.int i) (.int j) Q := by
  intro pins s σ H v u v' u' Qs I rv ru rx ry k
  cases rx; cases ry
  exact r pins s σ H _ _ v' u' Qs I rv ru ⟨_, _, rfl, rfl, k _ q⟩
theorem cm_strs {op : CmpOp} {p : Str → Str → Bool} (r : OpR X (compareOp op) (fun x y H Q => ∃ i j, x = .str i ∧ y = .str j ∧ Q (.bl (p i j)) H)) {i j : Str} {Q : Bool → Prop} (q : Q (p i j)) : CmD X Hd (compareOp op) (.str i) (.str j) Q := by
  intro pins s σ H v u v' u' Qs I rv ru rx ry k
  cases rx; cases ry
  exact r pins s σ H _ _ v' u' Qs I rv ru ⟨_, _, rfl, rfl, k _ q⟩
theorem cm_in {op : CmpOp} {neg : Bool} (r : OpR X (compareOp op) (rIn X.K neg)) {x y : D} {xs : List D} (hy : y = .lst xs ∨ y = .tup xs) {Q : Bool → Prop} (f : flatD x = true ∧ xs.all flatD = true) (q : Q (if neg then !inD x xs else inD x xs)) : CmD X Hd (compareOp op) x y Q := by
  intro pins s σ H v u v' u' Qs I rv ru rx ry k
  obtain ⟨e1, e2⟩ := rx.flat f.1
  subst e1
  rcases hy with e | e
  · subst e
    cases ry with
    | lst h1 r1 =>
      obtain ⟨e3, e4⟩ := r1.flat f.2
      subst e3
      exact r pins s σ H _ _ v' u' Qs I rv ru ⟨_, _, rfl, .inl (SqL.of h1), e2, e4, k _ q⟩
  · subst e
    cases ry with
    | tup h1 r1 =>
      obtain ⟨e3, e4⟩ := r1.flat f.2
      subst e3
      exact r pins s σ H _ _ v' u' Qs I rv ru ⟨_, _, rfl, .inr (SqT.of (hid_sub _ _ h1)), e2, e4, k _ q⟩
theorem cm_eq (hu : X.A.units + 64 < cLine) {x y : D} {Q : Bool → Prop} (h : eqOk x y) (q : Q (PyData.eqv (toP x) (toP y))) : CmD X Hd (compareOp .Eq) x y Q := by
  intro pins s σ H v u v' u' Qs I rv ru rx ry k
  obtain ⟨p1, p2, s1, s2⟩ := h
  exact op_eqD hu pins s σ H _ _ v' u' Qs I rv ru ⟨_, _, rx.dp hid_sub (Same.refl H) p1, ry.dp hid_sub (Same.refl H) p2, s1, s2, k _ q⟩
theorem cm_ne (hu : X.A.units + 64 < cLine) {x y : D} {Q : Bool → Prop} (h : eqOk x y) (q : Q (!PyData.eqv (toP x) (toP y))) : CmD X Hd (compareOp .NotEq) x y Q := by
  intro pins s σ H v u v' u' Qs I rv ru rx ry k
  obtain ⟨p1, p2, s1, s2⟩ := h
  exact op_neD hu pins s σ H _ _ v' u' Qs I rv ru ⟨_, _, rx.dp hid_sub (Same.refl H) p1, ry.dp hid_sub (Same.refl H) p2, s1, s2, k _ q⟩
theorem RepT.isNon {K : PySem.W.Frag} {mg : Str → Option Value} {H F : Hp} {d : D} {v : V} (r : RepT mg K H F d v) : decide (v = V.non) = (match d with | .non => true | _ => false) := by
  cases r <;> simp
theorem op_cmp_d (hu : X.A.units + 64 < cLine) (o : CO) (x y : D) (Q : Bool → Prop) (h : opCmp o x y Q) : CmD X Hd (compareOp (coP o)) x y Q := by
  cases o with
  | eq => exact cm_eq hu h.1 h.2
  | ne => exact cm_ne hu h.1 h.2
  | lt =>
    cases x <;> cases y <;> first | exact False.elim h | skip
    · exact cm_ints op_lt h
    · exact cm_strs op_lt_str h
  | le =>
    cases x <;> cases y <;> first | exact False.elim h | skip
    · exact cm_ints op_le h
    · exact cm_strs op_le_str h
  | gt =>
    cases x <;> cases y <;> first | exact False.elim h | skip
    · exact cm_ints op_gt h
    · exact cm_strs op_gt_str h
  | ge =>
    cases x <;> cases y <;> first | exact False.elim h | skip
    · exact cm_ints op_ge h
    · exact cm_strs op_ge_str h
  | isin =>
    cases y <;> cases x <;> first | exact False.elim h | exact cm_in op_in_seq (.inl rfl) h.1 h.2 | exact cm_in op_in_seq (.inr rfl) h.1 h.2 | exact cm_strs op_in_str h
  | notin =>
    cases y <;> cases x <;> first | exact False.elim h | exact cm_in op_notIn_seq (.inl rfl) h.1 h.2 | exact cm_in op_notIn_seq (.inr rfl) h.1 h.2 | exact cm_strs op_notin_str h
  | isN =>
    intro pins s σ H v u v' u' Qs I rv ru rx ry k
    have ey : y = .non := by
      cases y <;> first | rfl | (cases x <;> exact False.elim h)
    subst ey
    cases ry
    refine op_isN pins s σ H _ _ v' u' Qs I rv ru ⟨rfl, ?_⟩
    rw [rx.isNon]
    refine k _ ?_
    cases x <;> exact h
  | notN =>
    intro pins s σ H v u v' u' Qs I rv ru rx ry k
    have ey : y = .non := by
      cases y <;> first | rfl | (cases x <;> exact False.elim h)
    subst ey
    cases ry
    refine op_notN pins s σ H _ _ v' u' Qs I rv ru ⟨rfl, ?_⟩
    rw [rx.isNon]
    refine k _ ?_
    cases x <;> exact h
end
end Lp
namespace Lp
open PySem L2
section
variable {X : Cx} {Hd : Addr → Bool} {H : Hp}
theorem atI_rep {α : Type} {ds : List D} {vs : List V} {mg : Str → Option Value} {K : PySem.W.Frag} {F : Hp} {i : Int} {d : D} (r : RepA mg K F ds vs) (h : atI ds i = some d) : ∃ v, atI vs i = some v ∧ Rep mg K F d v := by
  unfold atI at h ⊢
  rw [← r.length]
  cases e : ixN ds.length i with
  | none => rw [e] at h; cases h
  | some j =>
    rw [e] at h
    exact r.get' h
theorem ix_d {x y : D} {Q : D → Prop} {v u : V} {Qs : VK} (h : opIx x y Q) (rx : RT X Hd H x v) (ry : RT X Hd H y u) (k : ∀ d z, Q d → RV X Hd H d z → Qs z H) : rIx X.K v u H Qs := by
  cases y <;> first | (cases x <;> exact False.elim h) | skip
  cases ry
  cases x <;> first | exact False.elim h | skip
  · cases rx
    obtain ⟨c, h1, h2, q⟩ := h
    exact .inr (.inr ⟨_, _, c, rfl, rfl, h1, h2, k _ _ q (.str _)⟩)
  · cases rx with
    | tup h1 r1 =>
      obtain ⟨d, h2, q⟩ := h
      obtain ⟨z, h3, h4⟩ := atI_rep (α := Unit) r1 h2
      exact .inr (.inl ⟨_, _, _, z, rfl, rfl, SqT.of (hid_sub _ _ h1), h3, k _ _ q h4⟩)
  · cases rx with
    | lst h1 r1 =>
      obtain ⟨d, h2, q⟩ := h
      obtain ⟨z, h3, h4⟩ := atI_rep (α := Unit) r1 h2
      exact .inl ⟨_, _, _, z, rfl, rfl, SqL.of h1, h3, k _ _ q h4⟩
  · cases rx with
    | scr h1 =>
      obtain ⟨n, h2, q⟩ := h
      refine .inl ⟨_, _, _, .int n, rfl, rfl, h1, ?_, k _ _ q (.int n)⟩
      unfold atI at h2 ⊢
      rw [List.length_map]
      cases e : ixN _ _ with
      | none => rw [e] at h2; cases h2
      | some j =>
        rw [e] at h2
        show (List.map V.int _)[j]? = _
        rw [List.getElem?_map]
        have h2' : _ = some n := h2
        rw [show (_ : List Int)[j]? = some n from h2']
        rfl
def rSlX (K : PySem.W.Frag) : V → Option Int → Option Int → Hp → VK → Prop := fun x lo hi H Q => rSlL K x lo hi H Q ∨ (rSlA K x lo hi H Q ∨ rSlS x lo hi H Q)
theorem sl_any : SlR X (rSlX X.K) := SlR.or sl_list (SlR.or sl_tupA sl_str)
theorem cut_rep {ds : List D} {vs : List V} {mg : Str → Option Value} {K : PySem.W.Frag} {F : Hp} {lo hi : Option Int} (r : RepA mg K F ds vs) : RepA mg K F (cutD ds lo hi) (cutV vs lo hi) := by
  unfold cutD cutV
  rw [r.length]
  exact (r.drop _).take _
theorem cut_whole {ds : List D} {lo hi : Option Int} (h : HT.sIx ds.length 0 lo = 0 ∧ HT.sIx ds.length ds.length hi = ds.length) : cutD ds lo hi = ds := by
  unfold cutD
  rw [h.1, h.2, List.drop_zero, Nat.sub_zero, List.take_length]
theorem sl_d {x : D} {lo hi : Option Int} {Q : D → Prop} {v : V} {Qs : VK} (h : opSl x lo hi Q) (dm : Dom Hd H) (rx : RT X Hd H x v) (k : ∀ d z H', Q d → Same H H' → RV X Hd H' d z → Qs z H') : rSlX X.K v lo hi H Qs := by
  cases x <;> first | exact False.elim h | skip
  · cases rx
    exact .inr (.inr ⟨_, rfl, h.1, k _ _ H h.2 (Same.refl H) (.str _)⟩)
  · cases rx with
    | tup h1 r1 =>
      have l := r1.length
      refine .inr (.inl ⟨_, _, rfl, SqT.of (hid_sub _ _ h1), fun w => ?_, fun w p hp => ?_⟩)
      · rw [← l] at w
        refine k _ _ H h (Same.refl H) ?_
        rw [cut_whole w]
        exact .tup h1 r1
      · exact k _ _ _ h (Same.new hp) (rep_new_tup hp dm (cut_rep r1))
  · cases rx with
    | lst h1 r1 => exact .inl ⟨_, _, rfl, SqL.of h1, fun p hp => k _ _ _ h (Same.new hp) (rep_new_lst hp dm (cut_rep r1))⟩

/-! ## built-ins -/
inductive RTA (X : Cx) (Hd : Addr → Bool) (H : Hp) : List D → List V → Prop
  | nil : RTA X Hd H [] []
  | cons {d : D} {v : V} {ds : List D} {vs : List V} : RT X Hd H d v → RTA X Hd H ds vs → RTA X Hd H (d :: ds) (v :: vs)
theorem RTA.mono {H' : Hp} (s : Same H H') : ∀ {ds : List D} {vs : List V}, RTA X Hd H ds vs → RTA X Hd H' ds vs
  | _, _, .nil => .nil
  | _, _, .cons r t => .cons (RT.mono' s r) (RTA.mono s t)
def callSem (X : Cx) (f : Value) : List V → Hp → VK → Prop := fun vs H Q => ∀ (pins : List (Addr × Obj)) (s : Shared) (σ : L2.St) (us : List Value), Inv X pins σ H s → Vals vs us → wpAny (model X.prog X.w) X.A (call f us) (EP X pins σ Q) X.xe s
theorem callR_sem {f : Value} : CallR X f (callSem X f) := fun pins s σ H xs us Q I r h => h pins s σ us I r
theorem sem_call {f : Value} {r : List V → Hp → VK → Prop} (hc : CallR X f r) {vs : List V} {H : Hp} {Q : VK} (h : r vs H Q) : callSem X f vs H Q := fun pins s σ us I rv => hc pins s σ H vs us Q I rv h
/-- what the name stands for -/
def biV : BI → Value
  | .len => .builtin "len" | .abs => .builtin "abs" | .min => .builtin "min" | .max => .builtin "max" | .sum => .builtin "sum" | .sorted => .builtin "sorted"
  | .int => .type "int" | .list => .type "list" | .tuple => .type "tuple"
theorem repA_ints {mg : Str → Option Value} {K : PySem.W.Frag} {F : Hp} {ns : List Int} {vs : List V} (h : RepA mg K F (ns.map D.int) vs) : vs = ns.map V.int := h.ints
theorem keys_ofKey {mg : Str → Option Value} {K : PySem.W.Frag} {F : Hp} : ∀ {ds : List (Key × D)} {vs : List (Key × V)}, RepK mg K F ds vs → RepA mg K F (ds.map fun kv => ofKey kv.1) (vs.map fun kv => kV kv.1)
  | _, _, .nil => .nil
  | _, _, .cons (k := k) r t => by
    rw [List.map_cons, List.map_cons]
    refine .cons ?_ (keys_ofKey t)
    cases k with
    | inl i => exact .int i
    | inr s => exact .str s
theorem rtT_nil {vs : List V} {d : D} (h : RTA X Hd H [d] vs) : ∃ v, vs = [v] ∧ RT X Hd H d v := by
  cases h with
  | cons r t => cases t; exact ⟨_, rfl, r⟩
/-- those that make a new list -/
theorem bi_new {f : BI} (hf : f = .list ∨ f = .sorted) (hc : X.calm = true) {ds : List D} {vs : List V} {Q : D → Prop} {Qs : VK} (h : opBi f ds Q) (r : RTA X Hd H ds vs) (k : ∀ d z H', Q d → Same H H' → RO X Hd H H' d z → Qs z H') :
    callSem X (biV f) vs H Qs := by
  rcases hf with rfl | rfl
  · have h' : biList ds Q := h
    show callSem X (.type "list") vs H Qs
    match ds, r, h' with
    | [.lst xs], .cons rv .nil, h' =>
      cases rv with
      | lst h1 r1 => exact sem_call call_list_of ⟨_, _, rfl, .inl (SqL.of h1), fun l hl => k _ _ _ h' (Same.new hl) (ro_new_lst hl (Same.refl H) r1)⟩
    | [.tup xs], .cons rv .nil, h' =>
      cases rv with
      | tup h1 r1 => exact sem_call call_list_of ⟨_, _, rfl, .inr (SqT.of (hid_sub _ _ h1)), fun l hl => k _ _ _ h' (Same.new hl) (ro_new_lst hl (Same.refl H) r1)⟩
    | [.dct kvs], .cons rv .nil, h' =>
      cases rv with
      | dct h1 r1 => exact sem_call (call_list_dK hc) ⟨_, _, rfl, h1, fun l hl => k _ _ _ h' (Same.new hl) (ro_new_lst hl (Same.refl H) (keys_ofKey r1))⟩
  · have h' : biSorted ds Q := h
    show callSem X (.builtin "sorted") vs H Qs
    rcases h' with ⟨ss, rfl, h64, q⟩ | ⟨ns, rfl, q⟩
    · obtain ⟨v, rfl, rv⟩ := rtT_nil (vs := vs) r
      cases rv with
      | lst h1 r1 =>
        have e := r1.strs
        subst e
        exact sem_call cr_sortedS ⟨_, ss, rfl, SqL.of h1, h64, fun ys p hp hs hn => k _ _ _ (q ys hp hs) (Same.new hn) (ro_new_lst hn (Same.refl H) RepA.of_strs)⟩
    · obtain ⟨v, rfl, rv⟩ := rtT_nil (vs := vs) r
      cases rv with
      | lst h1 r1 =>
        have e := r1.ints
        subst e
        exact sem_call cr_sortedI ⟨_, ns, rfl, SqL.of h1, fun ys p hp hs hn => k _ _ _ (q ys hp hs) (Same.new hn) (ro_new_lst hn (Same.refl H) RepA.of_ints)⟩
theorem biLen_c {ds : List D} {Q : D → Prop} (h : biLen ds Q) : (∃ xs, ds = [.lst xs] ∧ Q (.int xs.length)) ∨ (∃ xs, ds = [.tup xs] ∧ Q (.int xs.length)) ∨ (∃ ns, ds = [.scr ns] ∧ Q (.int ns.length)) ∨ (∃ s, ds = [.str s] ∧ s.length ≤ sizeLine ∧ Q (.int s.length)) ∨ (∃ kvs, ds = [.dct kvs] ∧ Q (.int kvs.length)) := by
  unfold biLen at h
  split at h
  · exact .inl ⟨_, rfl, h⟩
  · exact .inr (.inl ⟨_, rfl, h⟩)
  · exact .inr (.inr (.inl ⟨_, rfl, h⟩))
  · exact .inr (.inr (.inr (.inl ⟨_, rfl, h.1, h.2⟩)))
  · exact .inr (.inr (.inr (.inr ⟨_, rfl, h⟩)))
  · exact h.elim
theorem biInt_c {ds : List D} {Q : D → Prop} (h : biInt ds Q) : (∃ i, ds = [.int i] ∧ Q (.int i)) ∨ (∃ b, ds = [.bl b] ∧ Q (.int (if b then 1 else 0))) := by
  unfold biInt at h
  split at h
  · exact .inl ⟨_, rfl, h⟩
  · exact .inr ⟨_, rfl, h⟩
  · exact h.elim
theorem biAbs_c {ds : List D} {Q : D → Prop} (h : biAbs ds Q) : ∃ i, ds = [.int i] ∧ Q (.int (if i < 0 then -i else i)) := by
  unfold biAbs at h
  split at h
  · exact ⟨_, rfl, h⟩
  · exact h.elim
theorem biMin_c {ds : List D} {Q : D → Prop} (h : biMin ds Q) : ∃ i j, ds = [.int i, .int j] ∧ Q (.int (if j < i then j else i)) := by
  unfold biMin at h
  split at h
  · exact ⟨_, _, rfl, h⟩
  · exact h.elim
theorem biMax_c {ds : List D} {Q : D → Prop} (h : biMax ds Q) : ∃ i j, ds = [.int i, .int j] ∧ Q (.int (if j > i then j else i)) := by
  unfold biMax at h
  split at h
  · exact ⟨_, _, rfl, h⟩
  · exact h.elim
theorem biTuple_c {ds : List D} {Q : D → Prop} (h : biTuple ds Q) : (∃ xs, ds = [.lst xs] ∧ Q (.tup xs)) ∨ (∃ xs, ds = [.tup xs] ∧ Q (.tup xs)) := by
  unfold biTuple at h
  split at h
  · exact .inl ⟨_, rfl, h⟩
  · exact .inr ⟨_, rfl, h⟩
  · exact h.elim
theorem rtT_two {ds : List D} {vs : List V} {d e : D} (h : RTA X Hd H [d, e] vs) : ∃ v u, vs = [v, u] ∧ RT X Hd H d v ∧ RT X Hd H e u := by
  cases h with
  | cons r t => cases t with | cons r' t' => cases t'; exact ⟨_, _, rfl, r, r'⟩
theorem bo_len (hc : X.calm = true) (dm : Dom Hd H) {ds : List D} {vs : List V} {Q : D → Prop} {Qs : VK} (h : opBi .len ds Q) (r : RTA X Hd H ds vs) (k : ∀ d z H', Q d → Same H H' → RV X Hd H' d z → Qs z H') :
    callSem X (biV .len) vs H Qs := by
  show callSem X (.builtin "len") vs H Qs
  rcases biLen_c h with ⟨xs, rfl, q⟩ | ⟨xs, rfl, q⟩ | ⟨xs, rfl, q⟩ | ⟨xs, rfl, hl, q⟩ | ⟨xs, rfl, q⟩
  · obtain ⟨v, rfl, rv⟩ := rtT_nil r
    cases rv with
    | lst h1 r1 => exact sem_call call_len_seq ⟨_, _, rfl, .inl (SqL.of h1), by rw [← r1.length]; exact k _ _ H q (Same.refl H) (.int _)⟩
  · obtain ⟨v, rfl, rv⟩ := rtT_nil r
    cases rv with
    | tup h1 r1 => exact sem_call call_len_seq ⟨_, _, rfl, .inr (SqT.of (hid_sub _ _ h1)), by rw [← r1.length]; exact k _ _ H q (Same.refl H) (.int _)⟩
  · obtain ⟨v, rfl, rv⟩ := rtT_nil r
    cases rv with
    | scr h1 => exact sem_call call_len_seq ⟨_, _, rfl, .inl h1, by rw [List.length_map]; exact k _ _ H q (Same.refl H) (.int _)⟩
  · obtain ⟨v, rfl, rv⟩ := rtT_nil r
    cases rv
    exact sem_call call_len_str ⟨_, rfl, hl, k _ _ H q (Same.refl H) (.int _)⟩
  · obtain ⟨v, rfl, rv⟩ := rtT_nil r
    cases rv with
    | dct h1 r1 => exact sem_call call_lenD ⟨_, _, rfl, h1, by rw [← r1.length]; exact k _ _ H q (Same.refl H) (.int _)⟩
theorem bo_int (hc : X.calm = true) (dm : Dom Hd H) {ds : List D} {vs : List V} {Q : D → Prop} {Qs : VK} (h : opBi .int ds Q) (r : RTA X Hd H ds vs) (k : ∀ d z H', Q d → Same H H' → RV X Hd H' d z → Qs z H') :
    callSem X (biV .int) vs H Qs := by
  show callSem X (.type "int") vs H Qs
  rcases biInt_c h with ⟨i, rfl, q⟩ | ⟨b, rfl, q⟩
  · obtain ⟨v, rfl, rv⟩ := rtT_nil r
    cases rv
    exact sem_call call_int1 (.inl ⟨_, rfl, k _ _ H q (Same.refl H) (.int _)⟩)
  · obtain ⟨v, rfl, rv⟩ := rtT_nil r
    cases rv
    exact sem_call call_int1 (.inr ⟨_, rfl, k _ _ H q (Same.refl H) (.int _)⟩)
theorem bo_abs (hc : X.calm = true) (dm : Dom Hd H) {ds : List D} {vs : List V} {Q : D → Prop} {Qs : VK} (h : opBi .abs ds Q) (r : RTA X Hd H ds vs) (k : ∀ d z H', Q d → Same H H' → RV X Hd H' d z → Qs z H') :
    callSem X (biV .abs) vs H Qs := by
  show callSem X (.builtin "abs") vs H Qs
  obtain ⟨i, rfl, q⟩ := biAbs_c h
  obtain ⟨v, rfl, rv⟩ := rtT_nil r
  cases rv
  exact sem_call call_abs ⟨_, rfl, k _ _ H q (Same.refl H) (.int _)⟩
theorem bo_min (hc : X.calm = true) (dm : Dom Hd H) {ds : List D} {vs : List V} {Q : D → Prop} {Qs : VK} (h : opBi .min ds Q) (r : RTA X Hd H ds vs) (k : ∀ d z H', Q d → Same H H' → RV X Hd H' d z → Qs z H') :
    callSem X (biV .min) vs H Qs := by
  show callSem X (.builtin "min") vs H Qs
  obtain ⟨i, j, rfl, q⟩ := biMin_c h
  obtain ⟨v, u, rfl, rv, ru⟩ := rtT_two (ds := []) r
  cases rv; cases ru
  exact sem_call (call_min2 hc) ⟨_, _, rfl, k _ _ H q (Same.refl H) (.int _)⟩
theorem bo_max (hc : X.calm = true) (dm : Dom Hd H) {ds : List D} {vs : List V} {Q : D → Prop} {Qs : VK} (h : opBi .max ds Q) (r : RTA X Hd H ds vs) (k : ∀ d z H', Q d → Same H H' → RV X Hd H' d z → Qs z H') :
    callSem X (biV .max) vs H Qs := by
  show callSem X (.builtin "max") vs H Qs
  obtain ⟨i, j, rfl, q⟩ := biMax_c h
  obtain ⟨v, u, rfl, rv, ru⟩ := rtT_two (ds := []) r
  cases rv; cases ru
  exact sem_call (call_max2 hc) ⟨_, _, rfl, k _ _ H q (Same.refl H) (.int _)⟩
theorem bo_sum (hc : X.calm = true) (dm : Dom Hd H) {ds : List D} {vs : List V} {Q : D → Prop} {Qs : VK} (h : opBi .sum ds Q) (r : RTA X Hd H ds vs) (k : ∀ d z H', Q d → Same H H' → RV X Hd H' d z → Qs z H') :
    callSem X (biV .sum) vs H Qs := by
  show callSem X (.builtin "sum") vs H Qs
  obtain ⟨ns, rfl, q⟩ : biSum ds Q := h
  obtain ⟨v, rfl, rv⟩ := rtT_nil r
  cases rv with
  | lst h1 r1 =>
    have e := r1.ints
    subst e
    exact sem_call (cr_sum hc) ⟨_, ns, rfl, SqL.of h1, k _ _ H q (Same.refl H) (.int _)⟩
theorem bo_tuple (hc : X.calm = true) (dm : Dom Hd H) {ds : List D} {vs : List V} {Q : D → Prop} {Qs : VK} (h : opBi .tuple ds Q) (r : RTA X Hd H ds vs) (k : ∀ d z H', Q d → Same H H' → RV X Hd H' d z → Qs z H') :
    callSem X (biV .tuple) vs H Qs := by
  show callSem X (.type "tuple") vs H Qs
  rcases biTuple_c h with ⟨xs, rfl, q⟩ | ⟨xs, rfl, q⟩
  · obtain ⟨v, rfl, rv⟩ := rtT_nil r
    cases rv with
    | lst h1 r1 => exact sem_call call_tuple_of ⟨_, _, rfl, .inl ⟨SqL.of h1, fun l hl => k _ _ _ q (Same.new hl) (rep_new_tup hl dm r1)⟩⟩
  · obtain ⟨v, rfl, rv⟩ := rtT_nil r
    cases rv with
    | tup h1 r1 => exact sem_call call_tuple_of ⟨_, _, rfl, .inr ⟨SqT.of (hid_sub _ _ h1), k _ _ H q (Same.refl H) (.tup h1 r1)⟩⟩
/-- the others -/
theorem bi_old {f : BI} (hn : ¬ (f = .list ∨ f = .sorted)) (hc : X.calm = true) (dm : Dom Hd H) {ds : List D} {vs : List V} {Q : D → Prop} {Qs : VK} (h : opBi f ds Q) (r : RTA X Hd H ds vs) (k : ∀ d z H', Q d → Same H H' → RV X Hd H' d z → Qs z H') :
    callSem X (biV f) vs H Qs := by
  cases f
  · exact bo_len hc dm h r k
  · exact bo_int hc dm h r k
  · exact bo_abs hc dm h r k
  · exact bo_min hc dm h r k
  · exact bo_max hc dm h r k
  · exact bo_sum hc dm h r k
  · exact absurd (.inl rfl) hn
  · exact bo_tuple hc dm h r k
  · exact absurd (.inr rfl) hn
theorem biV_boot (f : BI) : (∃ id, biV f = .builtin id ∧ bootBuiltins (biStr f) = some (.builtin id)) ∨ ∃ t, biV f = .type t ∧ bootBuiltins (biStr f) = some (.type t) := by
  cases f
  · exact .inl ⟨"len", rfl, PySem.boot_len⟩
  · exact .inr ⟨"int", rfl, PyProof.Rows.boot_int⟩
  · exact .inl ⟨"abs", rfl, PyProof.Rows.boot_abs⟩
  · exact .inl ⟨"min", rfl, PyProof.Rows.boot_min⟩
  · exact .inl ⟨"max", rfl, PyProof.Rows.boot_max⟩
  · exact .inl ⟨"sum", rfl, PyProof.Rows.boot_sum⟩
  · exact .inr ⟨"list", rfl, PyProof.Rows.boot_list⟩
  · exact .inr ⟨"tuple", rfl, PyProof.Rows.boot_tuple⟩
  · exact .inl ⟨"sorted", rfl, PyProof.Rows.boot_sorted⟩
end
end Lp
namespace Lp
open PySem L2
/-! ## what the syntax must show -/
section
variable {e : Expr} {es : List Expr} {env : PySem.Env} {pos : Pos} {f : Str}
theorem star_ok (h : plainX e = true) : starEach (e :: es) env = (false, eval e env) :: starEach es env := by
  cases e <;> first | rfl | cases h
theorem noStar_cons (h : noStar (e :: es) = true) : plainX e = true ∧ noStar es = true := by
  have h' : (plainX e && noStar es) = true := h
  rwa [Bool.and_eq_true] at h'
theorem noStar_back : ∀ {es : List Expr}, noStar es = true → (backTo pos (starEach es env)).any (·.1) = false
  | [], _ => rfl
  | e :: es, h => by
    obtain ⟨h1, h2⟩ := noStar_cons h
    rw [star_ok h1]
    show ((false : Bool) || (backTo pos (starEach es env)).any (·.1)) = false
    rw [noStar_back h2]; rfl
theorem ix_ok (h : plainX e = true) : PlainIx e := by
  cases e <;> first | (intro o i; rfl) | cases h
theorem base_ok (h : baseX e = true) : attributeBase e f env (eval e env) = eval e env := by
  cases e <;> first | rfl | skip
  rename_i g xs kws p
  cases g <;> first | rfl | skip
  cases xs <;> first | rfl | skip
  cases kws <;> first | rfl | skip
  cases h
theorem base_plain (h : baseX e = true) : plainX e = true := by
  cases e <;> first | rfl | exact h | skip
theorem swap_ok {t : Option Expr} {l : Nat} (h : plainX e = true) (h2 : isLc e = false) : swapsWith e t l env = pure false := by
  cases e <;> first | rfl | (cases h2; done) | (cases h; done)
theorem set_ok {x : Value} (h : noSet e = true) : foldedSetIterable e env x = pure x := by
  cases e <;> first | rfl | cases h
end
/-! ## targets -/
def gNames : List Nat → TGs
  | [] => gNil
  | i :: is => gCons (gName i) (gNames is)
def gT (K : PySem.W.Frag) : Tg → TG
  | .nm i => gName i
  | .tp is => gTup K is.length (gNames is)
/-- the block's names may be stored -/
def Sto (X : Cx) (scn ns : Nms) : Prop := X.env.scope.names = ns ∧ ∀ x, ns.lookup x = some .cell → scn.lookup x = some .cell → X.fn x = true
section
variable {X : Cx} {Hd : Addr → Bool} {scn ns : Nms} {N : List Str}
theorem pg_one (hN : X.N = N) (nd : X.N.Nodup) (st : Sto X scn ns) {i : Nat} {e : Expr} (h : tgName N scn ns i e = true) : PG X e (gName i) := by
  cases e <;> first | (cases h; done) | skip
  rename_i x p
  have h' : (decide (N[i]? = some x) && (match ns.lookup x with | some .local => true | some .cell => decide (scn.lookup x = some .cell) | _ => false)) = true := h
  rw [Bool.and_eq_true] at h'
  obtain ⟨h1, h2⟩ := h'
  have h1 := of_decide_eq_true h1
  split at h2
  · rename_i q
    exact pg_name nd (by rw [hN]; exact h1) (.inl (by rw [st.1]; exact q)) (.inr (by rw [st.1]; exact q))
  · rename_i q
    exact pg_name nd (by rw [hN]; exact h1) (.inr (by rw [st.1]; exact q)) (.inl (st.2 x q (of_decide_eq_true h2)))
  · cases h2
theorem each_names {env : PySem.Env} : ∀ {is : List Nat} {es : List Expr}, tgNames N scn ns is es = true → (assignEach es env).length = is.length ∧ (assignEach es env).findIdx? (·.1) = none
  | [], [], _ => ⟨rfl, rfl⟩
  | i :: is, e :: es, h => by
    have h' : (tgName N scn ns i e && tgNames N scn ns is es) = true := h
    rw [Bool.and_eq_true] at h'
    obtain ⟨q1, q2⟩ := each_names (env := env) h'.2
    have hh := h'.1
    cases e <;> first | (cases hh; done) | skip
    rename_i x p
    have ee : assignEach (Expr.Name x p :: es) env = (false, assign (.Name x p) env) :: assignEach es env := rfl
    rw [ee]
    refine ⟨by rw [List.length_cons, List.length_cons, q1], ?_⟩
    rw [List.findIdx?_cons]
    show (if (false : Bool) = true then some 0 else (List.findIdx? (·.1) (assignEach es env)).map fun i => i + 1) = none
    rw [if_neg Bool.false_ne_true, q2]; rfl
  | [], _ :: _, h => by cases h
  | _ :: _, [], h => by cases h
theorem pgs_names (hN : X.N = N) (nd : X.N.Nodup) (st : Sto X scn ns) : ∀ {is : List Nat} {es : List Expr}, tgNames N scn ns is es = true → PGs X es (gNames is)
  | [], [], _ => pgs_nil
  | i :: is, e :: es, h => by
    have h' : (tgName N scn ns i e && tgNames N scn ns is es) = true := h
    rw [Bool.and_eq_true] at h'
    refine pgs_cons (pg_one hN nd st h'.1) (pgs_names hN nd st h'.2) ?_
    have hh := h'.1
    cases e <;> first | (cases hh; done) | rfl
  | [], _ :: _, h => by cases h
  | _ :: _, [], h => by cases h
theorem pg_tg (hN : X.N = N) (nd : X.N.Nodup) (st : Sto X scn ns) (hc : X.calm = true) {t : Tg} {e : Expr} (h : chkT N scn ns t e = true) : PG X e (gT X.K t) := by
  cases t with
  | nm i => exact pg_one hN nd st h
  | tp is =>
    cases e <;> first | (cases h; done) | skip
    obtain ⟨h1, h2⟩ := each_names (env := X.env) (show tgNames N scn ns is _ = true from h)
    exact pg_tup hc (pgs_names hN nd st h) h1 h2
/-! ## slots -/
theorem RX.set {env : Env} {σ : L2.St} {H : Hp} {d : D} {v : V} (r : RX X Hd env σ H) (i : Nat) (rv : RV X Hd H d v) : RX X Hd (env.set i (some (false, d))) (σ.set i (some v)) H := by
  refine ⟨r.dom, by rw [List.length_set, List.length_set]; exact r.len, fun j e h => ?_, fun j e h => ?_⟩
  · by_cases hj : i = j
    · subst hj
      have hl : i < env.length := by
        have := (List.getElem?_eq_some_iff.mp h).1
        rwa [List.length_set] at this
      rw [List.getElem?_set_self hl] at h
      cases h
      exact ⟨v, List.getElem?_set_self (by rw [r.len]; exact hl), rv⟩
    · rw [List.getElem?_set_ne hj] at h
      rw [List.getElem?_set_ne hj]
      exact r.fz j e h
  · by_cases hj : i = j
    · subst hj
      have hl : i < env.length := by
        have := (List.getElem?_eq_some_iff.mp h).1
        rwa [List.length_set] at this
      rw [List.getElem?_set_self hl] at h
      cases h
    · rw [List.getElem?_set_ne hj] at h
      rw [List.getElem?_set_ne hj]
      exact r.ow j e h
theorem RX.gone {env : Env} {σ : L2.St} {H : Hp} (r : RX X Hd env σ H) (i : Nat) : RX X Hd (env.set i none) (σ.set i none) H := by
  refine ⟨r.dom, by rw [List.length_set, List.length_set]; exact r.len, fun j e h => ?_, fun j e h => ?_⟩
  · by_cases hj : i = j
    · subst hj
      have hl : i < env.length := by
        have := (List.getElem?_eq_some_iff.mp h).1
        rwa [List.length_set] at this
      rw [List.getElem?_set_self hl] at h
      cases h
    · rw [List.getElem?_set_ne hj] at h
      rw [List.getElem?_set_ne hj]
      exact r.fz j e h
  · by_cases hj : i = j
    · subst hj
      have hl : i < env.length := by
        have := (List.getElem?_eq_some_iff.mp h).1
        rwa [List.length_set] at this
      rw [List.getElem?_set_self hl] at h
      cases h
    · rw [List.getElem?_set_ne hj] at h
      rw [List.getElem?_set_ne hj]
      exact r.ow j e h
theorem RX.wipe {env : Env} {σ : L2.St} {H : Hp} (r : RX X Hd env σ H) : ∀ own : List Nat, RX X Hd (wipeE env own) (L2.wipe σ own) H
  | [] => r
  | v :: vs => (RX.wipe r vs).gone v
theorem wipe_len (σ : L2.St) : ∀ vs : List Nat, (L2.wipe σ vs).length = σ.length := L2.wipe_length σ
/-- the slots of the own names forgotten: which of them were told is forgotten too -/
theorem wipe_get (σ : L2.St) : ∀ (vs : List Nat) (j : Nat), (L2.wipe σ vs)[j]? = if j ∈ vs ∧ j < σ.length then some none else σ[j]?
  | [], j => by simp [L2.wipe]
  | v :: vs, j => by
    show ((L2.wipe σ vs).set v none)[j]? = _
    by_cases hj : v = j
    · subst hj
      by_cases hl : v < σ.length
      · rw [List.getElem?_set_self (by rw [wipe_len]; exact hl), if_pos ⟨List.mem_cons_self, hl⟩]
      · rw [List.getElem?_eq_none (by rw [List.length_set, wipe_len]; omega), if_neg (fun z => hl z.2), List.getElem?_eq_none (by omega)]
    · rw [List.getElem?_set_ne hj, wipe_get σ vs j]
      by_cases hm : j ∈ vs ∧ j < σ.length
      · rw [if_pos hm, if_pos ⟨List.mem_cons_of_mem _ hm.1, hm.2⟩]
      · rw [if_neg hm, if_neg]
        rintro ⟨h1, h2⟩
        rcases List.mem_cons.mp h1 with e | e
        · exact hj e.symm
        · exact hm ⟨e, h2⟩
theorem wipe_eq {σ σ' : L2.St} {vs : List Nat} (hl : σ.length = σ'.length) (h : ∀ j, j ∉ vs → σ[j]? = σ'[j]?) : L2.wipe σ vs = L2.wipe σ' vs := by
  apply List.ext_getElem?
  intro j
  rw [wipe_get, wipe_get, hl]
  by_cases hm : j ∈ vs ∧ j < σ'.length
  · rw [if_pos hm, if_pos hm]
  · rw [if_neg hm, if_neg hm]
    by_cases hj : j ∈ vs
    · have : ¬ j < σ'.length := fun z => hm ⟨hj, z⟩
      rw [List.getElem?_eq_none (by omega), List.getElem?_eq_none (by omega)]
    · exact h j hj
/-- a target takes its value -/
theorem g_names {H : Hp} {own : List Nat} : ∀ {is : List Nat} {ds : List D} {vs : List V} {env env' : Env} {σ : L2.St} {Q : L2.St → Hp → Prop}, bindTs is ds env = some env' → RepA X.mg X.K (hid Hd H) ds vs → RX X Hd env σ H →
    (∀ σ', RX X Hd env' σ' H → σ'.length = σ.length → (∀ j, j ∉ is → σ'[j]? = σ[j]?) → Q σ' H) → gNames is vs σ H Q
  | [], [], _, env, env', σ, Q, h, .nil, r, k => by
    cases (show some env = some env' from h)
    exact ⟨rfl, k σ r rfl fun _ _ => rfl⟩
  | i :: is, d :: ds, _, env, env', σ, Q, h, .cons rv rs, r, k => by
    refine ⟨_, _, rfl, ?_⟩
    refine g_names (own := own) (show bindTs is ds _ = some env' from h) rs (r.set i rv) fun σ' r' hl hk => k σ' r' (by rw [hl, List.length_set]) fun j hj => ?_
    rw [hk j (fun z => hj (List.mem_cons_of_mem _ z))]
    exact List.getElem?_set_ne fun (z : i = j) => hj (by rw [z]; exact List.mem_cons_self)
  | [], _ :: _, _, _, _, _, _, h, _, _, _ => by cases h
  | _ :: _, [], _, _, _, _, _, h, _, _, _ => by cases h
theorem bindTs_len : ∀ {is : List Nat} {ds : List D} {env env' : Env}, bindTs is ds env = some env' → is.length = ds.length
  | [], [], _, _, _ => rfl
  | i :: is, d :: ds, _, _, h => by rw [List.length_cons, List.length_cons, bindTs_len (is := is) (ds := ds) h]
  | [], _ :: _, _, _, h => by cases h
  | _ :: _, [], _, _, h => by cases h
theorem g_tg {H : Hp} {t : Tg} {d : D} {v : V} {env env' : Env} {σ : L2.St} {Q : L2.St → Hp → Prop} (h : bindT t d env = some env') (rv : RV X Hd H d v) (r : RX X Hd env σ H)
    (k : ∀ σ', RX X Hd env' σ' H → σ'.length = σ.length → (∀ j, j ∉ tgSl t → σ'[j]? = σ[j]?) → Q σ' H) : gT X.K t v σ H Q := by
  cases t with
  | nm i =>
    cases (show some _ = some env' from h)
    exact k _ (r.set i rv) (List.length_set ..) fun j hj => List.getElem?_set_ne fun (z : i = j) => hj (by rw [z]; exact List.mem_cons_self)
  | tp is =>
    cases rv <;> first | (cases h; done) | skip
    rename_i a vs ds h1 r1
    have h' : bindTs is ds env = some env' := h
    exact ⟨a, vs, rfl, SqT.of (hid_sub _ _ h1), by rw [← r1.length, bindTs_len h'], g_names (own := []) h' r1 r k⟩
end
end Lp
namespace Lp
open PySem L2 PyProof.Rows
/-! ## what is walked -/
def srcSem (X : Cx) (tg iter : Expr) : TI := fun σ H R => ∀ (pins : List (Addr × Obj)) (s : Shared), Inv X pins σ H s →
  wpAny (model X.prog X.w) X.A (eval iter X.env) (fun v s1 => wpAny (model X.prog X.w) X.A (pyIter v) (PIE X pins σ tg R) X.xe s1) X.xe s
theorem pi_sem {X : Cx} {tg iter : Expr} : PI X tg iter (srcSem X tg iter) := ⟨fun pins s σ H R I h => h pins s I⟩
theorem src_of {X : Cx} {tg iter : Expr} {wi : TI} (h : PI X tg iter wi) {σ : L2.St} {H : Hp} {R : It → Hp → Prop} (q : wi σ H R) : srcSem X tg iter σ H R := fun pins s I => h.run pins s σ H R I q
/-- J walks the items -/
def WalkD (X : Cx) (Hd : Addr → Bool) (H1 : Hp) (J : It) (items : List D) : Prop :=
  ∃ (G : Hp → Prop) (Y : Nat → Hp → V → Hp → Prop), Walk J items.length G Y ∧ ∀ (Hd' : Addr → Bool) (H' : Hp), Same (hid Hd H1) (hid Hd' H') → G H' ∧
    (Dom Hd' H' → ∀ i x H'', i < items.length → Y i H' x H'' → Same H' H'' ∧ ∃ d, items[i]? = some d ∧ Rep X.mg X.K (hid Hd' H'') d x)
def DenI (X : Cx) (W : WX) (tg iter : Expr) (Hd : Addr → Bool) (σ : L2.St) (H : Hp) (Q : List D → Prop) (XQ : XQ) : Prop :=
  ∀ R : It → Hp → Prop, (∀ items J H1, Q items → Same H H1 → WalkD X Hd H1 J items → R J H1) → XW X W Hd σ H XQ → srcSem X tg iter σ H R
def iterVal (X : Cx) (tg : Expr) (x : V) (H1 : Hp) (R : It → Hp → Prop) : Prop := ∀ (pins : List (Addr × Obj)) (s : Shared) (σ : L2.St) (u : Value), Inv X pins σ H1 s → RelV x u → wpAny (model X.prog X.w) X.A (pyIter u) (PIE X pins σ tg R) X.xe s
section
variable {X : Cx} {W : WX} {tg iter : Expr} {Hd : Addr → Bool} {σ : L2.St} {H H1 : Hp} {R : It → Hp → Prop}
theorem src_val (h : wpSem X iter σ H fun v H1 => iterVal X tg v H1 R) : srcSem X tg iter σ H R := fun pins s I =>
  thn (h pins s I) fun u s1 ⟨v, H1, I1, r, q⟩ => q pins s1 σ u I1 r
theorem iv_list {a : Addr} {xs : List V} (hq : SqL X.K H1 a xs) (q : R (Itl X.K a) H1) : iterVal X tg (.ref a) H1 R := by
  intro pins s1 σ u I1 r
  cases r
  obtain ⟨its, rv, p, hz⟩ := I1.list hq
  refine wpAny_pyIter_list p.isList ?_
  refine ⟨s1.heap.objs.size, [s1.heap.objs.size], _, _, H1, rfl, I1.kept (t' := s1.toks) fun b o e => Heap.get?_push_of_some _ e, turn_list a _, ⟨_, Heap.get?_push_size _ rfl, rfl, rfl⟩, fun b hb => ?_, q⟩
  have e : b = s1.heap.objs.size := by simpa using hb
  subst e
  exact I1.fpOk (Nat.le_refl _) (I1.hok.fresh (Nat.le_refl _))
theorem iv_tup {a : Addr} {xs : List V} (hq : SqT X.K H1 a xs) (q : R (Itt X.K a) H1) : iterVal X tg (.ref a) H1 R := by
  intro pins s1 σ u I1 r
  cases r
  obtain ⟨its, rv, p, hz⟩ := I1.tuple hq
  refine wpAny_pyIter_tuple (show s1.heap.IsTuple a its.toArray from p) ?_
  refine ⟨s1.heap.objs.size, [s1.heap.objs.size], _, _, H1, rfl, I1.kept (t' := s1.toks) fun b o e => Heap.get?_push_of_some _ e, turn_tuple a _, ⟨_, Heap.get?_push_size _ rfl, rfl, rfl⟩, fun b hb => ?_, q⟩
  have e : b = s1.heap.objs.size := by simpa using hb
  subst e
  exact I1.fpOk (Nat.le_refl _) (I1.hok.fresh (Nat.le_refl _))
theorem iv_str {x : Str} (q : R (Its x) H1) : iterVal X tg (.str x) H1 R := by
  intro pins s1 σ u I1 r
  obtain ⟨t, rfl⟩ := r
  cases ha : x.cps.all (· < 128)
  · exact wpAny_pyIter_wide ha (pi_one (tk := s1.toks) I1 _ (turn_str _ x t "str_iterator" (.inr rfl)) ⟨_, Heap.get?_push_size _ rfl, rfl, rfl⟩ q)
  · exact wpAny_pyIter_ascii ha (pi_one (tk := s1.toks) I1 _ (turn_str _ x t "str_ascii_iterator" (.inl rfl)) ⟨_, Heap.get?_push_size _ rfl, rfl, rfl⟩ q)
theorem walkD_list {a : Addr} {vs : List V} {ds : List D} (h : hid Hd H1 a = some (.lst vs)) (r : RepA X.mg X.K (hid Hd H1) ds vs) : WalkD X Hd H1 (Itl X.K a) ds := by
  have l := r.length
  refine ⟨_, _, by rw [l]; exact walk_list (K := X.K) (a := a) (xs := vs), fun Hd' H' s => ⟨SqL.of (hid_sub _ _ (s _ _ h)), fun dm i x H'' hi y => ?_⟩⟩
  obtain ⟨rfl, hx⟩ := y
  obtain ⟨d, h1, h2⟩ := r.get hx
  exact ⟨Same.refl _, d, h1, h2.mono s⟩
theorem walkD_tup {a : Addr} {vs : List V} {ds : List D} (h : hid Hd H1 a = some (.tup vs)) (r : RepA X.mg X.K (hid Hd H1) ds vs) : WalkD X Hd H1 (Itt X.K a) ds := by
  have l := r.length
  refine ⟨_, _, by rw [l]; exact walk_tup (K := X.K) (a := a) (xs := vs), fun Hd' H' s => ⟨SqT.of (hid_sub _ _ (s _ _ h)), fun dm i x H'' hi y => ?_⟩⟩
  obtain ⟨rfl, hx⟩ := y
  obtain ⟨d, h1, h2⟩ := r.get hx
  exact ⟨Same.refl _, d, h1, h2.mono s⟩
theorem walkD_scr {a : Addr} {ns : List Int} (h : SqL X.K (hid Hd H1) a (ns.map V.int)) : WalkD X Hd H1 (Itl X.K a) (ns.map .int) := by
  refine ⟨_, _, by rw [List.length_map, ← List.length_map (f := V.int)]; exact walk_list (K := X.K) (a := a) (xs := ns.map V.int), fun Hd' H' s => ⟨hid_sub.seq (s.seq h), fun dm i x H'' hi y => ?_⟩⟩
  obtain ⟨rfl, hx⟩ := y
  rw [List.getElem?_map] at hx
  rw [List.getElem?_map]
  cases e : ns[i]? with
  | none => rw [e] at hx; cases hx
  | some n =>
    rw [e] at hx
    cases hx
    exact ⟨Same.refl _, _, rfl, .int n⟩
theorem walkD_str {s : Str} : WalkD X Hd H1 (Its s) (chars s) := by
  have hl : (chars s).length = s.cps.size := by unfold chars; simp
  refine ⟨_, _, by rw [hl]; exact walk_str (z := s), fun Hd' H' _ => ⟨trivial, fun dm i x H'' hi y => ?_⟩⟩
  obtain ⟨rfl, c, h1, rfl⟩ := y
  refine ⟨Same.refl _, .str ⟨#[c]⟩, ?_, .str _⟩
  unfold chars
  rw [List.getElem?_map]
  have : s.cps.toList[i]? = some c := by simpa using h1
  rw [this]; rfl
theorem walkD_range {lo : Int} {n : Nat} {f : Nat → D} (hf : ∀ i : Nat, f i = .int (lo + (i : Nat))) : WalkD X Hd H1 (Itr lo n) ((List.range n).map f) := by
  refine ⟨_, _, by rw [List.length_map, List.length_range]; exact walk_range (lo := lo) (n := n), fun Hd' H' _ => ⟨trivial, fun dm i x H'' hi y => ?_⟩⟩
  obtain ⟨rfl, rfl⟩ := y
  rw [List.length_map, List.length_range] at hi
  refine ⟨Same.refl _, f i, ?_, by rw [hf]; exact .int _⟩
  rw [List.getElem?_map, List.getElem?_range hi]; rfl
theorem den_seq {Q : List D → Prop} {XQ : XQ} (h : DenV X W iter Hd σ H (fun d => opIter d Q) XQ) : DenI X W tg iter Hd σ H Q XQ := fun R k x =>
  src_val (h _ (fun d v H1 q s r => by
    cases d <;> first | exact False.elim q | skip
    · cases r; exact iv_str (k _ _ _ q s walkD_str)
    · cases r with
      | tup h1 r1 => exact iv_tup (SqT.of (hid_sub _ _ h1)) (k _ _ _ q s (walkD_tup h1 r1))
    · cases r with
      | lst h1 r1 => exact iv_list (SqL.of (hid_sub _ _ h1)) (k _ _ _ q s (walkD_list h1 r1))
    · cases r with
      | scr h1 => exact iv_list (hid_sub.seq h1) (k _ _ _ q s (walkD_scr h1))) x)
theorem den_rng {a : Expr} {p pos : Pos} {Q : List D → Prop} {XQ : XQ} (hg : Gl X "range") (hm : X.mg "range" = none) (hp : plainX a = true)
    (h : DenV X W a Hd σ H (fun d => match d with | .int j => (-(2 ^ 62) ≤ j ∧ j < 2 ^ 62) ∧ Q ((List.range j.toNat).map fun i => .int (i : Nat)) | _ => False) XQ) : DenI X W tg (.Call (.Name "range" p) [a] [] pos) Hd σ H Q XQ := fun R k x => by
  refine src_of (pi_range1 hg hm (pa_cons pe_sem pa_nil (star_ok hp)) (star_ok hp)) (h _ (fun d v H1 q s r => ?_) x)
  cases d <;> first | exact False.elim q | skip
  cases r
  obtain ⟨⟨q1, q2⟩, q⟩ := q
  exact ⟨_, rfl, q1, q2, k _ _ _ q s (walkD_range fun i => by rw [Int.zero_add])⟩
theorem den_rng2 {a b : Expr} {p pos : Pos} {Q : List D → Prop} {XQ : XQ} (hg : Gl X "range") (hm : X.mg "range" = none) (hp : plainX a = true) (hp2 : plainX b = true) {Qa : D → Prop}
    (ha : DenV X W a Hd σ H Qa XQ) (hb : ∀ x, Qa x → ∀ H1, Same H H1 → DenV X W b Hd σ H1 (fun y => match x, y with
      | .int i, .int j => (-(2 ^ 62) ≤ i ∧ i < 2 ^ 62 ∧ -(2 ^ 62) ≤ j ∧ j < 2 ^ 62) ∧ Q ((List.range (j - i).toNat).map fun k => .int (i + (k : Nat))) | _, _ => False) XQ) : DenI X W tg (.Call (.Name "range" p) [a, b] [] pos) Hd σ H Q XQ := fun R k x => by
  refine src_of (pi_range2 hg hm (pa_cons pe_sem (pa_cons pe_sem pa_nil (star_ok hp2)) (star_ok hp)) (by rw [star_ok hp, star_ok hp2]; rfl) (star_ok hp2)) (den2 (R1 := RV X Hd) RV.mono' ha hb (fun d e v u H1 q s r r2 => ?_) x)
  cases d <;> cases e <;> first | exact False.elim q | skip
  cases r; cases r2
  obtain ⟨q1, q⟩ := q
  exact ⟨_, _, rfl, q1, k _ _ _ q s (walkD_range fun i => rfl)⟩
end
end Lp
namespace Lp
open PySem L2
/-! ## reading the check -/
theorem nmOk_c {N ns i x} (h : nmOk N ns i x = true) : N[i]? = some x ∧ visB ns x = true ∧ (x == ("__debug__" : Str)) = false ∧ (x == ("__classdict__" : Str)) = false := by
  unfold nmOk at h
  simp only [Bool.and_eq_true, decide_eq_true_eq, Bool.not_eq_true'] at h
  exact ⟨h.1.1.1, h.1.1.2, h.1.2, h.2⟩
theorem glB_c {ns x} (h : glB ns x = true) : ns.lookup x = some .globalImplicit ∧ (x == ("__debug__" : Str)) = false := by
  unfold glB at h
  simp only [Bool.and_eq_true, decide_eq_true_eq, Bool.not_eq_true'] at h
  exact h
theorem vis_of {X : Cx} {ns : Nms} {x : Str} (e : X.env.scope.names = ns) (h : visB ns x = true) : Vis X.env.scope x := by
  unfold visB at h
  unfold Vis
  rw [e]
  split at h
  · exact .inl (by assumption)
  · exact .inr (.inl (by assumption))
  · exact .inr (.inr (by assumption))
  · cases h
theorem gl_of {X : Cx} {ns : Nms} {x : Str} (e : X.env.scope.names = ns) (h : ns.lookup x = some .globalImplicit) : Gl X x := by
  show X.env.scope.names.lookup x = _
  rw [e]; exact h
section
variable {T : Tab} {N : List Str} {ns : Nms} {ex : Expr} {f g k : CkE} {fs gs : CkEs} {b b2 : Bool} {xs : List Expr}
theorem i_name {i} (h : cName N i ns ex = true) : ∃ x p, ex = .Name x p ∧ nmOk N ns i x = true := by
  unfold cName at h
  split at h
  · exact ⟨_, _, rfl, h⟩
  · cases h
theorem i_const {c} (h : cConst c ns ex = true) : ∃ n p, ex = .Constant c n p := by
  unfold cConst at h
  split at h
  · have := of_decide_eq_true h
    subst this
    exact ⟨_, _, rfl⟩
  · cases h
theorem i_glb {x} (h : cGlb x ns ex = true) : ∃ p, ex = .Name x p ∧ glB ns x = true := by
  unfold cGlb at h
  split at h
  · simp only [Bool.and_eq_true, decide_eq_true_eq] at h
    obtain ⟨rfl, h⟩ := h
    exact ⟨_, rfl, h⟩
  · cases h
theorem i_bin {o} (h : cBin o b f g ns ex = true) : ∃ l r p, ex = .BinOp l (boP o) r p ∧ b = true ∧ f ns l = true ∧ g ns r = true := by
  unfold cBin at h
  split at h
  · simp only [Bool.and_eq_true, decide_eq_true_eq] at h
    obtain ⟨⟨⟨rfl, h1⟩, h2⟩, h3⟩ := h
    exact ⟨_, _, _, rfl, h1, h2, h3⟩
  · cases h
theorem i_neg (h : cNeg b f ns ex = true) : ∃ l p, ex = .UnaryOp .USub l p ∧ b = true ∧ f ns l = true := by
  unfold cNeg at h
  split at h
  · simp only [Bool.and_eq_true] at h
    exact ⟨_, _, rfl, h.1, h.2⟩
  · cases h
theorem i_not (h : cNot b f ns ex = true) : ∃ l p, ex = .UnaryOp .Not l p ∧ b = true ∧ f ns l = true := by
  unfold cNot at h
  split at h
  · simp only [Bool.and_eq_true] at h
    exact ⟨_, _, rfl, h.1, h.2⟩
  · cases h
theorem i_cmp {o} (h : cCmp o f g ns ex = true) : ∃ l r p, ex = .Compare l [coP o] [r] p ∧ behindInMarks (coP o) r = false ∧ f ns l = true ∧ g ns r = true := by
  unfold cCmp at h
  split at h
  · simp only [Bool.and_eq_true, decide_eq_true_eq, Bool.not_eq_true'] at h
    obtain ⟨⟨⟨rfl, h1⟩, h2⟩, h3⟩ := h
    exact ⟨_, _, _, rfl, h1, h2, h3⟩
  · cases h
theorem i_chain {o p} (h : cChain o p f g k ns ex = true) : ∃ l r t q, ex = .Compare l [coP o, coP p] [r, t] q ∧ behindInMarks (coP o) r = false ∧ behindInMarks (coP p) t = false ∧ f ns l = true ∧ g ns r = true ∧ k ns t = true := by
  unfold cChain at h
  split at h
  · simp only [Bool.and_eq_true, decide_eq_true_eq, Bool.not_eq_true'] at h
    obtain ⟨⟨⟨⟨⟨⟨rfl, rfl⟩, h1⟩, h2⟩, h3⟩, h4⟩, h5⟩ := h
    exact ⟨_, _, _, _, rfl, h1, h2, h3, h4, h5⟩
  · cases h
theorem i_din {o} (h : cDin o b f g ns ex = true) : ∃ l r p, ex = .Compare l [o] [r] p ∧ behindInMarks o r = false ∧ b = true ∧ f ns l = true ∧ g ns r = true := by
  unfold cDin at h
  split at h
  · simp only [Bool.and_eq_true, decide_eq_true_eq, Bool.not_eq_true'] at h
    obtain ⟨⟨⟨⟨rfl, h1⟩, h2⟩, h3⟩, h4⟩ := h
    exact ⟨_, _, _, rfl, h1, h2, h3, h4⟩
  · cases h
theorem i_bool {o} (h : cBool o f g ns ex = true) : ∃ x y r p, ex = .BoolOp o (x :: y :: r) p ∧ f ns x = true ∧ ((r = [] ∧ g ns y = true) ∨ (r ≠ [] ∧ g ns (.BoolOp o (y :: r) p) = true)) := by
  unfold cBool at h
  split at h
  · simp only [Bool.and_eq_true, decide_eq_true_eq] at h
    obtain ⟨⟨rfl, h1⟩, h2⟩ := h
    refine ⟨_, _, _, _, rfl, h1, ?_⟩
    split at h2
    · exact .inl ⟨rfl, by rw [Bool.and_eq_true] at h2; exact h2.2⟩
    · exact .inr ⟨by simp, h2⟩
  · cases h
theorem i_ife (h : cIfe b f g k ns ex = true) : ∃ t x y p, ex = .IfExp t x y p ∧ b = true ∧ f ns t = true ∧ g ns x = true ∧ k ns y = true := by
  unfold cIfe at h
  split at h
  · simp only [Bool.and_eq_true] at h
    exact ⟨_, _, _, _, rfl, h.1.1.1, h.1.1.2, h.1.2, h.2⟩
  · cases h
theorem i_ix (h : cIx b f g ns ex = true) : ∃ x y p, ex = .Subscript x y p ∧ plainX y = true ∧ b = true ∧ f ns x = true ∧ g ns y = true := by
  unfold cIx at h
  split at h
  · simp only [Bool.and_eq_true] at h
    exact ⟨_, _, _, rfl, h.1.1.1, h.1.1.2, h.1.2, h.2⟩
  · cases h
theorem i_slu (h : cSlu f g ns ex = true) : ∃ x z p q, ex = .Subscript x (.Slice none (some z) none q) p ∧ f ns x = true ∧ g ns z = true := by
  unfold cSlu at h
  split at h
  · simp only [Bool.and_eq_true] at h
    exact ⟨_, _, _, _, rfl, h.1, h.2⟩
  · cases h
theorem i_sll (h : cSll f g ns ex = true) : ∃ x z p q, ex = .Subscript x (.Slice (some z) none none q) p ∧ f ns x = true ∧ g ns z = true := by
  unfold cSll at h
  split at h
  · simp only [Bool.and_eq_true] at h
    exact ⟨_, _, _, _, rfl, h.1, h.2⟩
  · cases h
theorem i_slb (h : cSlb f g k ns ex = true) : ∃ x y z p q, ex = .Subscript x (.Slice (some y) (some z) none q) p ∧ f ns x = true ∧ g ns y = true ∧ k ns z = true := by
  unfold cSlb at h
  split at h
  · simp only [Bool.and_eq_true] at h
    exact ⟨_, _, _, _, _, rfl, h.1.1, h.1.2, h.2⟩
  · cases h
theorem i_rev (h : cRev f ns ex = true) : ∃ x m p1 p2 p3 p, ex = .Subscript x (.Slice none none (some (.UnaryOp .USub (.Constant (.int 1) m p1) p2)) p3) p ∧ f ns x = true := by
  unfold cRev at h
  split at h
  · simp only [Bool.and_eq_true, decide_eq_true_eq] at h
    obtain ⟨rfl, h⟩ := h
    exact ⟨_, _, _, _, _, _, rfl, h⟩
  · cases h
theorem i_tup (h : cTup fs ns ex = true) : ∃ xs m p, ex = .Tuple xs m p ∧ fs ns xs = true := by
  unfold cTup at h
  split at h
  · exact ⟨_, _, _, rfl, h⟩
  · cases h
theorem i_lst (h : cLst fs ns ex = true) : ∃ xs p, ex = .List xs p ∧ fs ns xs = true := by
  unfold cLst at h
  split at h
  · exact ⟨_, _, rfl, h⟩
  · cases h
theorem i_dnew (h : cDnew ns ex = true) : ∃ p, ex = .Dict [] [] p := by
  unfold cDnew at h
  split at h
  · exact ⟨_, rfl⟩
  · cases h
theorem i_call {x} (h : cCall x fs ns ex = true) : ∃ xs p q, ex = .Call (.Name x p) xs [] q ∧ glB ns x = true ∧ noStar xs = true ∧ fs ns xs = true := by
  unfold cCall at h
  split at h
  · simp only [Bool.and_eq_true, decide_eq_true_eq] at h
    obtain ⟨⟨⟨rfl, h1⟩, h2⟩, h3⟩ := h
    exact ⟨_, _, _, rfl, h1, h2, h3⟩
  · cases h
theorem i_meth {m} (h : cMeth m b f fs ns ex = true) : ∃ x xs p q, ex = .Call (.Attribute x m p) xs [] q ∧ baseX x = true ∧ noStar xs = true ∧ ((p.endLine == q.line) = true ∧ xs.length < 30) ∧ b = true ∧ f ns x = true ∧ fs ns xs = true := by
  unfold cMeth at h
  split at h
  · simp only [Bool.and_eq_true, decide_eq_true_eq] at h
    obtain ⟨⟨⟨⟨⟨⟨rfl, h1⟩, h2⟩, h6⟩, h3⟩, h4⟩, h5⟩ := h
    exact ⟨_, _, _, _, rfl, h1, h2, h6, h3, h4, h5⟩
  · cases h
theorem i_fld {n} (h : cFld n b f ns ex = true) : ∃ x p, ex = .Attribute x n p ∧ baseX x = true ∧ b = true ∧ f ns x = true := by
  unfold cFld at h
  split at h
  · simp only [Bool.and_eq_true, decide_eq_true_eq] at h
    obtain ⟨⟨⟨rfl, h1⟩, h2⟩, h3⟩ := h
    exact ⟨_, _, rfl, h1, h2, h3⟩
  · cases h
theorem i_isi {t} (h : cIsi t f ns ex = true) : ∃ x p q r, ex = .Call (.Name "isinstance" p) [x, .Name t q] [] r ∧ glB ns "isinstance" = true ∧ glB ns t = true ∧ plainX x = true ∧ f ns x = true := by
  unfold cIsi at h
  split at h
  · simp only [Bool.and_eq_true, decide_eq_true_eq] at h
    obtain ⟨⟨⟨⟨⟨rfl, rfl⟩, h1⟩, h2⟩, h3⟩, h4⟩ := h
    exact ⟨_, _, _, _, rfl, h1, h2, h3, h4⟩
  · cases h
theorem i_join (h : cJoin b f g ns ex = true) : ∃ x z ap p, ex = .Call (.Attribute x "join" ap) [z] [] p ∧ baseX x = true ∧ plainX z = true ∧ (ap.endLine == p.line) = true ∧ b = true ∧ f ns x = true ∧ g ns z = true := by
  unfold cJoin at h
  split at h
  · simp only [Bool.and_eq_true, decide_eq_true_eq] at h
    obtain ⟨⟨⟨⟨⟨⟨rfl, h1⟩, h2⟩, h3⟩, h4⟩, h5⟩, h6⟩ := h
    exact ⟨_, _, _, _, rfl, h1, h2, h3, h4, h5, h6⟩
  · cases h
theorem i_dget (h : cDget b f g k ns ex = true) : ∃ o z u ap p, ex = .Call (.Attribute o "get" ap) [z, u] [] p ∧ baseX o = true ∧ plainX z = true ∧ plainX u = true ∧ (ap.endLine == p.line) = true ∧ b = true ∧ f ns o = true ∧ g ns z = true ∧ k ns u = true := by
  unfold cDget at h
  split at h
  · simp only [Bool.and_eq_true, decide_eq_true_eq] at h
    obtain ⟨⟨⟨⟨⟨⟨⟨⟨rfl, h1⟩, h2⟩, h3⟩, h4⟩, h5⟩, h6⟩, h7⟩, h8⟩ := h
    exact ⟨_, _, _, _, _, rfl, h1, h2, h3, h4, h5, h6, h7, h8⟩
  · cases h
theorem i_cons (h : cCons b f fs ns xs = true) : ∃ x r, xs = x :: r ∧ b = true ∧ plainX x = true ∧ f ns x = true ∧ fs ns r = true := by
  unfold cCons at h
  split at h
  · simp only [Bool.and_eq_true] at h
    exact ⟨_, _, rfl, h.1.1.1, h.1.1.2, h.1.2, h.2⟩
  · cases h
theorem i_nil (h : cNil ns xs = true) : xs = [] := by
  unfold cNil at h
  split at h
  · rfl
  · cases h
theorem i_rng (h : cRng b f ns ex = true) : ∃ x p q, ex = .Call (.Name "range" p) [x] [] q ∧ glB ns "range" = true ∧ plainX x = true ∧ b = true ∧ f ns x = true := by
  unfold cRng at h
  split at h
  · simp only [Bool.and_eq_true, decide_eq_true_eq] at h
    obtain ⟨⟨⟨⟨rfl, h1⟩, h2⟩, h3⟩, h4⟩ := h
    exact ⟨_, _, _, rfl, h1, h2, h3, h4⟩
  · cases h
theorem i_rng2 (h : cRng2 b f g ns ex = true) : ∃ x z p q, ex = .Call (.Name "range" p) [x, z] [] q ∧ glB ns "range" = true ∧ plainX x = true ∧ plainX z = true ∧ b = true ∧ f ns x = true ∧ g ns z = true := by
  unfold cRng2 at h
  split at h
  · simp only [Bool.and_eq_true, decide_eq_true_eq] at h
    obtain ⟨⟨⟨⟨⟨⟨rfl, h1⟩, h2⟩, h3⟩, h4⟩, h5⟩, h6⟩ := h
    exact ⟨_, _, _, _, rfl, h1, h2, h3, h4, h5, h6⟩
  · cases h
theorem i_lc {own t kc} {c e si : CkE} (h : cLc N own t b b2 kc si c e ns ex = true) : ∃ elt tg iter ifs scope p, ex = .ListComp elt [⟨tg, iter, ifs, 0⟩] scope p ∧ blkC N (mkS ns) scope (ownN N own) = true ∧ (ownN N own).map (·.2) = own ∧ tgIn own t = true ∧
    chkT N scope.names (relN scope.names ns) t tg = true ∧ noSet iter = true ∧ si ns iter = true ∧ cIfs b2 kc c (relN scope.names ns) ifs = true ∧ b = true ∧ e (relN scope.names ns) elt = true := by
  unfold cLc at h
  split at h
  · simp only [Bool.and_eq_true, decide_eq_true_eq] at h
    obtain ⟨⟨⟨⟨⟨⟨⟨rfl, h1⟩, h2⟩, h3⟩, h4⟩, h5⟩, h6⟩, ⟨h7, h8⟩, h9⟩ := h
    exact ⟨_, _, _, _, _, _, rfl, h1, h2, h3, h4, h5, h6, h7, h8, h9⟩
  · cases h
end
end Lp
namespace Lp
open PySem L2
/-! ## more rules: calls at the caller's slots, semantic operators -/
def opSem (X : Cx) (f : Value → Value → Sem Value) : R2 := fun x y H Q => ∀ (pins : List (Addr × Obj)) (s : Shared) (σ : L2.St) (v u : Value), Inv X pins σ H s → RelV x v → RelV y u → wpAny (model X.prog X.w) X.A (f v u) (EP X pins σ Q) X.xe s
theorem opR_sem {X : Cx} {f : Value → Value → Sem Value} : OpR X f (opSem X f) := fun pins s σ H x y v u Q I rx ry h => h pins s σ v u I rx ry
theorem pw_sem {X : Cx} {op : BoolOp} {vs : List Expr} {p : Pos} : PW X (.BoolOp op vs p) (wpTst X (.BoolOp op vs p)) := ⟨fun wh pins s σ H Q I h => h pins s I⟩
section
variable {X : Cx} {CX : CXT} {k : Nat} {f C : Addr} {fd : FuncData} {ps : List Str} {sp : Sp} {E : L2.St → XK} {x m : Str} {p pos apos : Pos} {e o : Expr} {es : List Expr} {ta : TE} {t : TA}
theorem pe_callS0 (F : FnOk X.prog X.w X.K X.mg X.base CX k f fd ps sp) (hr : Room k X.A) (hg : Gl X x) (hm : X.mg x = some (.ref f)) (hk : PySem.W.keepIn X.K (.ref f) = true) (hb : Binds X.K fd ps []) (hx : ∀ σ, PassesAt CX X σ (E σ))
    (hdb : (x == ("__debug__" : Str)) = false := by decide) : PE X (.Call (.Name x p) [] [] pos) (tCallS sp E tNil) := by
  refine ⟨fun pins s σ H Q I h => ?_⟩
  refine wpAny_Call_Name_kw (ld_glob I hg hm ?_ hdb)
  exact PySem.W.callWith_K0 I.kIn hk (run_fnS (us := []) F hr hb (hx σ) I .nil h)
theorem run_makeS {pins : List (Addr × Obj)} {σ : L2.St} {H : Hp} {s : Shared} {Q : VK} {us : List Value} {vs : List V} (M : Mk X.K C f) (F : FnOk X.prog X.w X.K X.mg X.base CX k f fd ps sp) (hr : Room (k + 1) X.A) (hb : Binds X.K fd ps [])
    (hx : PassesAt CX X σ (E σ)) (I : Inv X pins σ H s) (r : Vals vs us)
    (h : ∀ x dx, H x = none → H dx = none → dx ≠ x → sp (.ref x :: vs) (upd (upd H dx (.own x)) x (.ins C dx [])) (fun v H2 => v = .non ∧ Q (.ref x) H2) (E σ)) :
    wpAny (model X.prog X.w) X.A (call (.ref C) us) (EP X pins σ Q) X.xe s := by
  have hq := h (s.heap.objs.size + 1) s.heap.objs.size (I.hok.fresh (Nat.le_succ _)) (I.hok.fresh (Nat.le_refl _)) (Nat.ne_of_lt (Nat.lt_succ_self _))
  have I2 := Inv.made (C := C) I
  have r2 : Vals (V.ref (s.heap.objs.size + 1) :: vs) (Value.ref (s.heap.objs.size + 1) :: us) := .cons rfl r
  have hl : (Value.ref (s.heap.objs.size + 1) :: us).length = ps.length := by
    have e := r2.length
    rw [F.len _ _ _ _ hq] at e
    exact e.symm
  have b := fun (s' : Shared) (k' : X.K.In s'.heap) => hb s' (Value.ref (s.heap.objs.size + 1) :: us) k' (by rw [List.append_nil]; exact hl)
  simp only [List.append_nil] at b
  refine wpAny_call (make_map (f := f) I.kIn M.makes M.init (beq_iff_eq.mp M.fn) (codeAny_mono (F.run _ X.stack _ _ ⟨Value.ref (s.heap.objs.size + 1) :: us, []⟩ (Value.ref (s.heap.objs.size + 1) :: us) _ _ (E σ) (hr.make C us [])
    (I2.env0.make C us []) (b _ I2.kIn) r2 hq) fun r s' hq' => ?_))
  cases r with
  | error e => exact hx pins _ _ e s' I2 hq'
  | ok fl =>
    cases fl with
    | ret u =>
      obtain ⟨v, H', I3, rv, ev, q3⟩ := I2.after hq'
      subst ev
      exact ⟨rv, ⟨V.ref (s.heap.objs.size + 1), H', I3, rfl, q3⟩⟩
    | next => exact False.elim hq'
    | brk => exact False.elim hq'
    | cont => exact False.elim hq'
def tMakeS (C : Addr) (sp : Sp) (E : L2.St → XK) (t : TA) : TE := fun σ H Q => t σ H fun vs H1 => ∀ x dx, H1 x = none → H1 dx = none → dx ≠ x →
  sp (.ref x :: vs) (upd (upd H1 dx (.own x)) x (.ins C dx [])) (fun v H2 => v = .non ∧ Q (.ref x) H2) (E σ)
theorem pe_makeS (M : Mk X.K C f) (F : FnOk X.prog X.w X.K X.mg X.base CX k f fd ps sp) (hr : Room (k + 1) X.A) (hg : Gl X x) (hm : X.mg x = some (.ref C)) (hb : Binds X.K fd ps []) (hx : ∀ σ, PassesAt CX X σ (E σ))
    (ha : PA X (e :: es) t) (hdb : (x == ("__debug__" : Str)) = false := by decide) (he : starEach (e :: es) X.env = (false, eval e X.env) :: starEach es X.env := by rfl) (hpl : (backTo pos (starEach es X.env)).any (·.1) = false := by rfl) :
    PE X (.Call (.Name x p) (e :: es) [] pos) (tMakeS C sp E t) := by
  refine ⟨fun pins s σ H Q I h => ?_⟩
  refine wpAny_Call_Name_kw (ld_glob I hg hm ?_ hdb)
  refine PySem.W.callWith_K (h₀ := X.base) I.ok.mod.kin M.kp (thn (ha.run pos pins s σ H _ I h) fun us s1 ⟨vs, H1, I1, r, q⟩ => ⟨I1.kIn, ?_⟩) he hpl
  exact run_makeS M F hr hb (hx σ) I1 r q
theorem pe_makeS0 (M : Mk X.K C f) (F : FnOk X.prog X.w X.K X.mg X.base CX k f fd ps sp) (hr : Room (k + 1) X.A) (hg : Gl X x) (hm : X.mg x = some (.ref C)) (hb : Binds X.K fd ps []) (hx : ∀ σ, PassesAt CX X σ (E σ))
    (hdb : (x == ("__debug__" : Str)) = false := by decide) : PE X (.Call (.Name x p) [] [] pos) (tMakeS C sp E tNil) := by
  refine ⟨fun pins s σ H Q I h => ?_⟩
  refine wpAny_Call_Name_kw (ld_glob I hg hm ?_ hdb)
  exact PySem.W.callWith_K0 I.kIn M.kp (run_makeS (us := []) M F hr hb (hx σ) I .nil h)
def tMethS (C : Addr) (m : Str) (sp : Sp) (E : L2.St → XK) (ta : TE) (t : TA) : TE := fun σ H Q => ta σ H fun x H1 => ∃ a dx fs, x = .ref a ∧ H1 a = some (.ins C dx fs) ∧ fs.lookup m = none ∧
  t σ H1 fun vs H2 => sp (x :: vs) H2 Q (E σ)
theorem pe_methS {pl : Sem Bool} (he : PE X o ta) (c : Cls X.K C) (hm : Meth X.K C m f) (F : FnOk X.prog X.w X.K X.mg X.base CX k f fd ps sp) (hr : Room k X.A) (hb : Binds X.K fd ps []) (hx : ∀ σ, PassesAt CX X σ (E σ)) (ha : PA X (e :: es) t)
    (hst : starEach (e :: es) X.env = (false, eval e X.env) :: starEach es X.env := by rfl) (hpl : (backTo pos (starEach es X.env)).any (·.1) = false := by rfl)
    (ht : eval (.Call (.Attribute o m apos) (e :: es) [] pos) X.env = (do
      let ov ← eval o X.env
      standAt apos.atName
      let (f, first) ← holding [ov] (getMethod ov m pl)
      callWith pos f first (backTo pos (starEach (e :: es) X.env)) (backToKw pos (keywordEach [] X.env))) := by rfl) :
    PE X (.Call (.Attribute o m apos) (e :: es) [] pos) (tMethS C m sp E ta t) := by
  refine ⟨fun pins s σ H Q I h => ?_⟩
  refine PySem.W.methodCall_KW (pl := pl) (thn (he.run pins s σ H _ I h) fun u s1 ⟨x, H1, I1, rx, a, dx, fs, ex, ea, l, q⟩ => ?_) ht
  subst ex
  obtain rfl : u = Value.ref a := rx
  refine getmeth_ok I1 ea c hm l ?_
  refine PySem.W.callWith_K (first := [.ref a]) (h₀ := X.base) I.ok.mod.kin hm.kp (thn (ha.run pos pins s1 σ H1 _ I1 q) fun us s2 ⟨vs, H2, I2, r, q2⟩ => ⟨I2.kIn, ?_⟩) hst hpl
  exact run_fnS (us := .ref a :: us) (vs := .ref a :: vs) F hr hb (hx σ) I2 (.cons rfl r) q2
end
section
variable {X : Cx} {CX : CXT} {k : Nat} {f C : Addr} {fd : FuncData} {ps : List Str} {sp : Sp} {E : L2.St → XK} {m : Str} {pos apos : Pos} {o : Expr} {ta : TE}
theorem pe_methS0 {pl : Sem Bool} (he : PE X o ta) (c : Cls X.K C) (hm : Meth X.K C m f) (F : FnOk X.prog X.w X.K X.mg X.base CX k f fd ps sp) (hr : Room k X.A) (hb : Binds X.K fd ps []) (hx : ∀ σ, PassesAt CX X σ (E σ))
    (ht : eval (.Call (.Attribute o m apos) [] [] pos) X.env = (do
      let ov ← eval o X.env
      standAt apos.atName
      let (f, first) ← holding [ov] (getMethod ov m pl)
      callWith pos f first (backTo pos (starEach [] X.env)) (backToKw pos (keywordEach [] X.env)))) :
    PE X (.Call (.Attribute o m apos) [] [] pos) (tMethS C m sp E ta tNil) := by
  refine ⟨fun pins s σ H Q I h => ?_⟩
  refine PySem.W.methodCall_KW (pl := pl) (thn (he.run pins s σ H _ I h) fun u s1 ⟨x, H1, I1, rx, a, dx, fs, ex, ea, l, q⟩ => ?_) ht
  subst ex
  obtain rfl : u = Value.ref a := rx
  refine getmeth_ok I1 ea c hm l ?_
  exact PySem.W.callWith_K0 (first := [.ref a]) I1.kIn hm.kp (run_fnS (us := [.ref a]) (vs := [.ref a]) F hr hb (hx σ) I1 (.cons rfl .nil) q)
end
/-! ## arguments -/
def argSem (X : Cx) (es : List Expr) : TA := fun σ H Q => ∀ (pos : Pos) (pins : List (Addr × Obj)) (s : Shared), Inv X pins σ H s → wpAny (model X.prog X.w) X.A (spliced (backTo pos (starEach es X.env))) (AP X pins σ Q) X.xe s
theorem pa_sem {X : Cx} {es : List Expr} : PA X es (argSem X es) := ⟨fun pos pins s σ H Q I h => h pos pins s I⟩
theorem arg_of {X : Cx} {es : List Expr} {t : TA} (h : PA X es t) {σ : L2.St} {H : Hp} {Q : List V → Hp → Prop} (q : t σ H Q) : argSem X es σ H Q := fun pos pins s I => h.run pos pins s σ H Q I q
def DenAG (R : Hp → List D → List V → Prop) (X : Cx) (W : WX) (es : List Expr) (Hd : Addr → Bool) (σ : L2.St) (H : Hp) (Q : List D → Prop) (XQ : XQ) : Prop :=
  ∀ Qs : List V → Hp → Prop, (∀ ds vs H', Q ds → Same H H' → R H' ds vs → Qs vs H') → XW X W Hd σ H XQ → argSem X es σ H Qs
abbrev DenA (X : Cx) (W : WX) (es : List Expr) (Hd : Addr → Bool) (σ : L2.St) (H : Hp) (Q : List D → Prop) (XQ : XQ) : Prop := DenAG (fun H' ds vs => RepA X.mg X.K (hid Hd H') ds vs) X W es Hd σ H Q XQ
abbrev DenAB (X : Cx) (W : WX) (es : List Expr) (Hd : Addr → Bool) (σ : L2.St) (H : Hp) (Q : List D → Prop) (XQ : XQ) : Prop := DenAG (fun H' ds vs => RTA X Hd H' ds vs) X W es Hd σ H Q XQ
section
variable {X : Cx} {W : WX} {e : Expr} {es : List Expr} {Hd : Addr → Bool} {σ : L2.St} {H : Hp} {XQ : XQ}
theorem denA_nil {Q : List D → Prop} (q : Q []) : DenA X W [] Hd σ H Q XQ := fun Qs k _ => arg_of pa_nil (k _ _ H q (Same.refl H) .nil)
theorem denAB_nil {Q : List D → Prop} (q : Q []) : DenAB X W [] Hd σ H Q XQ := fun Qs k _ => arg_of pa_nil (k _ _ H q (Same.refl H) .nil)
theorem denA_cons {Q : List D → Prop} (hp : plainX e = true) (ha : DenV X W e Hd σ H Qa XQ) (hb : ∀ x, Qa x → ∀ H1, Same H H1 → DenA X W es Hd σ H1 (fun ds => Q (x :: ds)) XQ) : DenA X W (e :: es) Hd σ H Q XQ := fun Qs k xw =>
  arg_of (pa_cons pe_sem pa_sem (star_ok hp)) (ha _ (fun d v H1 q s r => hb d q H1 s _ (fun ds vs H2 q2 s2 r2 => k _ _ H2 q2 (s.trans s2) (.cons (RV.mono' s2 r) r2)) (xw.mono s)) xw)
theorem denAB_cons {Q : List D → Prop} (hp : plainX e = true) (ha : DenT X W e Hd σ H Qa XQ) (hb : ∀ x, Qa x → ∀ H1, Same H H1 → DenAB X W es Hd σ H1 (fun ds => Q (x :: ds)) XQ) : DenAB X W (e :: es) Hd σ H Q XQ := fun Qs k xw =>
  arg_of (pa_cons pe_sem pa_sem (star_ok hp)) (ha _ (fun d v H1 q s r => hb d q H1 s _ (fun ds vs H2 q2 s2 r2 => k _ _ H2 q2 (s.trans s2) (.cons (RT.mono' s2 r) r2)) (xw.mono s)) xw)
end
/-! ## the block of a comprehension -/
theorem relN_of {sc scope : Scope} {ns : Nms} (hk : sc.kind = .function) (hn : sc.names = ns) : (L2.relS scope sc).names = relN scope.names ns := by
  unfold L2.relS relN
  rw [hk, hn]
  apply List.map_congr_left
  intro y _
  obtain ⟨n, k⟩ := y
  simp
theorem blk_names {X : Cx} {ns scn : Nms} {scope : Scope} {cl : List (Str × Addr)} {C : Addr} (hk : X.env.scope.kind = .function) (hn : X.env.scope.names = ns) : (compEnvC scope cl C X.env).scope.names = relN scope.names ns :=
  relN_of hk hn
section
variable {T : Tab} {lvl : Nat} {N : List Str} {ns : Nms} {X : Cx} {W : WX}
theorem Good.blk (g : Good T lvl N ns X W) {scope : Scope} (hs : scope.kind = .function) (s : Shared) (H : Hp) (C : Addr) (cl : List (Str × Addr)) (fp : List Addr) :
    Good T lvl N (relN scope.names ns) (X.blk s H scope (compEnvC scope cl C X.env) fp) (fun _ _ _ _ => False) where
  tab := g.tab
  hN := g.hN
  nd := g.nd
  names := blk_names (scn := []) g.kind g.names
  kind := hs
  calm := g.calm
  room := g.room
  takes := takes0
  own := PassesOwn.never
theorem Good.sto (g : Good T lvl N ns X W) {scope : Scope} (s : Shared) (H : Hp) (C : Addr) (cl : List (Str × Addr)) (fp : List Addr) : Sto (X.blk s H scope (compEnvC scope cl C X.env) fp) scope.names (relN scope.names ns) :=
  ⟨blk_names (scn := []) g.kind g.names, fun x _ h => by
    show (scope.names.lookup x == some .cell) = true
    rw [h]; rfl⟩
theorem blkOk_of (hn : X.env.scope.names = ns) {scope : Scope} {own : List (Str × Nat)} (h : blkC N (mkS ns) scope own = true) : BlkOk N X.env.scope scope own := by
  have b := blkOk_by h
  refine ⟨b.kind, b.uniq, b.ix, fun y hy e => ?_, b.own⟩
  rw [hn]
  exact b.free y hy e
end
theorem RX.addNew {X : Cx} {Hd : Addr → Bool} {env : Env} {σ : L2.St} {H H' : Hp} {D : Addr} {o : HO} (r : RX X Hd env σ H) (hD : H D = none) (s : Same H H') (hD' : H' D = some o) : RX X (addH Hd D) env σ H' := by
  have sub : Same (hid Hd H) (hid (addH Hd D) H') := fun a u h => by
    obtain ⟨h1, h2⟩ := of_hid h
    have hn : a ≠ D := fun e => by rw [e, hD] at h1; cases h1
    rw [hid_off (by rw [addH_ne hn]; exact h2)]
    exact s a u h1
  exact ⟨(r.dom.mono s).add' hD', r.len, fun i d h => let ⟨v, h1, h2⟩ := r.fz i d h; ⟨v, h1, h2.mono sub⟩, fun i d h => let ⟨v, h1, h2⟩ := r.ow i d h; ⟨v, h1, h2.mono s sub⟩⟩
end Lp
namespace Lp
open PySem L2
/-! ## soundness -/
def SE (T : Tab) (N : List Str) (e : E) : Prop := ∀ {lvl : Nat} {ns : Nms} {X : Cx} {W : WX}, Good T lvl N ns X W → ∀ {ex : Expr}, chkE N e ns ex = true → ∀ {Hd : Addr → Bool} {env : Env} {σ : L2.St} {H : Hp}, RX X Hd env σ H →
  ∀ {Q : D → Prop} {XQ : XQ}, wpE T e env Q XQ → (nb e = true → DenV X W ex Hd σ H Q XQ) ∧ DenT X W ex Hd σ H Q XQ ∧ (fresh e = true → DenO X W ex Hd σ H Q XQ) ∧ (tb e = true → DenB X W ex Hd σ H Q XQ)
def SA (T : Tab) (N : List Str) (es : Es) : Prop := ∀ {lvl : Nat} {ns : Nms} {X : Cx} {W : WX}, Good T lvl N ns X W → ∀ {xs : List Expr}, chkEs N es ns xs = true → ∀ {Hd : Addr → Bool} {env : Env} {σ : L2.St} {H : Hp}, RX X Hd env σ H →
  ∀ {Q : List D → Prop} {XQ : XQ}, wpEs T es env Q XQ → DenA X W xs Hd σ H Q XQ
def SB (T : Tab) (N : List Str) (es : Es) : Prop := ∀ {lvl : Nat} {ns : Nms} {X : Cx} {W : WX}, Good T lvl N ns X W → ∀ {xs : List Expr}, chkBs N es ns xs = true → ∀ {Hd : Addr → Bool} {env : Env} {σ : L2.St} {H : Hp}, RX X Hd env σ H →
  ∀ {Q : List D → Prop} {XQ : XQ}, wpEs T es env Q XQ → DenAB X W xs Hd σ H Q XQ
def SI (T : Tab) (N : List Str) (it : Src) : Prop := ∀ {lvl : Nat} {ns : Nms} {X : Cx} {W : WX}, Good T lvl N ns X W → ∀ {iter : Expr}, chkI N it ns iter = true → ∀ {Hd : Addr → Bool} {env : Env} {σ : L2.St} {H : Hp}, RX X Hd env σ H →
  ∀ {Q : List D → Prop} {XQ : XQ} (tg : Expr), wpSrc T it env Q XQ → DenI X W tg iter Hd σ H Q XQ
section
variable {X : Cx} {W : WX} {e a b c : Expr} {Hd : Addr → Bool} {σ : L2.St} {H : Hp} {Q : D → Prop} {XQ : XQ} {en : E}
theorem four (h : DenV X W e Hd σ H Q XQ) (hf : fresh en = false) (he : ∀ whole, isTrue e X.env whole = (do let v ← whole; standAt e.pos; holding [v] (truthy v))) :
    (nb en = true → DenV X W e Hd σ H Q XQ) ∧ DenT X W e Hd σ H Q XQ ∧ (fresh en = true → DenO X W e Hd σ H Q XQ) ∧ (tb en = true → DenB X W e Hd σ H Q XQ) :=
  ⟨fun _ => h, h.top, fun q => (Bool.false_ne_true (hf.symm.trans q)).elim, fun _ => h.top.tst he⟩
theorem fourO (dm : Dom Hd H) (h : DenO X W e Hd σ H Q XQ) (he : ∀ whole, isTrue e X.env whole = (do let v ← whole; standAt e.pos; holding [v] (truthy v))) :
    (nb en = true → DenV X W e Hd σ H Q XQ) ∧ DenT X W e Hd σ H Q XQ ∧ (fresh en = true → DenO X W e Hd σ H Q XQ) ∧ (tb en = true → DenB X W e Hd σ H Q XQ) :=
  ⟨fun _ => h.val dm, (h.val dm).top, fun _ => h, fun _ => (h.val dm).top.tst he⟩
/-- with a test of its own -/
theorem fourB (h : DenV X W e Hd σ H Q XQ) (hf : fresh en = false) (hb : tb en = true → DenB X W e Hd σ H Q XQ) :
    (nb en = true → DenV X W e Hd σ H Q XQ) ∧ DenT X W e Hd σ H Q XQ ∧ (fresh en = true → DenO X W e Hd σ H Q XQ) ∧ (tb en = true → DenB X W e Hd σ H Q XQ) :=
  ⟨fun _ => h, h.top, fun q => (Bool.false_ne_true (hf.symm.trans q)).elim, hb⟩
theorem den_const {v : V} {d : D} (h : PE X e (tC v)) (r : ∀ F, Rep X.mg X.K F d v) (q : Q d) : DenV X W e Hd σ H Q XQ := fun Qs k _ => sem_of h (k d v H q (Same.refl H) (r _))
theorem and_c {p q : Bool} (h : (p && q) = true) : p = true ∧ q = true := by rwa [Bool.and_eq_true] at h
end
section
variable {T : Tab} {N : List Str}
theorem s_var (i : Nat) : SE T N (.var i) := by
  intro lvl ns X W g ex hc Hd env σ H rx Q XQ h
  obtain ⟨x, p, rfl, hn⟩ := i_name (show cName N i ns ex = true from hc)
  obtain ⟨h1, h2, h3, h4⟩ := nmOk_c hn
  obtain ⟨d, hd, q⟩ : ∃ d, env[i]? = some (some (false, d)) ∧ Q d := h
  obtain ⟨v, hv, r⟩ := rx.fz i d hd
  exact four (fun Qs k _ => sem_of (pe_var (by rw [g.hN]; exact h1) (vis_of g.names h2) h3 h4) ⟨v, hv, k d v H q (Same.refl H) r⟩) rfl fun _ => rfl
theorem s_bv (i : Nat) : SE T N (.bv i) := by
  intro lvl ns X W g ex hc Hd env σ H rx Q XQ h
  obtain ⟨x, p, rfl, hn⟩ := i_name (show cName N i ns ex = true from hc)
  obtain ⟨h1, h2, h3, h4⟩ := nmOk_c hn
  obtain ⟨d, hd, q⟩ : ∃ d, env[i]? = some (some (true, d)) ∧ Q d := h
  obtain ⟨v, hv, r⟩ := rx.ow i d hd
  have dt : DenT X W (.Name x p) Hd σ H Q XQ := fun Qs k _ => sem_of (pe_var (by rw [g.hN]; exact h1) (vis_of g.names h2) h3 h4) ⟨v, hv, k d v H q (Same.refl H) r⟩
  exact ⟨fun z => Bool.noConfusion z, dt, fun z => Bool.noConfusion z, fun _ => dt.tst fun _ => rfl⟩
theorem s_non : SE T N .non := by
  intro lvl ns X W g ex hc Hd env σ H rx Q XQ h
  obtain ⟨n, p, rfl⟩ := i_const (show cConst .none ns ex = true from hc)
  exact four (den_const pe_non (fun _ => .non) h) rfl fun _ => rfl
theorem s_bl (b : Bool) : SE T N (.bl b) := by
  intro lvl ns X W g ex hc Hd env σ H rx Q XQ h
  obtain ⟨n, p, rfl⟩ := i_const (show cConst (.bool b) ns ex = true from hc)
  exact four (den_const pe_bl (fun _ => .bl b) h) rfl fun _ => rfl
theorem s_int (i : Int) : SE T N (.int i) := by
  intro lvl ns X W g ex hc Hd env σ H rx Q XQ h
  obtain ⟨n, p, rfl⟩ := i_const (show cConst (.int i) ns ex = true from hc)
  exact four (den_const pe_int (fun _ => .int i) h) rfl fun _ => rfl
theorem s_str (s : Str) : SE T N (.str s) := by
  intro lvl ns X W g ex hc Hd env σ H rx Q XQ h
  obtain ⟨n, p, rfl⟩ := i_const (show cConst (.str s) ns ex = true from hc)
  exact four (den_const pe_str (fun _ => .str s) h) rfl fun _ => rfl
theorem s_glb (x : Str) : SE T N (.glb x) := by
  intro lvl ns X W g ex hc Hd env σ H rx Q XQ h
  obtain ⟨p, rfl, hg⟩ := i_glb (show cGlb x ns ex = true from hc)
  obtain ⟨h1, h2⟩ := glB_c hg
  obtain ⟨i, hi, q⟩ : ∃ i, T.glb x = some i ∧ Q (.int i) := h
  obtain ⟨u, hu, r⟩ := g.tab.glb x i hi
  exact four (den_const (pe_glob (v := .int i) (gl_of g.names h1) hu r h2) (fun _ => .int i) q) rfl fun _ => rfl
theorem s_bin {o : BO} {a b : E} (ha : SE T N a) (hb : SE T N b) : SE T N (.bin o a b) := by
  intro lvl ns X W g ex hc Hd env σ H rx Q XQ h
  obtain ⟨l, r, p, rfl, hk, h1, h2⟩ := i_bin (show cBin o (nb a && nb b) (chkE N a) (chkE N b) ns ex = true from hc)
  obtain ⟨k1, k2⟩ := and_c hk
  have h : wpE T a env (fun x => wpE T b env (fun y => opBin o x y Q) XQ) XQ := h
  refine four (fun Qs k xw => sem_of (pe_op opR_sem pe_sem pe_sem) ?_) rfl fun _ => rfl
  refine den2 (R1 := RV X Hd) (R2 := RV X Hd) RV.mono' ((ha g h1 rx h).1 k1) (fun x hx H1 s1 => (hb g h2 (rx.mono s1) hx).1 k2) (fun x y v u H2 q s rv ru => ?_) xw
  intro pins s' σ' v' u' I rv' ru'
  exact op_bin_d o x y Q q pins s' σ' H2 v u v' u' Qs I (rx.dom.mono s) rv' ru' rv ru fun d z H' qd s2 rz => k d z H' qd (s.trans s2) rz
theorem s_neg {a : E} (ha : SE T N a) : SE T N (.neg a) := by
  intro lvl ns X W g ex hc Hd env σ H rx Q XQ h
  obtain ⟨l, p, rfl, hk, h1⟩ := i_neg (show cNeg (nb a) (chkE N a) ns ex = true from hc)
  refine four (fun Qs k xw => sem_of (pe_un un_neg pe_sem) ?_) rfl fun _ => rfl
  refine (ha g h1 rx h).1 hk _ (fun d v H1 q s r => ?_) xw
  cases d <;> first | exact False.elim q | skip
  cases r
  exact ⟨_, rfl, k _ _ H1 q s (.int _)⟩
theorem s_cmp {o : CO} {a b : E} (ha : SE T N a) (hb : SE T N b) : SE T N (.cmp o a b) := by
  intro lvl ns X W g ex hc Hd env σ H rx Q XQ h
  obtain ⟨l, r, p, rfl, hm, h1, h2⟩ := i_cmp (show cCmp o (chkE N a) (chkE N b) ns ex = true from hc)
  have h : wpE T a env (fun x => wpE T b env (fun y => opCmp o x y fun r => Q (.bl r)) XQ) XQ := h
  have core : ∀ Qs : VK, (∀ b H', Q (.bl b) → Same H H' → Qs (.bl b) H') → XW X W Hd σ H XQ → tOp (opSem X (compareOp (coP o))) (wpSem X l) (wpSem X r) σ H Qs := fun Qs k xw => by
    refine den2 (R1 := RT X Hd) (R2 := RT X Hd) RT.mono' ((ha g h1 rx h).2.1) (fun x hx H1 s1 => (hb g h2 (rx.mono s1) hx).2.1) (fun x y v u H2 q s rv ru => ?_) xw
    intro pins s' σ' v' u' I rv' ru'
    exact op_cmp_d g.room.units o x y _ q pins s' σ' H2 v u v' u' Qs I rv' ru' rv ru fun b qb => k b H2 qb s
  refine fourB (fun Qs k xw => sem_of (pe_cmpR opR_sem pe_sem pe_sem hm) (core Qs (fun b H' q s => k _ _ H' q s (.bl b)) xw)) rfl fun _ hb Qb k xw => ?_
  exact tst_of (pt_cmpR opR_sem pe_sem pe_sem hm) (core _ (fun b H' q s => ⟨b, rfl, k b H' q s⟩) xw)
theorem s_chain {o p : CO} {a b c : E} (ha : SE T N a) (hb : SE T N b) (hc' : SE T N c) : SE T N (.chain o p a b c) := by
  intro lvl ns X W g ex hc Hd env σ H rx Q XQ h
  obtain ⟨l, r, t, q, rfl, hm, hm2, h1, h2, h3⟩ := i_chain (show cChain o p (chkE N a) (chkE N b) (chkE N c) ns ex = true from hc)
  have h : wpE T a env (fun x => wpE T b env (fun y => opCmp o x y fun r => if r = true then wpE T c env (fun z => opCmp p y z fun r => Q (.bl r)) XQ else Q (.bl false)) XQ) XQ := h
  have core : ∀ Qs : VK, (∀ b H', Q (.bl b) → Same H H' → Qs (.bl b) H') → XW X W Hd σ H XQ → tChain (opSem X (compareOp (coP o))) (opSem X (compareOp (coP p))) (wpSem X l) (wpSem X r) (wpSem X t) σ H Qs := fun Qs k xw => by
    refine den2 (R1 := RT X Hd) (R2 := RT X Hd) RT.mono' ((ha g h1 rx h).2.1) (fun x hx H1 s1 => (hb g h2 (rx.mono s1) hx).2.1) (fun x y v u H2 q s rv ru => ?_) xw
    intro pins s' σ' v' u' I rv' ru'
    refine op_cmp_d g.room.units o x y _ q pins s' σ' H2 v u v' u' _ I rv' ru' rv ru fun b qb => ⟨b, rfl, ?_⟩
    cases b with
    | true =>
      rw [if_pos rfl] at qb ⊢
      refine (hc' g h3 (rx.mono s) qb).2.1 _ (fun z w H3 qz s3 rz => ?_) (xw.mono s)
      intro pins2 s2 σ2 v2 u2 I2 rv2 ru2
      exact op_cmp_d g.room.units p y z _ qz pins2 s2 σ2 H3 u w v2 u2 Qs I2 rv2 ru2 (RT.mono' s3 ru) rz fun b qb => k b H3 qb (s.trans s3)
    | false =>
      rw [if_neg Bool.false_ne_true] at qb ⊢
      exact k false H2 qb s
  have lm : lastMarks [coP o, coP p] [r, t] = false := hm2
  refine fourB (fun Qs k xw => sem_of (pe_chain opR_sem opR_sem pe_sem pe_sem pe_sem lm) (core Qs (fun b H' q s => k _ _ H' q s (.bl b)) xw)) rfl fun _ hb Qb k xw => ?_
  exact tst_of (pt_chain opR_sem opR_sem pe_sem pe_sem pe_sem lm) (core _ (fun b H' q s => ⟨b, rfl, k b H' q s⟩) xw)
theorem key_rep {mg : Str → Option Value} {K : PySem.W.Frag} {F : Hp} {d : D} {v : V} {k : Key} (r : Rep mg K F d v) (h : toKey d = some k) : v = kV k := by
  cases r <;> first | (cases h; rfl) | cases h
theorem look_val {mg : Str → Option Value} {K : PySem.W.Frag} {F : Hp} {kds : List (Key × D)} {kvs : List (Key × V)} (r : RepK mg K F kds kvs) (k : Key) : (valV kvs k).isSome = (dlook kds k).isSome := by
  rcases r.find (k := k) with ⟨h1, h2⟩ | ⟨d, v, h1, h2, h3⟩
  · unfold dlook; rw [h1, h2]; rfl
  · unfold dlook; rw [h1, h2]; rfl
theorem s_din {k d : E} (hk : SE T N k) (hd : SE T N d) : SE T N (.din k d) := by
  intro lvl ns X W g ex hc Hd env σ H rx Q XQ h
  obtain ⟨l, r, p, rfl, hm, hb, h1, h2⟩ := i_din (show cDin .In (nb k) (chkE N k) (chkE N d) ns ex = true from hc)
  have h : wpE T k env (fun x => wpE T d env (fun y => match y with | .dct kvs => ∃ k, toKey x = some k ∧ Q (.bl (dlook kvs k).isSome) | _ => False) XQ) XQ := h
  have hu : X.A.units + 1 < cLine := hu_of g.room
  have core : ∀ Qs : VK, (∀ b H', Q (.bl b) → Same H H' → Qs (.bl b) H') → XW X W Hd σ H XQ → tDIn (wpSem X l) (wpSem X r) σ H Qs := fun Qs kk xw => by
    refine den2 (R1 := RV X Hd) (R2 := RT X Hd) RV.mono' ((hk g h1 rx h).1 hb) (fun x hx H1 s1 => (hd g h2 (rx.mono s1) hx).2.1) (fun x y v u H2 q s rv ru => ?_) xw
    cases y <;> first | exact False.elim q | skip
    obtain ⟨kk', hkk, q⟩ := q
    have ev := key_rep rv hkk
    subst ev
    cases ru with
    | dct e1 r1 =>
      refine ⟨_, _, rfl, DGet.k e1, ?_⟩
      rw [look_val r1]
      exact kk _ H2 q s
  refine fourB (fun Qs kk xw => sem_of (pe_cmp (pc_din hu pe_sem pe_sem) hm) (core Qs (fun b H' q s => kk _ _ H' q s (.bl b)) xw)) rfl fun _ hb Qb kk xw => ?_
  exact tst_of (pt_cmp (pc_din hu pe_sem pe_sem) hm) (core _ (fun b H' q s => ⟨b, rfl, kk b H' q s⟩) xw)
theorem s_dni {k d : E} (hk : SE T N k) (hd : SE T N d) : SE T N (.dni k d) := by
  intro lvl ns X W g ex hc Hd env σ H rx Q XQ h
  obtain ⟨l, r, p, rfl, hm, hb, h1, h2⟩ := i_din (show cDin .NotIn (nb k) (chkE N k) (chkE N d) ns ex = true from hc)
  have h : wpE T k env (fun x => wpE T d env (fun y => match y with | .dct kvs => ∃ k, toKey x = some k ∧ Q (.bl (!(dlook kvs k).isSome)) | _ => False) XQ) XQ := h
  have hu : X.A.units + 1 < cLine := hu_of g.room
  have core : ∀ Qs : VK, (∀ b H', Q (.bl b) → Same H H' → Qs (.bl b) H') → XW X W Hd σ H XQ → tDNotIn (wpSem X l) (wpSem X r) σ H Qs := fun Qs kk xw => by
    refine den2 (R1 := RV X Hd) (R2 := RT X Hd) RV.mono' ((hk g h1 rx h).1 hb) (fun x hx H1 s1 => (hd g h2 (rx.mono s1) hx).2.1) (fun x y v u H2 q s rv ru => ?_) xw
    cases y <;> first | exact False.elim q | skip
    obtain ⟨kk', hkk, q⟩ := q
    have ev := key_rep rv hkk
    subst ev
    cases ru with
    | dct e1 r1 =>
      refine ⟨_, _, rfl, DGet.k e1, ?_⟩
      rw [look_val r1]
      exact kk _ H2 q s
  refine fourB (fun Qs kk xw => sem_of (pe_cmp (pc_dnotin hu pe_sem pe_sem) hm) (core Qs (fun b H' q s => kk _ _ H' q s (.bl b)) xw)) rfl fun _ hb Qb kk xw => ?_
  exact tst_of (pt_cmp (pc_dnotin hu pe_sem pe_sem) hm) (core _ (fun b H' q s => ⟨b, rfl, kk b H' q s⟩) xw)
end
end Lp
namespace Lp
open PySem L2
section
variable {T : Tab} {N : List Str}
/-- the tail of an and, an or -/
theorem tail_pe {X : Cx} {o : BoolOp} {y : Expr} {r : List Expr} {p : Pos} {σ : L2.St} {H : Hp} {Qs : VK} (he : (r = [] ∧ wpSem X y σ H Qs) ∨ (r ≠ [] ∧ wpSem X (.BoolOp o (y :: r) p) σ H Qs)) : wpSem X (.BoolOp o (y :: r) p) σ H Qs := by
  rcases he with ⟨rfl, h⟩ | ⟨_, h⟩
  · exact sem_of (pe_one pe_sem) h
  · exact h
theorem tail_pw {X : Cx} {o : BoolOp} {y : Expr} {r : List Expr} {p : Pos} {σ : L2.St} {H : Hp} {Qs : Bool → Hp → Prop} (he : (r = [] ∧ wpTst X y σ H Qs) ∨ (r ≠ [] ∧ wpTst X (.BoolOp o (y :: r) p) σ H Qs)) : wpTst X (.BoolOp o (y :: r) p) σ H Qs := by
  rcases he with ⟨rfl, h⟩ | ⟨_, h⟩
  · cases o
    · exact tst_of (PW.pt (pw_and1 pt_sem)) h
    · exact tst_of (PW.pt (pw_or1 pt_sem)) h
  · exact h
theorem s_and {a b : E} (ha : SE T N a) (hb : SE T N b) : SE T N (.and_ a b) := by
  intro lvl ns X W g ex hc Hd env σ H rx Q XQ h
  obtain ⟨x, y, r, p, rfl, h1, h2⟩ := i_bool (show cBool .And (chkE N a) (chkE N b) ns ex = true from hc)
  have h : wpE T a env (fun x => match x with | .bl true => wpE T b env (fun y => ∃ c, y = .bl c ∧ Q y) XQ | .bl false => Q (.bl false) | _ => False) XQ := h
  have sb : ∀ H1, Same H H1 → wpE T b env (fun y => ∃ c, y = .bl c ∧ Q y) XQ → ∀ Qs : VK, (∀ b H', Q (.bl b) → Same H1 H' → Qs (.bl b) H') → XW X W Hd σ H1 XQ → wpSem X (.BoolOp .And (y :: r) p) σ H1 Qs := fun H1 s1 hw Qs k xw => by
    have kk : ∀ d v H', (∃ c, d = .bl c ∧ Q d) → Same H1 H' → RT X Hd H' d v → Qs v H' := fun d v H' qd s rv => by
      obtain ⟨c, rfl, q⟩ := qd
      cases rv
      exact k c H' q s
    rcases h2 with ⟨e, h2⟩ | ⟨e, h2⟩
    · exact tail_pe (.inl ⟨e, (hb g h2 (rx.mono s1) hw).2.1 Qs kk xw⟩)
    · exact (hb g h2 (rx.mono s1) hw).2.1 Qs kk xw
  have sbT : tb b = true → ∀ H1, Same H H1 → wpE T b env (fun y => ∃ c, y = .bl c ∧ Q y) XQ → ∀ Qb : Bool → Hp → Prop, (∀ b H', Q (.bl b) → Same H1 H' → Qb b H') → XW X W Hd σ H1 XQ → wpTst X (.BoolOp .And (y :: r) p) σ H1 Qb := fun ht H1 s1 hw Qb k xw => by
    have hq : ∀ d, (∃ c, d = .bl c ∧ Q d) → ∃ b, d = .bl b := fun d ⟨c, e, _⟩ => ⟨c, e⟩
    have kk : ∀ b H', (∃ c, D.bl b = .bl c ∧ Q (.bl b)) → Same H1 H' → Qb b H' := fun b H' ⟨_, _, q⟩ s => k b H' q s
    rcases h2 with ⟨e, h2⟩ | ⟨e, h2⟩
    · exact tail_pw (.inl ⟨e, (hb g h2 (rx.mono s1) hw).2.2.2 ht hq Qb kk xw⟩)
    · exact (hb g h2 (rx.mono s1) hw).2.2.2 ht hq Qb kk xw
  refine fourB (fun Qs k xw => sem_of (pe_and pe_sem pe_sem) ((ha g h1 rx h).2.1 _ (fun d v H1 q s rv => ?_) xw)) rfl fun ht hq Qb k xw => ?_
  · cases d <;> first | exact False.elim q | skip
    rename_i bb
    cases rv
    refine ⟨bb, rfl, ?_⟩
    cases bb with
    | true => rw [if_pos rfl]; exact sb H1 s q Qs (fun b H' q' s' => k _ _ H' q' (s.trans s') (.bl b)) (xw.mono s)
    | false => rw [if_neg Bool.false_ne_true]; exact k _ _ H1 q s (.bl false)
  · have htt : (tb a && tb b) = true := ht
    obtain ⟨t1, t2⟩ := and_c htt
    refine tst_of (PW.pt (pw_and pt_sem pw_sem)) ((ha g h1 rx h).2.2.2 t1 (fun d q => ?_) _ (fun bb H1 q s => ?_) xw)
    · cases d <;> first | exact False.elim q | exact ⟨_, rfl⟩
    · cases bb with
      | true => rw [if_pos rfl]; exact sbT t2 H1 s q _ (fun b H' q' s' => k b H' q' (s.trans s')) (xw.mono s)
      | false => rw [if_neg Bool.false_ne_true]; exact k false H1 q s
theorem s_or {a b : E} (ha : SE T N a) (hb : SE T N b) : SE T N (.or_ a b) := by
  intro lvl ns X W g ex hc Hd env σ H rx Q XQ h
  obtain ⟨x, y, r, p, rfl, h1, h2⟩ := i_bool (show cBool .Or (chkE N a) (chkE N b) ns ex = true from hc)
  have h : wpE T a env (fun x => match x with | .bl true => Q (.bl true) | .bl false => wpE T b env (fun y => ∃ c, y = .bl c ∧ Q y) XQ | _ => False) XQ := h
  have sb : ∀ H1, Same H H1 → wpE T b env (fun y => ∃ c, y = .bl c ∧ Q y) XQ → ∀ Qs : VK, (∀ b H', Q (.bl b) → Same H1 H' → Qs (.bl b) H') → XW X W Hd σ H1 XQ → wpSem X (.BoolOp .Or (y :: r) p) σ H1 Qs := fun H1 s1 hw Qs k xw => by
    have kk : ∀ d v H', (∃ c, d = .bl c ∧ Q d) → Same H1 H' → RT X Hd H' d v → Qs v H' := fun d v H' qd s rv => by
      obtain ⟨c, rfl, q⟩ := qd
      cases rv
      exact k c H' q s
    rcases h2 with ⟨e, h2⟩ | ⟨e, h2⟩
    · exact tail_pe (.inl ⟨e, (hb g h2 (rx.mono s1) hw).2.1 Qs kk xw⟩)
    · exact (hb g h2 (rx.mono s1) hw).2.1 Qs kk xw
  have sbT : tb b = true → ∀ H1, Same H H1 → wpE T b env (fun y => ∃ c, y = .bl c ∧ Q y) XQ → ∀ Qb : Bool → Hp → Prop, (∀ b H', Q (.bl b) → Same H1 H' → Qb b H') → XW X W Hd σ H1 XQ → wpTst X (.BoolOp .Or (y :: r) p) σ H1 Qb := fun ht H1 s1 hw Qb k xw => by
    have hq : ∀ d, (∃ c, d = .bl c ∧ Q d) → ∃ b, d = .bl b := fun d ⟨c, e, _⟩ => ⟨c, e⟩
    have kk : ∀ b H', (∃ c, D.bl b = .bl c ∧ Q (.bl b)) → Same H1 H' → Qb b H' := fun b H' ⟨_, _, q⟩ s => k b H' q s
    rcases h2 with ⟨e, h2⟩ | ⟨e, h2⟩
    · exact tail_pw (.inl ⟨e, (hb g h2 (rx.mono s1) hw).2.2.2 ht hq Qb kk xw⟩)
    · exact (hb g h2 (rx.mono s1) hw).2.2.2 ht hq Qb kk xw
  refine fourB (fun Qs k xw => sem_of (pe_or pe_sem pe_sem) ((ha g h1 rx h).2.1 _ (fun d v H1 q s rv => ?_) xw)) rfl fun ht hq Qb k xw => ?_
  · cases d <;> first | exact False.elim q | skip
    rename_i bb
    cases rv
    refine ⟨bb, rfl, ?_⟩
    cases bb with
    | true => rw [if_pos rfl]; exact k _ _ H1 q s (.bl true)
    | false => rw [if_neg Bool.false_ne_true]; exact sb H1 s q Qs (fun b H' q' s' => k _ _ H' q' (s.trans s') (.bl b)) (xw.mono s)
  · have htt : (tb a && tb b) = true := ht
    obtain ⟨t1, t2⟩ := and_c htt
    refine tst_of (PW.pt (pw_or pt_sem pw_sem)) ((ha g h1 rx h).2.2.2 t1 (fun d q => ?_) _ (fun bb H1 q s => ?_) xw)
    · cases d <;> first | exact False.elim q | exact ⟨_, rfl⟩
    · cases bb with
      | true => rw [if_pos rfl]; exact k true H1 q s
      | false => rw [if_neg Bool.false_ne_true]; exact sbT t2 H1 s q _ (fun b H' q' s' => k b H' q' (s.trans s')) (xw.mono s)
theorem s_not {a : E} (ha : SE T N a) : SE T N (.not_ a) := by
  intro lvl ns X W g ex hc Hd env σ H rx Q XQ h
  obtain ⟨l, p, rfl, hk, h1⟩ := i_not (show cNot (nb a) (chkE N a) ns ex = true from hc)
  refine fourB (fun Qs k xw => sem_of (pe_not pe_sem) ((ha g h1 rx h).2.1 _ (fun d v H1 q s rv => ?_) xw)) rfl fun ht hq Qb k xw => ?_
  · cases d <;> first | exact False.elim q | skip
    cases rv
    exact ⟨_, rfl, k _ _ H1 q s (.bl _)⟩
  · refine tst_of (pt_not pt_sem) ((ha g h1 rx h).2.2.2 ht (fun d q => ?_) _ (fun bb H1 q s => ?_) xw)
    · cases d <;> first | exact False.elim q | exact ⟨_, rfl⟩
    · exact k _ H1 q s
theorem s_ife {c a b : E} (hc' : SE T N c) (ha : SE T N a) (hb : SE T N b) : SE T N (.ife c a b) := by
  intro lvl ns X W g ex hc Hd env σ H rx Q XQ h
  obtain ⟨t, x, y, p, rfl, hk, h1, h2, h3⟩ := i_ife (show cIfe (tb c && nb a && nb b) (chkE N c) (chkE N a) (chkE N b) ns ex = true from hc)
  obtain ⟨hk, k3⟩ := and_c hk
  obtain ⟨k1, k2⟩ := and_c hk
  have dv : DenV X W (.IfExp t x y p) Hd σ H Q XQ := fun Qs k xw => sem_of (pe_ifExp pt_sem pe_sem pe_sem) ((hc' g h1 rx h).2.2.2 k1 (fun d q => by cases d <;> first | exact False.elim q | exact ⟨_, rfl⟩) _ (fun bb H1 q s => by
    cases bb with
    | true => rw [if_pos rfl]; exact (ha g h2 (rx.mono s) q).1 k2 Qs (fun d v H' qd s' r => k d v H' qd (s.trans s') r) (xw.mono s)
    | false => rw [if_neg Bool.false_ne_true]; exact (hb g h3 (rx.mono s) q).1 k3 Qs (fun d v H' qd s' r => k d v H' qd (s.trans s') r) (xw.mono s)) xw)
  exact fourB dv rfl fun z => Bool.noConfusion z
theorem s_ix {a i : E} (ha : SE T N a) (hi : SE T N i) : SE T N (.ix a i) := by
  intro lvl ns X W g ex hc Hd env σ H rx Q XQ h
  obtain ⟨x, y, p, rfl, hp, _, h1, h2⟩ := i_ix (show cIx true (chkE N a) (chkE N i) ns ex = true from hc)
  refine four (fun Qs k xw => sem_of (pe_ix ix_seq pe_sem pe_sem (ix_ok hp)) ?_) rfl fun _ => rfl
  exact den2 (R1 := RT X Hd) (R2 := RT X Hd) RT.mono' ((ha g h1 rx h).2.1) (fun x hx H1 s1 => (hi g h2 (rx.mono s1) hx).2.1) (fun x y v u H2 q s rv ru => ix_d q rv ru fun d z qd rz => k d z H2 qd s rz) xw
theorem s_dix {a i : E} (ha : SE T N a) (hi : SE T N i) : SE T N (.dix a i) := by
  intro lvl ns X W g ex hc Hd env σ H rx Q XQ h
  obtain ⟨x, y, p, rfl, hp, hb, h1, h2⟩ := i_ix (show cIx (nb i) (chkE N a) (chkE N i) ns ex = true from hc)
  refine four (fun Qs k xw => sem_of (pe_dget (hu_of g.room) pe_sem pe_sem (ix_ok hp)) ?_) rfl fun _ => rfl
  refine den2 (R1 := RT X Hd) (R2 := RV X Hd) RT.mono' ((ha g h1 rx h).2.1) (fun x hx H1 s1 => (hi g h2 (rx.mono s1) hx).1 hb) (fun x y v u H2 q s rv ru => ?_) xw
  cases x <;> first | exact False.elim q | skip
  obtain ⟨kk, d, hkk, hl, q⟩ := q
  have ev := key_rep ru hkk
  subst ev
  cases rv with
  | dct e1 r1 =>
    rcases r1.find (k := kk) with ⟨n1, n2⟩ | ⟨d', w', n1, n2, n3⟩
    · unfold dlook at hl; rw [n1] at hl; cases hl
    · unfold dlook at hl; rw [n1] at hl; cases hl
      exact ⟨_, w', rfl, by rw [← n2]; exact DGet.k e1, k _ _ H2 q s n3⟩
theorem s_slu {a i : E} (ha : SE T N a) (hi : SE T N i) : SE T N (.slu a i) := by
  intro lvl ns X W g ex hc Hd env σ H rx Q XQ h
  obtain ⟨x, z, p, q, rfl, h1, h2⟩ := i_slu (show cSlu (chkE N a) (chkE N i) ns ex = true from hc)
  refine four (fun Qs k xw => sem_of (pe_slice sl_any pe_sem po_none (po_some pe_sem)) ?_) rfl fun _ => rfl
  refine den2 (R1 := RT X Hd) (R2 := RT X Hd) RT.mono' ((ha g h1 rx h).2.1) (fun x hx H1 s1 => (hi g h2 (rx.mono s1) hx).2.1) (fun x y v u H2 q s rv ru => ?_) xw
  cases y <;> first | exact False.elim q | skip
  cases ru
  exact ⟨_, rfl, sl_d q (rx.dom.mono s) rv fun d w H' qd s' r => k d w H' qd (s.trans s') r⟩
theorem s_sluL {a i : E} (ha : SE T N a) (hi : SE T N i) : SE T N (.sluL a i) := by
  intro lvl ns X W g ex hc Hd env σ H rx Q XQ h
  obtain ⟨x, z, p, q, rfl, h1, h2⟩ := i_slu (show cSlu (chkE N a) (chkE N i) ns ex = true from hc)
  refine fourO rx.dom (fun Qs k xw => sem_of (pe_slice sl_list pe_sem po_none (po_some pe_sem)) ?_) fun _ => rfl
  refine den2 (R1 := RT X Hd) (R2 := RT X Hd) RT.mono' ((ha g h1 rx h).2.1) (fun x hx H1 s1 => (hi g h2 (rx.mono s1) hx).2.1) (fun x y v u H2 q s rv ru => ?_) xw
  cases x <;> first | exact False.elim q | skip
  cases y <;> first | exact False.elim q | skip
  cases ru
  cases rv with
  | lst e1 r1 => exact ⟨_, rfl, _, _, rfl, SqL.of e1, fun p hp => k _ _ _ q (s.trans (Same.new hp)) (ro_new_lst hp s (cut_rep r1))⟩
theorem s_mulL {a b : E} (ha : SE T N a) (hb : SE T N b) : SE T N (.mulL a b) := by
  intro lvl ns X W g ex hc Hd env σ H rx Q XQ h
  obtain ⟨l, r, p, rfl, hk, h1, h2⟩ := i_bin (show cBin .mul (nb a && nb b) (chkE N a) (chkE N b) ns ex = true from hc)
  obtain ⟨k1, k2⟩ := and_c hk
  refine fourO rx.dom (fun Qs k xw => sem_of (pe_op opR_sem pe_sem pe_sem) ?_) fun _ => rfl
  refine den2 (R1 := RV X Hd) (R2 := RV X Hd) RV.mono' ((ha g h1 rx h).1 k1) (fun x hx H1 s1 => (hb g h2 (rx.mono s1) hx).1 k2) (fun x y v u H2 q s rv ru => ?_) xw
  intro pins s' σ' v' u' I rv' ru'
  cases x <;> first | exact False.elim q | skip
  cases y <;> first | exact False.elim q | skip
  cases ru
  cases rv with
  | lst e1 r1 =>
    have l1 := r1.length
    obtain ⟨⟨a1, a2, a3⟩, q⟩ := q
    exact op_rep pins s' σ' H2 _ _ v' u' Qs I rv' ru' ⟨_, _, _, rfl, rfl, hid_sub _ _ e1, a1, a2, by rw [← l1]; exact a3, fun p hp => k _ _ _ q (s.trans (Same.new hp)) (ro_new_lst hp s (r1.rep _))⟩
theorem s_addL {a b : E} (ha : SE T N a) (hb : SE T N b) : SE T N (.addL a b) := by
  intro lvl ns X W g ex hc Hd env σ H rx Q XQ h
  obtain ⟨l, r, p, rfl, hk, h1, h2⟩ := i_bin (show cBin .add (nb a && nb b) (chkE N a) (chkE N b) ns ex = true from hc)
  obtain ⟨k1, k2⟩ := and_c hk
  refine fourO rx.dom (fun Qs k xw => sem_of (pe_op opR_sem pe_sem pe_sem) ?_) fun _ => rfl
  refine den2 (R1 := RV X Hd) (R2 := RV X Hd) RV.mono' ((ha g h1 rx h).1 k1) (fun x hx H1 s1 => (hb g h2 (rx.mono s1) hx).1 k2) (fun x y v u H2 q s rv ru => ?_) xw
  intro pins s' σ' v' u' I rv' ru'
  cases x <;> first | exact False.elim q | skip
  cases y <;> first | exact False.elim q | skip
  cases rv with
  | lst e1 r1 =>
    cases ru with
    | lst e2 r2 =>
      have l1 := r1.length
      have l2 := r2.length
      exact op_cat pins s' σ' H2 _ _ v' u' Qs I rv' ru' ⟨_, _, _, _, rfl, rfl, hid_sub _ _ e1, hid_sub _ _ e2, by rw [← l1, ← l2]; exact q.1, fun p hp => k _ _ _ q.2 (s.trans (Same.new hp)) (ro_new_lst hp s (r1.append r2))⟩
theorem s_sll {a i : E} (ha : SE T N a) (hi : SE T N i) : SE T N (.sll a i) := by
  intro lvl ns X W g ex hc Hd env σ H rx Q XQ h
  obtain ⟨x, z, p, q, rfl, h1, h2⟩ := i_sll (show cSll (chkE N a) (chkE N i) ns ex = true from hc)
  refine four (fun Qs k xw => sem_of (pe_slice sl_any pe_sem (po_some pe_sem) po_none) ?_) rfl fun _ => rfl
  refine den2 (R1 := RT X Hd) (R2 := RT X Hd) RT.mono' ((ha g h1 rx h).2.1) (fun x hx H1 s1 => (hi g h2 (rx.mono s1) hx).2.1) (fun x y v u H2 q s rv ru => ?_) xw
  cases y <;> first | exact False.elim q | skip
  cases ru
  exact ⟨_, rfl, sl_d q (rx.dom.mono s) rv fun d w H' qd s' r => k d w H' qd (s.trans s') r⟩
theorem s_slb {a i j : E} (ha : SE T N a) (hi : SE T N i) (hj : SE T N j) : SE T N (.slb a i j) := by
  intro lvl ns X W g ex hc Hd env σ H rx Q XQ h
  obtain ⟨x, y, z, p, q, rfl, h1, h2, h3⟩ := i_slb (show cSlb (chkE N a) (chkE N i) (chkE N j) ns ex = true from hc)
  refine four (fun Qs k xw => sem_of (pe_slice sl_any pe_sem (po_some pe_sem) (po_some pe_sem)) ?_) rfl fun _ => rfl
  refine den2 (R1 := RT X Hd) (R2 := RT X Hd) RT.mono' ((ha g h1 rx h).2.1) (fun x hx H1 s1 => (hi g h2 (rx.mono s1) hx).2.1) (fun x y v u H2 q s rv ru => ?_) xw
  cases y <;> first | exact False.elim q | skip
  cases ru
  refine ⟨_, rfl, ?_⟩
  refine (hj g h3 (rx.mono s) q).2.1 _ (fun z' w H3 qz s3 rz => ?_) (xw.mono s)
  cases z' <;> first | exact False.elim qz | skip
  cases rz
  exact ⟨_, rfl, sl_d qz (rx.dom.mono (s.trans s3)) (RT.mono' s3 rv) fun d w H' qd s' r => k d w H' qd ((s.trans s3).trans s') r⟩
theorem s_rev {a : E} (ha : SE T N a) : SE T N (.rev a) := by
  intro lvl ns X W g ex hc Hd env σ H rx Q XQ h
  obtain ⟨x, m, p1, p2, p3, p, rfl, h1⟩ := i_rev (show cRev (chkE N a) ns ex = true from hc)
  refine four (fun Qs k xw => sem_of (pe_rev pe_sem) ((ha g h1 rx h).2.1 _ (fun d v H1 q s rv => ?_) xw)) rfl fun _ => rfl
  cases d <;> first | exact False.elim q | skip
  · cases rv with
    | tup e1 r1 => exact .inr ⟨_, _, rfl, SqT.of (hid_sub _ _ e1), fun p hp => k _ _ _ q (s.trans (Same.new hp)) (rep_new_tup hp (rx.dom.mono s) r1.reverse)⟩
  · cases rv with
    | lst e1 r1 => exact .inl ⟨_, _, rfl, SqL.of e1, fun p hp => k _ _ _ q (s.trans (Same.new hp)) (rep_new_lst hp (rx.dom.mono s) r1.reverse)⟩
theorem s_tup {es : Es} (hs : SA T N es) : SE T N (.tup es) := by
  intro lvl ns X W g ex hc Hd env σ H rx Q XQ h
  obtain ⟨xs, m, p, rfl, h1⟩ := i_tup (show cTup (chkEs N es) ns ex = true from hc)
  refine four (fun Qs k xw => sem_of (pe_tup pa_sem) (hs g h1 rx h _ (fun ds vs H1 q s r => ?_) xw)) rfl fun _ => rfl
  exact ⟨by rw [← r.length]; exact q.1, fun p hp => k _ _ _ q.2 (s.trans (Same.new hp)) (rep_new_tup hp (rx.dom.mono s) r)⟩
theorem s_lst {es : Es} (hs : SA T N es) : SE T N (.lst es) := by
  intro lvl ns X W g ex hc Hd env σ H rx Q XQ h
  obtain ⟨xs, p, rfl, h1⟩ := i_lst (show cLst (chkEs N es) ns ex = true from hc)
  refine fourO rx.dom (fun Qs k xw => sem_of (pe_lst pa_sem) (hs g h1 rx h _ (fun ds vs H1 q s r => ?_) xw)) fun _ => rfl
  exact ⟨by rw [← r.length]; exact q.1, fun p hp => k _ _ _ q.2 (s.trans (Same.new hp)) (ro_new_lst hp s r)⟩
theorem s_dnew : SE T N .dnew := by
  intro lvl ns X W g ex hc Hd env σ H rx Q XQ h
  obtain ⟨p, rfl⟩ := i_dnew (show cDnew ns ex = true from hc)
  exact fourO rx.dom (fun Qs k xw => sem_of pe_dnewK fun p hp => k _ _ _ h (Same.new hp) (ro_new_dct hp (Same.refl H) .nil)) fun _ => rfl
theorem s_fld {o : E} {f : Str} (ho : SE T N o) : SE T N (.fld o f) := by
  intro lvl ns X W g ex hc Hd env σ H rx Q XQ h
  obtain ⟨x, p, rfl, hb, hk, h1⟩ := i_fld (show cFld f (nb o) (chkE N o) ns ex = true from hc)
  refine four (fun Qs k xw => sem_of (pe_fld pe_sem (base_ok hb)) ((ho g h1 rx h).1 hk _ (fun d v H1 q s r => ?_) xw)) rfl fun _ => rfl
  cases d <;> first | exact False.elim q | skip
  obtain ⟨hf, d, hl, q⟩ := q
  cases r with
  | ins e1 m1 r1 =>
    obtain ⟨c1, c2⟩ := g.tab.fld _ _ hf _ m1
    obtain ⟨w, l1, r2⟩ := r1.look hl
    exact ⟨_, _, _, _, w, rfl, hid_sub _ _ e1, c1, c2, l1, k _ _ H1 q s r2⟩
theorem s_isi {a : E} {t : TY} (ha : SE T N a) : SE T N (.isi a t) := by
  intro lvl ns X W g ex hc Hd env σ H rx Q XQ h
  obtain ⟨x, p, q, r, rfl, g1, g2, hp, h1⟩ := i_isi (show cIsi (tyN t) (chkE N a) ns ex = true from hc)
  obtain ⟨g1a, g1b⟩ := glB_c g1
  obtain ⟨g2a, g2b⟩ := glB_c g2
  have hv : bootBuiltins (tyN t) = some (.type (tyB t)) := by cases t <;> decide +kernel
  have hn : tyN t ≠ "__name__" := by cases t <;> decide +kernel
  have py : PE X (.Name (tyN t) q) (tC (.ty (tyB t))) := pe_bltn (gl_of g.names g2a) (g.tab.tyn t) hv rfl hn g2b
  refine four (fun Qs k xw => sem_of (pe_callB call_isi (gl_of g.names g1a) g.tab.isi PyProof.Rows.boot_isinstance (pa_cons pe_sem (pa_cons py pa_nil) (star_ok hp)) (he := star_ok hp)) ((ha g h1 rx h).2.1 _ (fun d v H1 qq s rv => ?_) xw)) rfl fun _ => rfl
  obtain ⟨sn, b, e1, e2, qq⟩ := qq
  have ty : TyX X.K H1 v (.type sn) := by
    cases rv <;> first | (cases e1; done) | skip
    · cases e1; exact .base .non
    · cases e1; exact .base (.bl _)
    · cases e1; exact .base (.int _)
    · cases e1; exact .base (.str _)
    · rename_i hh _; cases e1; exact .base (.tup (hid_sub _ _ hh))
    · rename_i hh _; cases e1; exact .base (.lst hh)
    · rename_i hh _; cases e1; exact .base (.dK hh)
  exact ⟨_, _, _, _, b, rfl, .ty _, ty, kit_ty e2, k _ _ H1 qq s (.bl b)⟩
theorem s_join {a b : E} (ha : SE T N a) (hb : SE T N b) : SE T N (.join a b) := by
  intro lvl ns X W g ex hc Hd env σ H rx Q XQ h
  obtain ⟨x, z, ap, p, rfl, hbx, hp, hl, hk, h1, h2⟩ := i_join (show cJoin (nb a) (chkE N a) (chkE N b) ns ex = true from hc)
  refine four (fun Qs k xw => sem_of (pe_join pe_sem pe_sem (star_ok hp) (base_ok hbx) hl) ((ha g h1 rx h).1 hk _ (fun d v H1 q s rv => ?_) xw)) rfl fun _ => rfl
  cases d <;> first | exact False.elim q | skip
  rename_i t
  cases rv
  refine ⟨⟨_, rfl⟩, (hb g h2 (rx.mono s) q).2.1 _ (fun d2 v2 H2 q2 s2 r2 => ?_) (xw.mono s)⟩
  obtain ⟨ys, hy, hz, q2⟩ := q2
  rcases hy with rfl | rfl
  · cases r2 with
    | lst e1 r1 =>
      have e := r1.strs
      subst e
      exact ⟨t, _, ys, rfl, rfl, .inl (SqL.of e1), hz, k _ _ H2 q2 (s.trans s2) (.str _)⟩
  · cases r2 with
    | tup e1 r1 =>
      have e := r1.strs
      subst e
      exact ⟨t, _, ys, rfl, rfl, .inr (SqT.of (hid_sub _ _ e1)), hz, k _ _ H2 q2 (s.trans s2) (.str _)⟩
theorem m2_ok {X : Cx} {o e f : Expr} {m : Str} {apos cpos : Pos} (ho : baseX o = true) (he : plainX e = true) (hf : plainX f = true) (hl : (apos.endLine == cpos.line) = true) : M2 X o m apos e f cpos where
  base := base_ok ho
  few := by rw [star_ok he, star_ok hf]; rfl
  line := hl
  trees := by rw [star_ok he, star_ok hf]; rfl
theorem s_dget {d k x : E} (hd : SE T N d) (hk : SE T N k) (hx : SE T N x) : SE T N (.dget d k x) := by
  intro lvl ns X W g ex hc Hd env σ H rx Q XQ h
  obtain ⟨o, z, u, ap, p, rfl, hbx, hp, hp2, hl, hkk, h1, h2, h3⟩ := i_dget (show cDget (nb k && nb x) (chkE N d) (chkE N k) (chkE N x) ns ex = true from hc)
  obtain ⟨k1, k2⟩ := and_c hkk
  refine four (fun Qs kq xw => sem_of (pe_dget2 (hu_of g.room) pe_sem pe_sem pe_sem (m2_ok hbx hp hp2 hl)) ((hd g h1 rx h).2.1 _ (fun dd v H1 q s rv => ?_) xw)) rfl fun _ => rfl
  cases dd <;> first | exact False.elim q | skip
  rename_i kds
  cases rv with
  | dct e1 r1 =>
    refine ⟨_, rfl, .inl ⟨_, Rd.of e1⟩, ?_⟩
    refine (hk g h2 (rx.mono s) q).1 k1 _ (fun dk vk H2 q2 s2 r2 => ?_) (xw.mono s)
    refine (hx g h3 (rx.mono (s.trans s2)) q2).1 k2 _ (fun dx vx H3 q3 s3 r3 => ?_) (xw.mono (s.trans s2))
    obtain ⟨kk, hkey, q3⟩ := q3
    have ev := key_rep r2 hkey
    subst ev
    have e3 := s3 _ _ (s2 _ _ e1)
    have r1' := r1.mono (hid_same (s2.trans s3))
    refine ⟨_, DGet.k e3, ?_⟩
    rcases r1'.find (k := kk) with ⟨n1, n2⟩ | ⟨d', w', n1, n2, n3⟩
    · rw [n2]
      have : dlook kds kk = none := by unfold dlook; rw [n1]; rfl
      rw [this] at q3
      exact kq _ _ H3 q3 ((s.trans s2).trans s3) r3
    · rw [n2]
      have : dlook kds kk = some d' := n1
      rw [this] at q3
      exact kq _ _ H3 q3 ((s.trans s2).trans s3) n3
/-! ## calls -/
theorem lift_of {X : Cx} {W : WX} {Hd : Addr → Bool} {σ : L2.St} {H1 : Hp} {c : Ct} {ds : List D} {vs : List V} {Q : D → Prop} {XQ : XQ} {Qs : VK} (dm : Dom Hd H1) (r : RepA X.mg X.K (hid Hd H1) ds vs) (h : c.run ds Q XQ)
    (k : ∀ d v H', Q d → Same H1 H' → RV X Hd H' d v → Qs v H') (xw : XW X W Hd σ H1 XQ) : lift X.mg X.K c vs H1 Qs (fun cls dd H' => W cls dd σ H') :=
  ⟨Hd, ds, dm, r, c.mono h (fun d q v H' s rv => k d v H' q s rv) fun x q cls dd H' s rx => xw x cls dd H' q s rx⟩
theorem s_call {f : Str} {es : Es} (hs : SA T N es) : SE T N (.call f es) := by
  intro lvl ns X W g ex hc Hd env σ H rx Q XQ h
  obtain ⟨xs, p, q, rfl, hg, hn, h1⟩ := i_call (show cCall f (chkEs N es) ns ex = true from hc)
  obtain ⟨g1, g2⟩ := glB_c hg
  obtain ⟨c, hT, h⟩ : ∃ c, T.fn f = some c ∧ wpEs T es env (fun ds => c.run ds Q XQ) XQ := h
  obtain ⟨a, fd, ps, m1, m2, m3, m4⟩ := g.tab.fn f c hT
  have core : ∀ Qs : VK, (∀ d v H', Q d → Same H H' → RV X Hd H' d v → Qs v H') → XW X W Hd σ H XQ → argSem X xs σ H fun vs H1 => lift X.mg X.K c vs H1 Qs (fun cls dd H' => W cls dd σ H') := fun Qs k xw =>
    hs g h1 rx h _ (fun ds vs H1 q s r => lift_of (rx.dom.mono s) r q (fun d v H' qd s' rv => k d v H' qd (s.trans s') rv) (xw.mono s)) xw
  refine four (fun Qs k xw => ?_) rfl fun _ => rfl
  cases xs with
  | nil =>
    refine sem_of (pe_callS0 (E := fun σ cls dd H' => W cls dd σ H') m4 g.room (gl_of g.names g1) m1 m2 m3 (fun σ => passAt g.takes σ) g2) ?_
    have hnil : ∀ {Q : List V → Hp → Prop}, argSem X [] σ H Q → ∀ pins s, Inv X pins σ H s → Q [] H ∨ True := fun _ _ _ _ => .inr trivial
    cases es with
    | nil => exact lift_of rx.dom .nil h k xw
    | cons e r => obtain ⟨x', r', e', _⟩ := i_cons (show cCons (nb e) (chkE N e) (chkEs N r) ns [] = true from h1); cases e'
  | cons x xs =>
    obtain ⟨p1, p2⟩ := noStar_cons hn
    exact sem_of (pe_callS (E := fun σ cls dd H' => W cls dd σ H') m4 g.room (gl_of g.names g1) m1 m2 m3 (fun σ => passAt g.takes σ) pa_sem g2 (star_ok p1) (noStar_back p2)) (core Qs k xw)
theorem liftI_of {X : Cx} {W : WX} {Hd : Addr → Bool} {σ : L2.St} {H1 : Hp} {c : Ct} {ds : List D} {vs : List V} {Q : D → Prop} {XQ : XQ} {Qs : VK} {C x dx : Addr} (dm : Dom Hd H1) (r : RepA X.mg X.K (hid Hd H1) ds vs) (h : c.run ds Q XQ)
    (k : ∀ d v H', Q d → Same H1 H' → RV X Hd H' d v → Qs v H') (xw : XW X W Hd σ H1 XQ) (hx : H1 x = none) (hd : H1 dx = none) (ne : dx ≠ x) :
    liftI X.mg X.K C c (.ref x :: vs) (upd (upd H1 dx (.own x)) x (.ins C dx [])) (fun v H2 => v = .non ∧ Qs (.ref x) H2) (fun cls dd H' => W cls dd σ H') := by
  have s2 : Same H1 (upd (upd H1 dx (.own x)) x (.ins C dx [])) := fun a o e => by
    rw [upd_ne (ne_of_none e hx), upd_ne (ne_of_none e hd)]; exact e
  have hxf : Hd x = false := dm.off hx
  have sb : ∀ {H'}, SameBut x (upd (upd H1 dx (.own x)) x (.ins C dx [])) H' → Same H1 H' := fun {H'} b a o e => b a o (ne_of_none e hx) (s2 a o e)
  refine ⟨x, dx, vs, Hd, ds, rfl, upd_same, hxf, dm.mono s2, r.mono fun a o e => ?_, c.mono h (fun d q H' s rv => ⟨rfl, k d _ H' q (sb s) rv⟩) fun y q cls dd H' s rx => ?_⟩
  · obtain ⟨e1, e2⟩ := of_hid e
    rw [hid_off (by rw [addH_ne (ne_of_none e1 hx)]; exact e2)]
    exact s2 a o e1
  · refine xw y cls dd H' q (sb s) ?_
    obtain ⟨C', r1, r2, r3⟩ := rx
    refine ⟨C', r1, r2, ?_⟩
    rcases r3 with r3 | ⟨a, fv, e1, e2, e3⟩
    · exact .inl r3
    · refine .inr ⟨a, fv, e1, e2, fun f d hl => ?_⟩
      obtain ⟨v, l1, l2⟩ := e3 f d hl
      exact ⟨v, l1, l2.mono (hid_less addH_up)⟩
theorem s_mk {f : Str} {es : Es} (hs : SA T N es) : SE T N (.mk f es) := by
  intro lvl ns X W g ex hc Hd env σ H rx Q XQ h
  obtain ⟨xs, p, q, rfl, hg, hn, h1⟩ := i_call (show cCall f (chkEs N es) ns ex = true from hc)
  obtain ⟨g1, g2⟩ := glB_c hg
  obtain ⟨c, hT, h⟩ : ∃ c, T.cls f = some c ∧ wpEs T es env (fun ds => c.run ds Q XQ) XQ := h
  obtain ⟨C, i, fd, ps, j, m1, m2, m3, m5, m4⟩ := g.tab.cls f c hT
  have hr : Room (j + 1) X.A := g.room.mono m5
  have core : ∀ Qs : VK, (∀ d v H', Q d → Same H H' → RV X Hd H' d v → Qs v H') → XW X W Hd σ H XQ → tMakeS C (liftI X.mg X.K C c) (fun σ cls dd H' => W cls dd σ H') (argSem X xs) σ H Qs := fun Qs k xw =>
    hs g h1 rx h _ (fun ds vs H1 q s r => fun x dx hx hd ne => liftI_of (rx.dom.mono s) r q (fun d v H' qd s' rv => k d v H' qd (s.trans s') rv) (xw.mono s) hx hd ne) xw
  refine four (fun Qs k xw => ?_) rfl fun _ => rfl
  cases xs with
  | nil =>
    refine sem_of (pe_makeS0 (E := fun σ cls dd H' => W cls dd σ H') m2 m4 hr (gl_of g.names g1) m1 m3 (fun σ => passAt g.takes σ) g2) ?_
    cases es with
    | nil => exact fun x dx hx hd ne => liftI_of rx.dom .nil h k xw hx hd ne
    | cons e r => obtain ⟨x', r', e', _⟩ := i_cons (show cCons (nb e) (chkE N e) (chkEs N r) ns [] = true from h1); cases e'
  | cons x xs =>
    obtain ⟨p1, p2⟩ := noStar_cons hn
    exact sem_of (pe_makeS (E := fun σ cls dd H' => W cls dd σ H') m2 m4 hr (gl_of g.names g1) m1 m3 (fun σ => passAt g.takes σ) pa_sem g2 (star_ok p1) (noStar_back p2)) (core Qs k xw)
theorem s_bi {f : BI} {es : Es} (hs : SB T N es) : SE T N (.bi f es) := by
  intro lvl ns X W g ex hc Hd env σ H rx Q XQ h
  obtain ⟨xs, p, q, rfl, hg, hn, h1⟩ := i_call (show cCall (biStr f) (chkBs N es) ns ex = true from hc)
  obtain ⟨g1, g2⟩ := glB_c hg
  have h : wpEs T es env (fun ds => opBi f ds Q) XQ := h
  have hnn : biStr f ≠ "__name__" := by cases f <;> decide +kernel
  have run : ∀ Qs : VK, (argSem X xs σ H fun vs H1 => callSem X (biV f) vs H1 Qs) → wpSem X (.Call (.Name (biStr f) p) xs [] q) σ H Qs := fun Qs hh => by
    cases xs with
    | nil =>
      cases es with
      | nil => exfalso; cases f <;> first | exact h | (obtain ⟨_, e, _⟩ : biSum [] Q := h; cases e) | (rcases (show biSorted [] Q from h) with ⟨_, e, _⟩ | ⟨_, e, _⟩ <;> cases e)
      | cons e r => obtain ⟨x', r', e', _⟩ := i_cons (show cCons true (chkE N e) (chkBs N r) ns [] = true from h1); cases e'
    | cons x xs =>
      obtain ⟨p1, p2⟩ := noStar_cons hn
      rcases biV_boot f with ⟨id, e1, e2⟩ | ⟨t, e1, e2⟩
      · rw [e1] at hh
        exact sem_of (pe_callB callR_sem (gl_of g.names g1) (g.tab.blt f) e2 pa_sem hnn g2 (star_ok p1) (noStar_back p2)) hh
      · rw [e1] at hh
        exact sem_of (pe_callTy callR_sem (gl_of g.names g1) (g.tab.blt f) e2 pa_sem hnn g2 (star_ok p1) (noStar_back p2)) hh
  by_cases hf : f = .list ∨ f = .sorted
  · exact fourO rx.dom (fun Qs k xw => run Qs (hs g h1 rx h _ (fun ds vs H1 qd s r => bi_new hf g.calm qd r fun d z H' qz s' ro => by
      refine k d z H' qz (s.trans s') ?_
      obtain ⟨a, e1, e2, e3, e4⟩ := ro
      exact ⟨a, e1, s.free e2, e3, e4⟩) xw)) fun _ => rfl
  · refine four (fun Qs k xw => run Qs (hs g h1 rx h _ (fun ds vs H1 qd s r => bi_old hf g.calm (rx.dom.mono s) qd r fun d z H' qz s' rz => k d z H' qz (s.trans s') rz) xw)) ?_ fun _ => rfl
    cases f <;> first | rfl | exact absurd (.inl rfl) hf | exact absurd (.inr rfl) hf
theorem s_nilA : SA T N .nil := by
  intro lvl ns X W g xs hc Hd env σ H rx Q XQ h
  have e := i_nil (show cNil ns xs = true from hc)
  subst e
  exact denA_nil h
theorem s_consA {e : E} {r : Es} (he : SE T N e) (hr : SA T N r) : SA T N (.cons e r) := by
  intro lvl ns X W g xs hc Hd env σ H rx Q XQ h
  obtain ⟨x, r', rfl, hb, hp, h1, h2⟩ := i_cons (show cCons (nb e) (chkE N e) (chkEs N r) ns xs = true from hc)
  exact denA_cons hp ((he g h1 rx h).1 hb) fun d q H1 s => hr g h2 (rx.mono s) q
theorem s_nilB : SB T N .nil := by
  intro lvl ns X W g xs hc Hd env σ H rx Q XQ h
  have e := i_nil (show cNil ns xs = true from hc)
  subst e
  exact denAB_nil h
theorem s_consB {e : E} {r : Es} (he : SE T N e) (hr : SB T N r) : SB T N (.cons e r) := by
  intro lvl ns X W g xs hc Hd env σ H rx Q XQ h
  obtain ⟨x, r', rfl, hb, hp, h1, h2⟩ := i_cons (show cCons true (chkE N e) (chkBs N r) ns xs = true from hc)
  exact denAB_cons hp ((he g h1 rx h).2.1) fun d q H1 s => hr g h2 (rx.mono s) q
theorem s_seq {e : E} (he : SE T N e) : SI T N (.seq e) := by
  intro lvl ns X W g iter hc Hd env σ H rx Q XQ tg h
  obtain ⟨hb, h1⟩ := and_c (show (nb e && chkE N e ns iter) = true from hc)
  exact den_seq ((he g h1 rx h).1 hb)
theorem s_rng {a : E} (ha : SE T N a) : SI T N (.rng a) := by
  intro lvl ns X W g iter hc Hd env σ H rx Q XQ tg h
  obtain ⟨x, p, q, rfl, hg, hp, hb, h1⟩ := i_rng (show cRng (nb a) (chkE N a) ns iter = true from hc)
  exact den_rng (gl_of g.names (glB_c hg).1) g.tab.rng hp ((ha g h1 rx h).1 hb)
theorem s_rng2 {a b : E} (ha : SE T N a) (hb : SE T N b) : SI T N (.rng2 a b) := by
  intro lvl ns X W g iter hc Hd env σ H rx Q XQ tg h
  obtain ⟨x, z, p, q, rfl, hg, hp, hp2, hk, h1, h2⟩ := i_rng2 (show cRng2 (nb a && nb b) (chkE N a) (chkE N b) ns iter = true from hc)
  obtain ⟨k1, k2⟩ := and_c hk
  exact den_rng2 (gl_of g.names (glB_c hg).1) g.tab.rng hp hp2 ((ha g h1 rx h).1 k1) fun x hx H1 s => (hb g h2 (rx.mono s) hx).1 k2
end
end Lp
namespace Lp
open PySem L2
/-! ## comprehensions -/
section
variable {J : It} {n : Nat} {G : Hp → Prop} {Y : Nat → Hp → V → Hp → Prop}
/-- as L2.lc_it, from any heap -/
theorem lc_itG (w : Walk J n G Y) {g : TG} {vs : List Nat} {σ : L2.St} {H0 : Hp} {Qd : Hp → Prop} {K : (Hp → Prop) → L2.St → Hp → Prop} (Pv : Nat → Hp → Prop) (h0 : Pv 0 H0) (hG : ∀ i H, i ≤ n → Pv i H → G H)
    (hs : ∀ i x H H', i < n → Pv i H → Y i H x H' → g x (wipe σ vs) H' fun σ2 H2 => wipe σ2 vs = wipe σ vs ∧ K (Pv (i + 1)) σ2 H2) (hd : ∀ H, Pv n H → Qd H) :
    ∃ W : Nat → Nat → Hp → Prop, (∃ m, W 0 m H0) ∧ ∀ i m H, W i m H →
      (J.stop i H ∧ Qd H) ∨ (J.go i H ∧ ∃ Nx : Hp → Prop, (∀ H', Nx H' → ∃ m', m' < m ∧ W (i + 1) m' H') ∧ ∀ x H', J.yld i H x H' → g x (wipe σ vs) H' fun σ2 H2 => wipe σ2 vs = wipe σ vs ∧ K Nx σ2 H2) := by
  refine ⟨fun i m H => m = n - i ∧ i ≤ n ∧ Pv i H, ⟨n, by simp, Nat.zero_le _, h0⟩, ?_⟩
  rintro i m H ⟨rfl, hi, p⟩
  have q := hG i H hi p
  by_cases hlt : i < n
  · exact .inr ⟨w.goes i H hlt q, Pv (i + 1), fun H' p' => ⟨n - (i + 1), by omega, rfl, hlt, p'⟩, fun x H' y => hs i x H H' hlt p (w.yields i H x H' hlt q y)⟩
  · have e : i = n := by omega
    subst e
    exact .inl ⟨w.stops H q, hd H p⟩
end
theorem wpFold_drop {β : Type} {step : D → β → (β → Prop) → Prop} {xs : List D} {i : Nat} {d : D} {b : β} {Q : β → Prop} (h : xs[i]? = some d) (w : wpFold step (xs.drop i) b Q) : step d b fun b' => wpFold step (xs.drop (i + 1)) b' Q := by
  obtain ⟨hl, e⟩ := List.getElem?_eq_some_iff.mp h
  rw [List.drop_eq_getElem_cons hl, e] at w
  exact w
/-- what is seen at H1 is seen with D hidden -/
theorem seen_new {Hd : Addr → Bool} {H1 H' : Hp} {D : Addr} (hD : H1 D = none) (s : Same H1 H') : Same (hid Hd H1) (hid (addH Hd D) H') := fun a u h => by
  obtain ⟨h1, h2⟩ := of_hid h
  have hn : a ≠ D := fun e => by rw [e, hD] at h1; cases h1
  rw [hid_off (by rw [addH_ne hn]; exact h2)]
  exact s a u h1
theorem same_new {H1 H' : Hp} {D : Addr} {o : HO} (hD : H1 D = none) (s : Same H1 H') : Same H1 (upd H' D o) := fun a u h => by
  rw [upd_ne (ne_of_none h hD)]; exact s a u h
/-- the tests of a comprehension, in every block -/
def ifsR (X : Cx) (scope : Scope) (ifs : List Expr) : TT := fun σ H Q => match ifs with
  | [] => Q true H
  | [i] => ∀ (s0 : Shared) (H0 : Hp) (C : Addr) (cl : List (Str × Addr)) (fp : List Addr), wpTst (X.blk s0 H0 scope (compEnvC scope cl C X.env) fp) i σ H Q
  | _ => False
theorem pts_ifs {X : Cx} {scope : Scope} {ifs : List Expr} (s0 : Shared) (H0 : Hp) (C : Addr) (cl : List (Str × Addr)) (fp : List Addr) (hl : ifs.length ≤ 1) : PTs (X.blk s0 H0 scope (compEnvC scope cl C X.env) fp) ifs (ifsR X scope ifs) := by
  match ifs, hl with
  | [], _ => exact pts_nil
  | [i], _ => exact pts_one ⟨fun pins s σ H Q I h => h s0 H0 C cl fp pins s I⟩
def eltR (X : Cx) (scope : Scope) (e : Expr) : TE := fun σ H Q => ∀ (s0 : Shared) (H0 : Hp) (C : Addr) (cl : List (Str × Addr)) (fp : List Addr), wpSem (X.blk s0 H0 scope (compEnvC scope cl C X.env) fp) e σ H Q
theorem pe_elt {X : Cx} {scope : Scope} {e : Expr} (s0 : Shared) (H0 : Hp) (C : Addr) (cl : List (Str × Addr)) (fp : List Addr) : PE (X.blk s0 H0 scope (compEnvC scope cl C X.env) fp) e (eltR X scope e) := ⟨fun pins s σ H Q I h => h s0 H0 C cl fp pins s I⟩
theorem cIfs_len {b kc : Bool} {c : CkE} {ns : Nms} {ifs : List Expr} (h : cIfs b kc c ns ifs = true) : ifs.length ≤ 1 := by
  match ifs, h with
  | [], _ => exact Nat.zero_le _
  | [_], _ => exact Nat.le_refl _
  | _ :: _ :: _, h => cases h
theorem xw_false {X : Cx} {W : WX} {Hd : Addr → Bool} {σ : L2.St} {H : Hp} : XW X W Hd σ H (fun _ => False) := fun _ _ _ _ q => q.elim
section
variable {T : Tab} {N : List Str} {lvl : Nat} {ns : Nms} {X : Cx} {W : WX}
theorem isT_c {c : E} (h : isT c = true) : c = .bl true := by
  unfold isT at h
  split at h
  · rfl
  · cases h
/-- one test -/
theorem ifs_ok (g : Good T lvl N ns X W) {scope : Scope} (hk : scope.kind = .function) {ifs : List Expr} {c : E} (sc : SE T N c) (hi : cIfs (isT c) (tb c) (chkE N c) (relN scope.names ns) ifs = true)
    {Hd : Addr → Bool} {env : Env} {σ : L2.St} {H : Hp} (rx : RX X Hd env σ H) {Q : D → Prop} (hq : ∀ d, Q d → ∃ b, d = .bl b) (h : wpE T c env Q (fun _ => False)) {Qb : Bool → Hp → Prop} (k : ∀ b H', Q (.bl b) → Same H H' → Qb b H') : ifsR X scope ifs σ H Qb := by
  match ifs, hi with
  | [], hi =>
    have ec : c = .bl true := isT_c hi
    subst ec
    exact k true H h (Same.refl H)
  | [i], hi =>
    obtain ⟨h1, h2⟩ := and_c (show (tb c && chkE N c (relN scope.names ns) i) = true from hi)
    exact fun s0 H0 C cl fp => (sc (g.blk hk s0 H0 C cl fp) h2 (X := X.blk s0 H0 scope (compEnvC scope cl C X.env) fp) ⟨rx.dom, rx.len, rx.fz, rx.ow⟩ h).2.2.2 h1 hq Qb k xw_false
  | _ :: _ :: _, hi => cases hi
theorem elt_ok (g : Good T lvl N ns X W) {scope : Scope} (hk : scope.kind = .function) {ex : Expr} {e : E} (se : SE T N e) (hb : nb e = true) (h1 : chkE N e (relN scope.names ns) ex = true)
    {Hd : Addr → Bool} {env : Env} {σ : L2.St} {H : Hp} (rx : RX X Hd env σ H) {Q : D → Prop} (h : wpE T e env Q (fun _ => False)) {Qs : VK} (k : ∀ d v H', Q d → Same H H' → RV X Hd H' d v → Qs v H') : eltR X scope ex σ H Qs :=
  fun s0 H0 C cl fp => (se (g.blk hk s0 H0 C cl fp) h1 (X := X.blk s0 H0 scope (compEnvC scope cl C X.env) fp) ⟨rx.dom, rx.len, rx.fz, rx.ow⟩ h).1 hb Qs k xw_false
theorem wipe_keep {σ σ2 : L2.St} {own : List Nat} {t : Tg} (ht : tgIn own t = true) (hl : σ2.length = (L2.wipe σ own).length) (h : ∀ j, j ∉ tgSl t → σ2[j]? = (L2.wipe σ own)[j]?) : L2.wipe σ2 own = L2.wipe σ own := by
  refine wipe_eq (by rw [hl, wipe_len]) fun j hj => ?_
  rw [h j, wipe_get, if_neg (fun z => hj z.1)]
  intro z
  cases t with
  | nm i =>
    have : i ∈ own := of_decide_eq_true ht
    rcases List.mem_cons.mp z with e | e
    · exact hj (e ▸ this)
    · cases e
  | tp is =>
    have : ∀ i ∈ is, decide (i ∈ own) = true := List.all_eq_true.mp ht
    exact hj (of_decide_eq_true (this j z))
/-- a comprehension's reading, as a value and stored -/
def LcOk (X : Cx) (W : WX) (ex : Expr) (Hd : Addr → Bool) (σ : L2.St) (H : Hp) (Q : D → Prop) (XQ : XQ) : Prop := ∃ t0 : TE, PE X ex t0 ∧
  (∀ (i : Nat) (y : Str) (py spos : Pos), X.N[i]? = some y → X.env.scope.names.lookup y = some .local → swapsWith ex (some (.Name y py)) spos.line X.env = pure true → PS X (.Assign [.Name y py] ex spos) (tAsg t0 (gName i))) ∧
  ∀ Qs : VK, (∀ d v H', Q d → Same H H' → RO X Hd H H' d v → Qs v H') → XW X W Hd σ H XQ → t0 σ H Qs
theorem c_lc {own : List Nat} {t : Tg} {it : Src} {c e : E} (si : SI T N it) (sc : SE T N c) (se : SE T N e) {lvl : Nat} {ns : Nms} {X : Cx} {W : WX} (g : Good T lvl N ns X W) {ex : Expr} (hc : chkE N (.lc own t it c e) ns ex = true) {Hd : Addr → Bool} {env : Env} {σ : L2.St} {H : Hp} (rx : RX X Hd env σ H)
    {Q : D → Prop} {XQ : XQ} (h : wpE T (.lc own t it c e) env Q XQ) : LcOk X W ex Hd σ H Q XQ := by
  obtain ⟨elt, tg, iter, ifs, scope, p, rfl, h1, h2, h3, h4, h5, h6, h7, h8, h9⟩ := i_lc (show cLc N own t (nb e) (isT c) (tb c) (chkI N it) (chkE N c) (chkE N e) ns ex = true from hc)
  have ok := blkOk_of (X := X) g.names h1
  have hk : scope.kind = .function := ok.kind
  have h : wpSrc T it env (fun items => wpFold (fun x acc K => ∃ env', bindT t x (wipeE env own) = some env' ∧ wpE T c env' (fun b => match b with
        | .bl true => wpE T e env' (fun y => acc.length < sizeLine ∧ K (acc ++ [y])) (fun _ => False) | .bl false => K acc | _ => False) (fun _ => False)) items [] fun r => Q (.lst r)) XQ := h
  refine ⟨_, pe_lc (own := ownN N own) (g := gT X.K t) (tt := ifsR X scope ifs) (te := eltR X scope elt) g.calm g.nd pi_sem (by rw [g.hN]; exact ok) (fun s0 H0 C cl fp => pg_tg (X := X.blk s0 H0 scope (compEnvC scope cl C X.env) fp) g.hN g.nd (g.sto s0 H0 C cl fp) g.calm h4)
    (fun s0 H0 C cl fp => pts_ifs s0 H0 C cl fp (cIfs_len h7)) (fun s0 H0 C cl fp => pe_elt s0 H0 C cl fp) (fun x => set_ok h5), fun i y py spos hi hy hsw => ps_setLc (own := ownN N own) (g := gT X.K t) (tt := ifsR X scope ifs) (te := eltR X scope elt) g.calm g.nd hi hy hsw pi_sem (by rw [g.hN]; exact ok) (fun s0 H0 C cl fp => pg_tg (X := X.blk s0 H0 scope (compEnvC scope cl C X.env) fp) g.hN g.nd (g.sto s0 H0 C cl fp) g.calm h4)
    (fun s0 H0 C cl fp => pts_ifs s0 H0 C cl fp (cIfs_len h7)) (fun s0 H0 C cl fp => pe_elt s0 H0 C cl fp) (fun x => set_ok h5), fun Qs k xw => ?_⟩
  show tLc (srcSem X tg iter) (gT X.K t) (ifsR X scope ifs) (eltR X scope elt) ((ownN N own).map (·.2)) σ H Qs
  rw [h2]
  refine si g h6 rx tg h _ (fun items J H1 q s wd => ?_) xw
  intro D hD
  obtain ⟨G, Y, walk, wd⟩ := wd
  have hDH : H D = none := s.free hD
  refine lc_it walk (fun i H' => ∃ acc accV, H' D = some (.lst accV) ∧ Same H1 H' ∧ RepA X.mg X.K (hid (addH Hd D) H') acc accV ∧
      wpFold (fun x acc K => ∃ env', bindT t x (wipeE env own) = some env' ∧ wpE T c env' (fun b => match b with
        | .bl true => wpE T e env' (fun y => acc.length < sizeLine ∧ K (acc ++ [y])) (fun _ => False) | .bl false => K acc | _ => False) (fun _ => False)) (items.drop i) acc fun r => Q (.lst r))
    ⟨[], [], upd_same, Same.new hD, .nil, q⟩ (fun i H' _ ⟨acc, accV, _, s1, _, _⟩ => (wd (addH Hd D) H' (seen_new hD s1)).1) (fun i x H' H'' hi pv y => ?_) (fun H' pv => ?_)
  · obtain ⟨acc, accV, a1, a2, a3, a4⟩ := pv
    have dm' : Dom (addH Hd D) H' := ((rx.dom.mono s).mono a2).add' a1
    obtain ⟨s2, d, hd, rd⟩ := (wd (addH Hd D) H' (seen_new hD a2)).2 dm' i x H'' hi y
    obtain ⟨env', b1, b2⟩ := wpFold_drop hd a4
    have rx2 : RX X (addH Hd D) env σ H'' := rx.addNew hDH ((s.trans a2).trans s2) (s2 _ _ a1)
    refine g_tg b1 rd (rx2.wipe own) fun σ2 r2 l2 k2 => ⟨wipe_keep h3 l2 k2, ?_⟩
    refine ifs_ok g hk sc h7 r2 (fun d q => by cases d <;> first | exact False.elim q | exact ⟨_, rfl⟩) b2 fun b H3 qb s3 => ?_
    cases b with
    | true =>
      rw [if_pos rfl]
      refine elt_ok g hk se h8 h9 (r2.mono s3) qb fun dd v H4 qd s4 rv => ?_
      have s14 := ((a2.trans s2).trans s3).trans s4
      refine ⟨accV, s4 _ _ (s3 _ _ (s2 _ _ a1)), by rw [← a3.length]; exact qd.1, acc ++ [dd], accV ++ [v], upd_same, same_new hD s14, ?_, qd.2⟩
      rw [hid_upd addH_same]
      exact (a3.mono (hid_same ((s2.trans s3).trans s4))).append (RepA.one rv)
    | false =>
      rw [if_neg Bool.false_ne_true]
      exact ⟨acc, accV, s3 _ _ (s2 _ _ a1), (a2.trans s2).trans s3, a3.mono (hid_same (s2.trans s3)), qb⟩
  · obtain ⟨acc, accV, a1, a2, a3, a4⟩ := pv
    rw [List.drop_length] at a4
    exact k _ _ H' a4 (s.trans a2) ⟨D, rfl, hDH, .lst a1 a3, fun _ e => nomatch e⟩
theorem LcOk.sem {X : Cx} {W : WX} {ex : Expr} {Hd : Addr → Bool} {σ : L2.St} {H : Hp} {Q : D → Prop} {XQ : XQ} (h : LcOk X W ex Hd σ H Q XQ) : DenO X W ex Hd σ H Q XQ := fun Qs k xw => by
  obtain ⟨t0, h1, _, h3⟩ := h
  exact sem_of h1 (h3 Qs k xw)
theorem s_lc {own : List Nat} {t : Tg} {it : Src} {c e : E} (si : SI T N it) (sc : SE T N c) (se : SE T N e) : SE T N (.lc own t it c e) := by
  intro lvl ns X W g ex hc Hd env σ H rx Q XQ h
  have l := c_lc si sc se g hc rx h
  obtain ⟨elt, tg, iter, ifs, scope, p, rfl, _⟩ := i_lc (show cLc N own t (nb e) (isT c) (tb c) (chkI N it) (chkE N c) (chkE N e) ns ex = true from hc)
  exact fourO rx.dom l.sem fun _ => rfl
theorem i_lc2 {own t t2 kc kc2} {b b2 b3 : Bool} {c c2 e si si2 : CkE} {ex : Expr} (h : cLc2 N own t t2 b b2 kc b3 kc2 si si2 c c2 e ns ex = true) : ∃ elt tg iter ifs tg2 iter2 ifs2 scope p, ex = .ListComp elt [⟨tg, iter, ifs, 0⟩, ⟨tg2, iter2, ifs2, 0⟩] scope p ∧ blkC N (mkS ns) scope (ownN N own) = true ∧ (ownN N own).map (·.2) = own ∧ tgIn own t = true ∧
    chkT N scope.names (relN scope.names ns) t tg = true ∧ noSet iter = true ∧ si ns iter = true ∧ (tgIn own t2 = true ∧ chkT N scope.names (relN scope.names ns) t2 tg2 = true ∧ noSet iter2 = true ∧ si2 (relN scope.names ns) iter2 = true) ∧
    cIfs b2 kc c (relN scope.names ns) ifs = true ∧ cIfs b3 kc2 c2 (relN scope.names ns) ifs2 = true ∧ b = true ∧ e (relN scope.names ns) elt = true := by
  unfold cLc2 at h
  split at h
  · simp only [Bool.and_eq_true, decide_eq_true_eq] at h
    obtain ⟨⟨⟨⟨⟨⟨⟨⟨⟨rfl, rfl⟩, h1⟩, h2⟩, h3⟩, h4⟩, h5⟩, h6⟩, ⟨⟨h7, h8⟩, h9⟩, h10⟩, ⟨⟨h11, h12⟩, h13⟩, h14⟩ := h
    exact ⟨_, _, _, _, _, _, _, _, _, rfl, h1, h2, h3, h4, h5, h6, ⟨h7, h8, h9, h10⟩, h11, h12, h13, h14⟩
  · cases h
theorem tgIn_mem {own : List Nat} {t : Tg} (h : tgIn own t = true) : ∀ i ∈ tgSl t, i ∈ own := fun i hi => by
  cases t with
  | nm j =>
    rcases List.mem_cons.mp hi with e | e
    · rw [e]; exact of_decide_eq_true h
    · cases e
  | tp is => exact of_decide_eq_true ((List.all_eq_true.mp (show is.all (fun i => decide (i ∈ own)) = true from h)) i hi)
theorem tgIn_self (t : Tg) : tgIn (tgSl t) t = true := by
  cases t with
  | nm j => exact decide_eq_true (List.mem_cons_self ..)
  | tp is => exact List.all_eq_true.mpr fun i hi => decide_eq_true hi
def noOwn (env : Env) : Prop := ∀ (i : Nat) (d : D), env[i]? ≠ some (some (true, d))
theorem noOwn_drop (env : Env) : noOwn (dropO env) := fun i d h => by
  unfold dropO at h
  rw [List.getElem?_map] at h
  cases e : env[i]? with
  | none => rw [e] at h; cases h
  | some s =>
    rw [e] at h
    cases s with
    | none => cases h
    | some p =>
      obtain ⟨b, d'⟩ := p
      cases b <;> cases h
theorem noOwn_set {env : Env} (h : noOwn env) (i : Nat) (s : Option (Bool × D)) (hs : ∀ d, s ≠ some (true, d)) : noOwn (env.set i s) := fun j d e => by
  by_cases hj : i = j
  · subst hj
    have hl : i < env.length := by
      have := (List.getElem?_eq_some_iff.mp e).1
      rwa [List.length_set] at this
    rw [List.getElem?_set_self hl] at e
    exact hs d (Option.some.inj e)
  · rw [List.getElem?_set_ne hj] at e
    exact h j d e
theorem noOwn_wipe {env : Env} (h : noOwn env) : ∀ own : List Nat, noOwn (wipeE env own)
  | [] => h
  | v :: vs => noOwn_set (noOwn_wipe h vs) v none fun d z => nomatch z
theorem noOwn_binds : ∀ {is : List Nat} {ds : List D} {env env' : Env}, noOwn env → bindTs is ds env = some env' → noOwn env'
  | [], [], env, env', h, e => by cases (show some env = some env' from e); exact h
  | i :: is, d :: ds, env, env', h, e => noOwn_binds (noOwn_set h i _ fun d z => by cases z) (show bindTs is ds _ = some env' from e)
  | [], _ :: _, _, _, _, e => by cases e
  | _ :: _, [], _, _, _, e => by cases e
theorem noOwn_bind {t : Tg} {d : D} {env env' : Env} (h : noOwn env) (e : bindT t d env = some env') : noOwn env' := by
  cases t with
  | nm i => cases (show some _ = some env' from e); exact noOwn_set h i _ fun d z => nomatch z
  | tp is => cases d <;> first | (cases e; done) | exact noOwn_binds h e
theorem RX.monoF {X : Cx} {Hd : Addr → Bool} {env : Env} {σ : L2.St} {H H' : Hp} (r : RX X Hd env σ H) (no : noOwn env) (dm : Dom Hd H') (s : Same (hid Hd H) (hid Hd H')) : RX X Hd env σ H' :=
  ⟨dm, r.len, fun i d h => let ⟨v, x1, x2⟩ := r.fz i d h; ⟨v, x1, x2.mono s⟩, fun i d h => absurd h (no i d)⟩
theorem RX.drop {X : Cx} {Hd : Addr → Bool} {env : Env} {σ : L2.St} {H : Hp} (r : RX X Hd env σ H) : RX X Hd (dropO env) σ H := by
  refine ⟨r.dom, by unfold dropO; rw [List.length_map]; exact r.len, fun i d h => ?_, fun i d h => absurd h (noOwn_drop env i d)⟩
  unfold dropO at h
  rw [List.getElem?_map] at h
  cases e : env[i]? with
  | none => rw [e] at h; cases h
  | some s =>
    rw [e] at h
    cases s with
    | none => cases h
    | some p =>
      obtain ⟨b, d'⟩ := p
      cases b
      · cases h; exact r.fz i d e
      · cases h
def srcR (X : Cx) (scope : Scope) (tg iter : Expr) : TI := fun σ H R => ∀ (s0 : Shared) (H0 : Hp) (C : Addr) (cl : List (Str × Addr)) (fp : List Addr), srcSem (X.blk s0 H0 scope (compEnvC scope cl C X.env) fp) tg iter σ H R
theorem pi_srcR {X : Cx} {scope : Scope} {tg iter : Expr} (s0 : Shared) (H0 : Hp) (C : Addr) (cl : List (Str × Addr)) (fp : List Addr) : PI (X.blk s0 H0 scope (compEnvC scope cl C X.env) fp) tg iter (srcR X scope tg iter) := ⟨fun pins s σ H R I h => h s0 H0 C cl fp pins s I⟩
theorem c_lc2 {own : List Nat} {t t2 : Tg} {it it2 : Src} {c c2 e : E} (si : SI T N it) (sc : SE T N c) (si2 : SI T N it2) (sc2 : SE T N c2) (se : SE T N e) {lvl : Nat} {ns : Nms} {X : Cx} {W : WX} (g : Good T lvl N ns X W) {ex : Expr} (hc : chkE N (.lc2 own t it c t2 it2 c2 e) ns ex = true) {Hd : Addr → Bool} {env : Env} {σ : L2.St} {H : Hp} (rx : RX X Hd env σ H)
    {Q : D → Prop} {XQ : XQ} (h : wpE T (.lc2 own t it c t2 it2 c2 e) env Q XQ) : LcOk X W ex Hd σ H Q XQ := by
  obtain ⟨elt, tg, iter, ifs, tg2, iter2, ifs2, scope, p, rfl, h1, h2, h3, h4, h5, h6, ⟨k1, k2, k3, k4⟩, h7, h10, h8, h9⟩ :=
    i_lc2 (show cLc2 N own t t2 (nb e) (isT c) (tb c) (isT c2) (tb c2) (chkI N it) (chkI N it2) (chkE N c) (chkE N c2) (chkE N e) ns ex = true from hc)
  have ok := blkOk_of (X := X) g.names h1
  have hk : scope.kind = .function := ok.kind
  generalize hst2 : (fun (env' : Env) (x2 : D) (acc : List D) (K : List D → Prop) => ∃ env2, bindT t2 x2 (wipeE env' (tgSl t2)) = some env2 ∧ wpE T c2 env2 (fun b => match b with
            | .bl true => wpE T e env2 (fun y => acc.length < sizeLine ∧ K (acc ++ [y])) (fun _ => False) | .bl false => K acc | _ => False) (fun _ => False)) = st2
  generalize hst : (fun (x : D) (acc : List D) (K : List D → Prop) => ∃ env', bindT t x (wipeE (dropO env) own) = some env' ∧ wpE T c env' (fun b => match b with
        | .bl true => wpSrc T it2 env' (fun items2 => wpFold (st2 env') items2 acc K) (fun _ => False) | .bl false => K acc | _ => False) (fun _ => False)) = st
  have h : wpSrc T it env (fun items => wpFold st items [] fun r => Q (.lst r)) XQ := by
    rw [← hst, ← hst2]
    exact h
  refine ⟨_, pe_lc2 (own := ownN N own) (vs1 := tgSl t2) (g := gT X.K t) (g1 := gT X.K t2) (tt := ifsR X scope ifs) (tt1 := ifsR X scope ifs2) (wi1 := srcR X scope tg2 iter2) (te := eltR X scope elt) g.calm g.nd pi_sem (by rw [g.hN]; exact ok) (by rw [h2]; exact tgIn_mem k1)
    (fun s0 H0 C cl fp => pg_tg (X := X.blk s0 H0 scope (compEnvC scope cl C X.env) fp) g.hN g.nd (g.sto s0 H0 C cl fp) g.calm h4) (fun s0 H0 C cl fp => pts_ifs s0 H0 C cl fp (cIfs_len h7)) (fun s0 H0 C cl fp => pi_srcR s0 H0 C cl fp)
    (fun s0 H0 C cl fp => pg_tg (X := X.blk s0 H0 scope (compEnvC scope cl C X.env) fp) g.hN g.nd (g.sto s0 H0 C cl fp) g.calm k2) (fun s0 H0 C cl fp => pts_ifs s0 H0 C cl fp (cIfs_len h10)) (fun s0 H0 C cl fp => pe_elt s0 H0 C cl fp) (fun x => set_ok h5) (fun en x => set_ok k3), fun i y py spos hi hy hsw => ps_setLc2 (own := ownN N own) (vs1 := tgSl t2) (g := gT X.K t) (g1 := gT X.K t2) (tt := ifsR X scope ifs) (tt1 := ifsR X scope ifs2) (wi1 := srcR X scope tg2 iter2) (te := eltR X scope elt) g.calm g.nd hi hy hsw pi_sem (by rw [g.hN]; exact ok) (by rw [h2]; exact tgIn_mem k1)
    (fun s0 H0 C cl fp => pg_tg (X := X.blk s0 H0 scope (compEnvC scope cl C X.env) fp) g.hN g.nd (g.sto s0 H0 C cl fp) g.calm h4) (fun s0 H0 C cl fp => pts_ifs s0 H0 C cl fp (cIfs_len h7)) (fun s0 H0 C cl fp => pi_srcR s0 H0 C cl fp)
    (fun s0 H0 C cl fp => pg_tg (X := X.blk s0 H0 scope (compEnvC scope cl C X.env) fp) g.hN g.nd (g.sto s0 H0 C cl fp) g.calm k2) (fun s0 H0 C cl fp => pts_ifs s0 H0 C cl fp (cIfs_len h10)) (fun s0 H0 C cl fp => pe_elt s0 H0 C cl fp) (fun x => set_ok h5) (fun en x => set_ok k3), fun Qs k xw => ?_⟩
  show tLc2 (srcSem X tg iter) (gT X.K t) (ifsR X scope ifs) (srcR X scope tg2 iter2) (gT X.K t2) (ifsR X scope ifs2) (eltR X scope elt) ((ownN N own).map (·.2)) (tgSl t2) σ H Qs
  rw [h2]
  refine si g h6 rx tg h _ (fun items J H1 q s wd => ?_) xw
  intro D hD
  obtain ⟨G, Y, walk, wd⟩ := wd
  have hDH : H D = none := s.free hD
  refine lc_itG walk (K := fun P σ2 H2 => ifsR X scope ifs σ2 H2 fun b H3 => if b = true then srcR X scope tg2 iter2 σ2 H3 fun J1 H4 => ∃ W1 : Nat → Nat → Hp → Prop, (∃ m, W1 0 m H4) ∧ ∀ j k H, W1 j k H →
      (J1.stop j H ∧ P H) ∨ (J1.go j H ∧ ∃ Nx1 : Hp → Prop, (∀ H', Nx1 H' → ∃ k', k' < k ∧ W1 (j + 1) k' H') ∧ ∀ x H', J1.yld j H x H' → gT X.K t2 x (wipe σ2 (tgSl t2)) H' fun σ3 H5 => wipe σ3 (tgSl t2) = wipe σ2 (tgSl t2) ∧ ifsR X scope ifs2 σ3 H5 fun b H6 =>
        if b = true then eltR X scope elt σ3 H6 fun y H7 => ∃ acc, H7 D = some (.lst acc) ∧ acc.length < sizeLine ∧ Nx1 (upd H7 D (.lst (acc ++ [y]))) else Nx1 H6) else P H3)
    (fun i H' => ∃ acc accV, H' D = some (.lst accV) ∧ Same H1 H' ∧ RepA X.mg X.K (hid (addH Hd D) H') acc accV ∧ wpFold st (items.drop i) acc fun r => Q (.lst r))
    ⟨[], [], upd_same, Same.new hD, .nil, q⟩ (fun i H' _ ⟨acc, accV, _, s1, _, _⟩ => (wd (addH Hd D) H' (seen_new hD s1)).1) (fun i x H' H'' hi pv y => ?_) (fun H' pv => ?_)
  · obtain ⟨acc, accV, a1, a2, a3, a4⟩ := pv
    have dm' : Dom (addH Hd D) H' := ((rx.dom.mono s).mono a2).add' a1
    obtain ⟨s2, d, hd, rd⟩ := (wd (addH Hd D) H' (seen_new hD a2)).2 dm' i x H'' hi y
    have a5 := wpFold_drop hd a4
    rw [← hst] at a5
    obtain ⟨env', b1, b2⟩ := a5
    rw [hst] at b2
    have rx2 : RX X (addH Hd D) (dropO env) σ H'' := (rx.addNew hDH ((s.trans a2).trans s2) (s2 _ _ a1)).drop
    have no' : noOwn env' := noOwn_bind (noOwn_wipe (noOwn_drop env) own) b1
    refine g_tg b1 rd (rx2.wipe own) fun σ2 r2 l2 k2' => ⟨wipe_keep h3 l2 k2', ?_⟩
    refine ifs_ok g hk sc h7 r2 (fun d q => by cases d <;> first | exact False.elim q | exact ⟨_, rfl⟩) b2 fun b H3 qb s3 => ?_
    cases b with
    | false =>
      rw [if_neg Bool.false_ne_true]
      exact ⟨acc, accV, s3 _ _ (s2 _ _ a1), (a2.trans s2).trans s3, a3.mono (hid_same (s2.trans s3)), qb⟩
    | true =>
      rw [if_pos rfl]
      intro s0 H0 C cl fp
      have r3 := r2.mono s3
      refine si2 (g.blk hk s0 H0 C cl fp) k4 (X := X.blk s0 H0 scope (compEnvC scope cl C X.env) fp) ⟨r3.dom, r3.len, r3.fz, r3.ow⟩ tg2 qb _ (fun items2 J1 H4 q4 s4 wd1 => ?_) xw_false
      obtain ⟨G1, Y1, walk1, wd1⟩ := wd1
      have a13 : Same H1 H4 := ((a2.trans s2).trans s3).trans s4
      refine lc_itG walk1 (K := fun P σ3 H5 => ifsR X scope ifs2 σ3 H5 fun b H6 => if b = true then eltR X scope elt σ3 H6 fun y H7 => ∃ acc, H7 D = some (.lst acc) ∧ acc.length < sizeLine ∧ P (upd H7 D (.lst (acc ++ [y]))) else P H6)
        (fun j H' => ∃ acc accV, H' D = some (.lst accV) ∧ Same H1 H' ∧ Same (hid (addH Hd D) H4) (hid (addH Hd D) H') ∧ RepA X.mg X.K (hid (addH Hd D) H') acc accV ∧ wpFold (st2 env') (items2.drop j) acc fun acc' => wpFold st (items.drop (i + 1)) acc' fun r => Q (.lst r))
        ⟨acc, accV, s4 _ _ (s3 _ _ (s2 _ _ a1)), a13, Same.refl _, a3.mono (hid_same ((s2.trans s3).trans s4)), q4⟩ (fun j H' _ ⟨acc, accV, _, _, ss, _, _⟩ => (wd1 (addH Hd D) H' ss).1) (fun j x2 Ha Hb hj pv1 y1 => ?_) (fun Ha pv1 => ?_)
      · obtain ⟨acc, accV, c1, c2', c3, c4, c5⟩ := pv1
        have dmA : Dom (addH Hd D) Ha := ((rx.dom.mono s).mono c2').add' c1
        obtain ⟨s5, d2, hd2, rd2⟩ := (wd1 (addH Hd D) Ha c3).2 dmA j x2 Hb hj y1
        have c6 := wpFold_drop hd2 c5
        rw [← hst2] at c6
        obtain ⟨env2, e1, e2⟩ := c6
        rw [hst2] at e2
        have sf : Same (hid (addH Hd D) H4) (hid (addH Hd D) Hb) := c3.trans (hid_same s5)
        have rxb : RX X (addH Hd D) env' σ2 Hb := (r3.mono s4).monoF no' (dmA.mono s5) sf
        refine g_tg e1 rd2 (rxb.wipe (tgSl t2)) fun σ3 r3' l3 k3' => ⟨wipe_keep (tgIn_self t2) l3 k3', ?_⟩
        refine ifs_ok g hk sc2 h10 r3' (fun d q => by cases d <;> first | exact False.elim q | exact ⟨_, rfl⟩) e2 fun b H6 qb s6 => ?_
        cases b with
        | false =>
          rw [if_neg Bool.false_ne_true]
          exact ⟨acc, accV, s6 _ _ (s5 _ _ c1), (c2'.trans s5).trans s6, sf.trans (hid_same s6), c4.mono (hid_same (s5.trans s6)), qb⟩
        | true =>
          rw [if_pos rfl]
          refine elt_ok g hk se h8 h9 (r3'.mono s6) qb fun dd v H7 qd s7 rv => ?_
          refine ⟨accV, s7 _ _ (s6 _ _ (s5 _ _ c1)), by rw [← c4.length]; exact qd.1, acc ++ [dd], accV ++ [v], upd_same, same_new hD (((c2'.trans s5).trans s6).trans s7), ?_, ?_, qd.2⟩
          · rw [hid_upd addH_same]; exact (sf.trans (hid_same s6)).trans (hid_same s7)
          · rw [hid_upd addH_same]
            exact (c4.mono (hid_same ((s5.trans s6).trans s7))).append (RepA.one rv)
      · obtain ⟨acc, accV, c1, c2', c3, c4, c5⟩ := pv1
        rw [List.drop_length] at c5
        exact ⟨acc, accV, c1, c2', c4, c5⟩
  · obtain ⟨acc, accV, a1, a2, a3, a4⟩ := pv
    rw [List.drop_length] at a4
    exact k _ _ H' a4 (s.trans a2) ⟨D, rfl, hDH, .lst a1 a3, fun _ e => nomatch e⟩
theorem s_lc2 {own : List Nat} {t t2 : Tg} {it it2 : Src} {c c2 e : E} (si : SI T N it) (sc : SE T N c) (si2 : SI T N it2) (sc2 : SE T N c2) (se : SE T N e) : SE T N (.lc2 own t it c t2 it2 c2 e) := by
  intro lvl ns X W g ex hc Hd env σ H rx Q XQ h
  have l := c_lc2 si sc si2 sc2 se g hc rx h
  obtain ⟨elt, tg, iter, ifs, tg2, iter2, ifs2, scope, p, rfl, _⟩ :=
    i_lc2 (show cLc2 N own t t2 (nb e) (isT c) (tb c) (isT c2) (tb c2) (chkI N it) (chkI N it2) (chkE N c) (chkE N c2) (chkE N e) ns ex = true from hc)
  exact fourO rx.dom l.sem fun _ => rfl
end
end Lp
namespace Lp
open PySem L2
/-! ## soundness: the whole syntax of expressions -/
theorem noStar_all {env : PySem.Env} {pos : Pos} : ∀ {es : List Expr}, noStar es = true → (backTo pos (starEach es env)).all (fun x => !x.1) = true
  | [], _ => rfl
  | e :: es, h => by
    obtain ⟨h1, h2⟩ := noStar_cons h
    rw [star_ok h1]
    show ((!false : Bool) && (backTo pos (starEach es env)).all (fun x => !x.1)) = true
    rw [noStar_all h2]; rfl
theorem meth_ev {o : Expr} {m : Str} {apos pos : Pos} {es : List Expr} {env : PySem.Env} (hb : baseX o = true) (hn : noStar es = true) (hl : (apos.endLine == pos.line) = true) (h30 : es.length < 30) : ∃ pl : Sem Bool, eval (.Call (.Attribute o m apos) es [] pos) env = (do
      let ov ← eval o env
      standAt apos.atName
      let (f, first) ← holding [ov] (getMethod ov m pl)
      callWith pos f first (backTo pos (starEach es env)) (backToKw pos (keywordEach [] env))) := by
  rw [eval, base_ok hb]
  have hf : methodCallForm (es.length + ([] : List Keyword).length) (backTo pos (starEach es env)) (backToKw pos (keywordEach [] env)) = true := by
    unfold methodCallForm
    rw [noStar_all hn]
    show (true && true && decide (es.length + 0 + 0 < 30)) = true
    rw [decide_eq_true (by omega)]; rfl
  unfold methodCall
  rw [hf]
  have hp : methodCallPos true o env apos pos = pure pos := by
    unfold methodCallPos
    rw [hl]; rfl
  rw [hp]
  exact ⟨_, rfl⟩
theorem s_meth {T : Tab} {N : List Str} {o : E} {c m : Str} {es : Es} (ho : SE T N o) (hs : SA T N es) : SE T N (.meth o c m es) := by
  intro lvl ns X W g ex hc Hd env σ H rx Q XQ h
  obtain ⟨x, xs, p, q, rfl, hbx, hn, ⟨hl, h30⟩, hk, h1, h2⟩ := i_meth (show cMeth m (nb o) (chkE N o) (chkEs N es) ns ex = true from hc)
  obtain ⟨ct, hT, h⟩ : ∃ ct, T.meth c m = some ct ∧ wpE T o env (fun x => match x with | .ins c' fs => c' = c ∧ fs.lookup m = none ∧ wpEs T es env (fun ds => ct.run (.ins c' fs :: ds) Q XQ) XQ | _ => False) XQ := h
  obtain ⟨C, a, fd, ps, m1, m2, m3, m4, m5⟩ := g.tab.meth c m ct hT
  refine four (fun Qs k xw => ?_) rfl fun _ => rfl
  have core : tMethS C m (lift X.mg X.K ct) (fun σ cls dd H' => W cls dd σ H') (wpSem X x) (argSem X xs) σ H Qs := by
    refine (ho g h1 rx h).1 hk _ (fun d v H1 qd s r => ?_) xw
    cases d <;> first | exact False.elim qd | skip
    obtain ⟨e1, e2, qd⟩ := qd
    subst e1
    cases r with
    | ins r1 r2 r3 =>
      rw [m1] at r2
      cases r2
      refine ⟨_, _, _, rfl, hid_sub _ _ r1, r3.lookNone e2, ?_⟩
      refine hs g h2 (rx.mono s) qd _ (fun ds vs H2 q2 s2 rv => ?_) (xw.mono s)
      refine lift_of (rx.dom.mono (s.trans s2)) (.cons (RV.mono' s2 (.ins r1 m1 r3)) rv) q2 (fun d v H' qq s' rv => k d v H' qq ((s.trans s2).trans s') rv) (xw.mono (s.trans s2))
  cases xs with
  | nil =>
    obtain ⟨pl, hpl⟩ := meth_ev (m := m) (apos := p) (pos := q) (es := []) (env := X.env) hbx hn hl h30
    refine sem_of (pe_methS0 (E := fun σ cls dd H' => W cls dd σ H') pe_sem m2 m3 m5 g.room m4 (fun σ => passAt g.takes σ) hpl) ?_
    cases es with
    | nil =>
      refine (ho g h1 rx h).1 hk _ (fun d v H1 qd s r => ?_) xw
      cases d <;> first | exact False.elim qd | skip
      obtain ⟨e1, e2, qd⟩ := qd
      subst e1
      cases r with
      | ins r1 r2 r3 =>
        rw [m1] at r2
        cases r2
        exact ⟨_, _, _, rfl, hid_sub _ _ r1, r3.lookNone e2, lift_of (rx.dom.mono s) (.cons (.ins r1 m1 r3) .nil) qd (fun d v H' qq s' rv => k d v H' qq (s.trans s') rv) (xw.mono s)⟩
    | cons e r => obtain ⟨x', r', e', _⟩ := i_cons (show cCons (nb e) (chkE N e) (chkEs N r) ns [] = true from h2); cases e'
  | cons y ys =>
    obtain ⟨p1, p2⟩ := noStar_cons hn
    obtain ⟨pl, hpl⟩ := meth_ev (m := m) (apos := p) (pos := q) (es := y :: ys) (env := X.env) hbx hn hl h30
    exact sem_of (pe_methS (E := fun σ cls dd H' => W cls dd σ H') pe_sem m2 m3 m5 g.room m4 (fun σ => passAt g.takes σ) pa_sem (star_ok p1) (noStar_back p2) hpl) core
theorem s_dead {T : Tab} {N : List Str} : SE T N .dead := by
  intro lvl ns X W g ex hc Hd env σ H rx Q XQ h
  exact False.elim h
mutual
theorem sE (T : Tab) (N : List Str) : ∀ e : E, SE T N e
  | .var i => s_var i
  | .bv i => s_bv i
  | .non => s_non
  | .dead => s_dead
  | .bl b => s_bl b
  | .int i => s_int i
  | .str s => s_str s
  | .glb x => s_glb x
  | .bin o a b => s_bin (sE T N a) (sE T N b)
  | .neg a => s_neg (sE T N a)
  | .cmp o a b => s_cmp (sE T N a) (sE T N b)
  | .chain o p a b c => s_chain (sE T N a) (sE T N b) (sE T N c)
  | .din k d => s_din (sE T N k) (sE T N d)
  | .dni k d => s_dni (sE T N k) (sE T N d)
  | .and_ a b => s_and (sE T N a) (sE T N b)
  | .or_ a b => s_or (sE T N a) (sE T N b)
  | .not_ a => s_not (sE T N a)
  | .ife c a b => s_ife (sE T N c) (sE T N a) (sE T N b)
  | .ix a i => s_ix (sE T N a) (sE T N i)
  | .dix a i => s_dix (sE T N a) (sE T N i)
  | .slu a i => s_slu (sE T N a) (sE T N i)
  | .sll a i => s_sll (sE T N a) (sE T N i)
  | .slb a i j => s_slb (sE T N a) (sE T N i) (sE T N j)
  | .rev a => s_rev (sE T N a)
  | .sluL a b => s_sluL (sE T N a) (sE T N b)
  | .mulL a b => s_mulL (sE T N a) (sE T N b)
  | .addL a b => s_addL (sE T N a) (sE T N b)
  | .tup es => s_tup (sA T N es)
  | .lst es => s_lst (sA T N es)
  | .dnew => s_dnew
  | .call f es => s_call (sA T N es)
  | .mk f es => s_mk (sA T N es)
  | .meth o c m es => s_meth (sE T N o) (sA T N es)
  | .fld o f => s_fld (sE T N o)
  | .bi f es => s_bi (sB T N es)
  | .isi a t => s_isi (sE T N a)
  | .join s a => s_join (sE T N s) (sE T N a)
  | .dget d k x => s_dget (sE T N d) (sE T N k) (sE T N x)
  | .lc own t it c e => s_lc (sI T N it) (sE T N c) (sE T N e)
  | .lc2 own t it c t2 it2 c2 e => s_lc2 (sI T N it) (sE T N c) (sI T N it2) (sE T N c2) (sE T N e)
theorem sA (T : Tab) (N : List Str) : ∀ es : Es, SA T N es
  | .nil => s_nilA
  | .cons e r => s_consA (sE T N e) (sA T N r)
theorem sB (T : Tab) (N : List Str) : ∀ es : Es, SB T N es
  | .nil => s_nilB
  | .cons e r => s_consB (sE T N e) (sB T N r)
theorem sI (T : Tab) (N : List Str) : ∀ it : Src, SI T N it
  | .seq e => s_seq (sE T N e)
  | .rng a => s_rng (sE T N a)
  | .rng2 a b => s_rng2 (sE T N a) (sE T N b)
end
end Lp
namespace Lp
open PySem L2
/-! ## statements -/
def ownK : D → Bool
  | .lst _ => true | .dct _ => true | .ins _ _ => true | _ => false
/-- what is known between two statements. Hd0, H0: hidden addresses and heap at the entry; F: what is to stand -/
structure RE (X : Cx) (x0 : Addr) (Hd0 : Addr → Bool) (H0 F : Hp) (Hd : Addr → Bool) (env : Env) (σ : L2.St) (H : Hp) : Prop where
  dom : Dom Hd H
  d0 : Dom Hd0 H0
  len : σ.length = env.length
  fz : ∀ (i : Nat) (d : D), env[i]? = some (some (false, d)) → ∃ v, σ[i]? = some (some v) ∧ Rep X.mg X.K (hid Hd H) d v
  ow : ∀ (i : Nat) (d : D), env[i]? = some (some (true, d)) → ∃ a, σ[i]? = some (some (.ref a)) ∧ Hd a = true ∧ H0 a = none ∧ RepT X.mg X.K H (hid Hd H) d (.ref a) ∧ ownK d = true
  inj : ∀ (i j : Nat) (d e : D) (a : Addr), env[i]? = some (some (true, d)) → env[j]? = some (some (true, e)) → σ[i]? = some (some (.ref a)) → σ[j]? = some (some (.ref a)) → i = j
  up : ∀ a, Hd0 a = true → Hd a = true
  old : ∀ a, Hd a = true → Hd0 a = true ∨ H0 a = none
  same : Same H0 H
  keep : Same F (hid Hd H)
  pin : ∀ d, env[0]? = some (some (true, d)) → σ[0]? = some (some (.ref x0))
section
variable {X : Cx} {W : WX} {x0 : Addr} {Hd0 Hd : Addr → Bool} {H0 F F' H H' : Hp} {env : Env} {σ : L2.St}
theorem RE.rx (r : RE X x0 Hd0 H0 F Hd env σ H) : RX X Hd env σ H := ⟨r.dom, r.len, r.fz, fun i d h => let ⟨a, h1, _, _, h4, _⟩ := r.ow i d h; ⟨.ref a, h1, h4⟩⟩
theorem RE.ext (r : RE X x0 Hd0 H0 F Hd env σ H) (s : Same H H') : RE X x0 Hd0 H0 F Hd env σ H' :=
  ⟨r.dom.mono s, r.d0, r.len, fun i d h => let ⟨v, h1, h2⟩ := r.fz i d h; ⟨v, h1, h2.mono (hid_same s)⟩, fun i d h => let ⟨a, h1, h2, h3, h4, h5⟩ := r.ow i d h; ⟨a, h1, h2, h3, h4.mono s (hid_same s), h5⟩, r.inj, r.up, r.old, r.same.trans s, r.keep.trans (hid_same s), r.pin⟩
theorem RE.weak (r : RE X x0 Hd0 H0 F' Hd env σ H) (s : Same F F') : RE X x0 Hd0 H0 F Hd env σ H := ⟨r.dom, r.d0, r.len, r.fz, r.ow, r.inj, r.up, r.old, r.same, s.trans r.keep, r.pin⟩
theorem RE.here (r : RE X x0 Hd0 H0 F Hd env σ H) : RE X x0 Hd0 H0 (hid Hd H) Hd env σ H := ⟨r.dom, r.d0, r.len, r.fz, r.ow, r.inj, r.up, r.old, r.same, Same.refl _, r.pin⟩
theorem set_get {α : Type} {l : List α} {i j : Nat} {x : α} {e : α} (h : (l.set i x)[j]? = some e) : (i = j ∧ j < l.length ∧ e = x) ∨ (i ≠ j ∧ l[j]? = some e) := by
  by_cases hj : i = j
  · subst hj
    have hl : i < l.length := by
      have := (List.getElem?_eq_some_iff.mp h).1
      rwa [List.length_set] at this
    rw [List.getElem?_set_self hl] at h
    exact .inl ⟨rfl, hl, (Option.some.inj h).symm⟩
  · rw [List.getElem?_set_ne hj] at h
    exact .inr ⟨hj, h⟩
theorem RE.set (r : RE X x0 Hd0 H0 F Hd env σ H) (i : Nat) {d : D} {v : V} (rv : RV X Hd H d v) : RE X x0 Hd0 H0 F Hd (env.set i (some (false, d))) (σ.set i (some v)) H := by
  refine ⟨r.dom, r.d0, by rw [List.length_set, List.length_set]; exact r.len, (r.rx.set i rv).fz, fun j e h => ?_, fun j k d1 d2 a h1 h2 h3 h4 => ?_, r.up, r.old, r.same, r.keep, fun e h => ?_⟩
  · rcases set_get h with ⟨_, _, e'⟩ | ⟨hj, h⟩
    · cases e'
    · rw [List.getElem?_set_ne hj]; exact r.ow j e h
  · rcases set_get h1 with ⟨_, _, e'⟩ | ⟨hj, h1⟩
    · cases e'
    · rcases set_get h2 with ⟨_, _, e'⟩ | ⟨hk, h2⟩
      · cases e'
      · rw [List.getElem?_set_ne hj] at h3
        rw [List.getElem?_set_ne hk] at h4
        exact r.inj j k d1 d2 a h1 h2 h3 h4
  · rcases set_get h with ⟨_, _, e'⟩ | ⟨hj, h⟩
    · cases e'
    · rw [List.getElem?_set_ne hj]; exact r.pin e h
theorem RE.setO (r : RE X x0 Hd0 H0 F Hd env σ H) (i : Nat) (hi : i ≠ 0) {d : D} {a : Addr} (s : Same H H') (hn : H a = none) (ha : ∃ o, H' a = some o) (rt : RepT X.mg X.K H' (hid (addH Hd a) H') d (.ref a)) (ok : ownK d = true) :
    RE X x0 Hd0 H0 F (addH Hd a) (env.set i (some (true, d))) (σ.set i (some (.ref a))) H' := by
  obtain ⟨o, ha⟩ := ha
  have sn : Same (hid Hd H) (hid (addH Hd a) H') := seen_new hn s
  have h0 : H0 a = none := r.same.free hn
  have ne : ∀ {b : Addr}, Hd b = true → b ≠ a := fun {b} hb e => by rw [e] at hb; exact r.dom a hb hn
  refine ⟨(r.dom.mono s).add' ha, r.d0, by rw [List.length_set, List.length_set]; exact r.len, fun j e h => ?_, fun j e h => ?_, fun j k d1 d2 b h1 h2 h3 h4 => ?_, fun b hb => addH_up b (r.up b hb), fun b hb => ?_, r.same.trans s, r.keep.trans sn, fun e h => by rw [List.getElem?_set_ne hi] at h ⊢; exact r.pin e h⟩
  · rcases set_get h with ⟨_, _, e'⟩ | ⟨hj, h⟩
    · cases e'
    · rw [List.getElem?_set_ne hj]
      obtain ⟨v, h1, h2⟩ := r.fz j e h
      exact ⟨v, h1, h2.mono sn⟩
  · rcases set_get h with ⟨hij, hl, e'⟩ | ⟨hj, h⟩
    · cases e'
      subst hij
      exact ⟨a, List.getElem?_set_self (by rw [r.len]; exact hl), addH_same, h0, rt, ok⟩
    · rw [List.getElem?_set_ne hj]
      obtain ⟨b, h1, h2, h3, h4, h5⟩ := r.ow j e h
      exact ⟨b, h1, addH_up b h2, h3, h4.mono s sn, h5⟩
  · rcases set_get h1 with ⟨e1, l1, e1'⟩ | ⟨hj, h1⟩
    · rcases set_get h2 with ⟨e2, _, _⟩ | ⟨hk, h2⟩
      · exact e1.symm.trans e2
      · rw [List.getElem?_set_ne hk] at h4
        subst e1
        rw [List.getElem?_set_self (by rw [r.len]; exact l1)] at h3
        obtain ⟨b', q1, q2, _⟩ := r.ow k d2 h2
        rw [h4] at q1
        cases q1
        cases h3
        exact absurd rfl (ne q2)
    · rw [List.getElem?_set_ne hj] at h3
      rcases set_get h2 with ⟨e2, l2, _⟩ | ⟨hk, h2⟩
      · subst e2
        rw [List.getElem?_set_self (by rw [r.len]; exact l2)] at h4
        obtain ⟨b', q1, q2, _⟩ := r.ow j d1 h1
        rw [h3] at q1
        cases q1
        cases h4
        exact absurd rfl (ne q2)
      · rw [List.getElem?_set_ne hk] at h4
        exact r.inj j k d1 d2 b h1 h2 h3 h4
  · by_cases e : b = a
    · exact .inr (by rw [e]; exact h0)
    · rw [addH_ne e] at hb; exact r.old b hb
/-- an owned object changes -/
theorem RE.mut (r : RE X x0 Hd0 H0 F Hd env σ H) {i : Nat} {d d' : D} {a : Addr} {o : HO} (h : env[i]? = some (some (true, d))) (hs : σ[i]? = some (some (.ref a))) (rt : RepT X.mg X.K (upd H a o) (hid Hd H) d' (.ref a)) (ok : ownK d' = true) :
    RE X x0 Hd0 H0 F Hd (env.set i (some (true, d'))) σ (upd H a o) := by
  obtain ⟨a', q1, q2, q3, q4, q5⟩ := r.ow i d h
  rw [hs] at q1
  cases q1
  have hh : hid Hd (upd H a o) = hid Hd H := hid_upd q2
  have hl : i < env.length := (List.getElem?_eq_some_iff.mp h).1
  refine ⟨r.dom.put, r.d0, by rw [List.length_set]; exact r.len, fun j e hj => ?_, fun j e hj => ?_, fun j k d1 d2 b h1 h2 h3 h4 => ?_, r.up, r.old, fun b u e => ?_, by rw [hh]; exact r.keep, fun e hj => ?_⟩
  · rw [hh]
    rcases set_get hj with ⟨_, _, e'⟩ | ⟨_, hj⟩
    · cases e'
    · exact r.fz j e hj
  · rw [hh]
    rcases set_get hj with ⟨hij, _, e'⟩ | ⟨nj, hj⟩
    · cases e'
      subst hij
      exact ⟨a, hs, q2, q3, rt, ok⟩
    · obtain ⟨b, p1, p2, p3, p4, p5⟩ := r.ow j e hj
      have nb : b ≠ a := fun z => nj (r.inj i j d e a h hj hs (z ▸ p1))
      refine ⟨b, p1, p2, p3, ?_, p5⟩
      cases p4 with
      | lst e1 r1 => exact .lst (by rw [upd_ne nb]; exact e1) r1
      | dct e1 r1 => exact .dct (by rw [upd_ne nb]; exact e1) r1
      | ins e1 m1 r1 => exact .ins (by rw [upd_ne nb]; exact e1) m1 r1
      | tup e1 r1 => cases p5
      | scr e1 => cases p5
  · have old : ∀ {j : Nat} {e : D}, (env.set i (some (true, d')))[j]? = some (some (true, e)) → ∃ e', env[j]? = some (some (true, e')) := fun {j e} hj => by
      rcases set_get hj with ⟨hij, _, _⟩ | ⟨_, hj⟩
      · subst hij; exact ⟨d, h⟩
      · exact ⟨e, hj⟩
    obtain ⟨e1, h1⟩ := old h1
    obtain ⟨e2, h2⟩ := old h2
    exact r.inj j k e1 e2 b h1 h2 h3 h4
  · have nb : b ≠ a := fun z => by rw [z, q3] at e; cases e
    rw [upd_ne nb]
    exact r.same b u e
  · rcases set_get hj with ⟨hij, _, _⟩ | ⟨_, hj⟩
    · subst hij; exact r.pin d h
    · exact r.pin e hj
/-- an owned object is given out of hand -/
theorem RE.frz (r : RE X x0 Hd0 H0 F Hd env σ H) {i : Nat} {d : D} (h : env[i]? = some (some (true, d))) : ∃ Hd', RE X x0 Hd0 H0 F Hd' (env.set i (some (false, d))) σ H := by
  obtain ⟨a, q1, q2, q3, q4, q5⟩ := r.ow i d h
  have hl : i < env.length := (List.getElem?_eq_some_iff.mp h).1
  have sub : Same (hid Hd H) (hid (delH Hd a) H) := hid_less delH_sub
  have h0 : Hd0 a = false := by
    cases z : Hd0 a with
    | false => rfl
    | true => exact absurd q3 (r.d0 a z)
  refine ⟨delH Hd a, fun b hb => r.dom b (delH_sub b hb), r.d0, by rw [List.length_set]; exact r.len, fun j e hj => ?_, fun j e hj => ?_, fun j k d1 d2 b h1 h2 h3 h4 => ?_, fun b hb => ?_, fun b hb => r.old b (delH_sub b hb), r.same, r.keep.trans sub, fun e hj => ?_⟩
  · rcases set_get hj with ⟨hij, _, e'⟩ | ⟨_, hj⟩
    · cases e'
      subst hij
      refine ⟨.ref a, q1, RepT.rep sub (fun b o eb hb => by cases eb; rw [hid_off delH_same]; exact hb) q4 fun ns e => ?_⟩
      subst e
      cases q5
    · obtain ⟨v, p1, p2⟩ := r.fz j e hj
      exact ⟨v, p1, p2.mono sub⟩
  · rcases set_get hj with ⟨_, _, e'⟩ | ⟨nj, hj⟩
    · cases e'
    · obtain ⟨b, p1, p2, p3, p4, p5⟩ := r.ow j e hj
      have nb : b ≠ a := fun z => nj (r.inj i j d e a h hj q1 (z ▸ p1))
      exact ⟨b, p1, by rw [delH_ne nb]; exact p2, p3, p4.mono (Same.refl H) sub, p5⟩
  · rcases set_get h1 with ⟨_, _, e'⟩ | ⟨_, h1⟩
    · cases e'
    · rcases set_get h2 with ⟨_, _, e'⟩ | ⟨_, h2⟩
      · cases e'
      · exact r.inj j k d1 d2 b h1 h2 h3 h4
  · have nb : b ≠ a := fun z => by rw [z, h0] at hb; cases hb
    rw [delH_ne nb]
    exact r.up b hb
  · rcases set_get hj with ⟨_, _, e'⟩ | ⟨_, hj⟩
    · cases e'
    · exact r.pin e hj
theorem RE.binds : ∀ {is : List Nat} {ds : List D} {vs : List V} {env env' : Env} {σ : L2.St} {Q : L2.St → Hp → Prop}, RE X x0 Hd0 H0 F Hd env σ H → bindTs is ds env = some env' → RepA X.mg X.K (hid Hd H) ds vs →
    (∀ σ', RE X x0 Hd0 H0 F Hd env' σ' H → Q σ' H) → gNames is vs σ H Q
  | [], [], _, env, env', σ, Q, r, h, .nil, k => by
    cases (show some env = some env' from h)
    exact ⟨rfl, k σ r⟩
  | i :: is, d :: ds, _, env, env', σ, Q, r, h, .cons rv rs, k => ⟨_, _, rfl, RE.binds (is := is) (r.set i rv) (show bindTs is ds _ = some env' from h) rs k⟩
  | [], _ :: _, _, _, _, _, _, _, h, _, _ => by cases h
  | _ :: _, [], _, _, _, _, _, _, h, _, _ => by cases h
theorem RE.bind (r : RE X x0 Hd0 H0 F Hd env σ H) {t : Tg} {d : D} {v : V} {env' : Env} {Q : L2.St → Hp → Prop} (h : bindT t d env = some env') (rv : RV X Hd H d v) (k : ∀ σ', RE X x0 Hd0 H0 F Hd env' σ' H → Q σ' H) : gT X.K t v σ H Q := by
  cases t with
  | nm i =>
    cases (show some _ = some env' from h)
    exact k _ (r.set i rv)
  | tp is =>
    cases rv <;> first | (cases h; done) | skip
    rename_i a vs ds h1 r1
    have h' : bindTs is ds env = some env' := h
    exact ⟨a, vs, rfl, SqT.of (hid_sub _ _ h1), by rw [← r1.length, bindTs_len h'], RE.binds r h' r1 k⟩
/-- the ends of a statement -/
structure EndsOk (X : Cx) (W : WX) (x0 : Addr) (Hd0 : Addr → Bool) (H0 F : Hp) (N : Nd) (En : Ends) : Prop where
  nx : ∀ env σ H Hd, RE X x0 Hd0 H0 F Hd env σ H → N.nx env → En.nx σ H
  bk : ∀ env σ H Hd, RE X x0 Hd0 H0 F Hd env σ H → N.bk env → En.bk σ H
  ct : ∀ env σ H Hd, RE X x0 Hd0 H0 F Hd env σ H → N.ct env → En.ct σ H
  rt : ∀ d v H, Same H0 H → Rep X.mg X.K (hid Hd0 H) d v → N.rt d → En.rt v H
  ex : ∀ env x cls dd σ H Hd, RE X x0 Hd0 H0 F Hd env σ H → RepX X.mg X.K (hid Hd H) H x cls dd → N.ex env x → W cls dd σ H
  stk : X.stack = X.env :: X.outer
  frm : X.env.frame = some X.env.locals
theorem RepX.mono {mg : Str → Option Value} {K : PySem.W.Frag} {F G H : Hp} {x : Exn} {cls : Value} {dd : Option Addr} (s : Same F G) (r : RepX mg K F H x cls dd) : RepX mg K G H x cls dd := by
  obtain ⟨C, h1, h2, h3⟩ := r
  refine ⟨C, h1, h2, ?_⟩
  rcases h3 with h3 | ⟨a, fv, e1, e2, e3⟩
  · exact .inl h3
  · exact .inr ⟨a, fv, e1, e2, fun f d hl => let ⟨v, l1, l2⟩ := e3 f d hl; ⟨v, l1, l2.mono s⟩⟩
theorem EndsOk.xw {N : Nd} {En : Ends} (o : EndsOk X W x0 Hd0 H0 F N En) (r : RE X x0 Hd0 H0 F Hd env σ H) : XW X W Hd σ H (N.ex env) := fun x cls dd H' q s rx =>
  o.ex env x cls dd σ H' Hd (r.ext s) rx q
def stSem (X : Cx) (st : Stmt) : TS := fun D σ H => ∀ (pins : List (Addr × Obj)) (s : Shared), Inv X pins σ H s → wpAny (model X.prog X.w) X.A (exec st X.env) (SP X pins D) X.xe s
def ssSem (X : Cx) (sts : List Stmt) : TS := fun D σ H => ∀ (pins : List (Addr × Obj)) (s : Shared), Inv X pins σ H s → wpAny (model X.prog X.w) X.A (execs sts X.env) (SP X pins D) X.xe s
theorem ps_sem {st : Stmt} : PS X st (stSem X st) := ⟨fun pins s σ H D I h => h pins s I⟩
theorem pss_sem {sts : List Stmt} : PSs X sts (ssSem X sts) := ⟨fun pins s σ H D I h => h pins s I⟩
theorem st_of {st : Stmt} {t : TS} (h : PS X st t) {D : Ends} (q : t D σ H) : stSem X st D σ H := fun pins s I => h.run pins s σ H D I q
theorem ss_of {sts : List Stmt} {t : TS} (h : PSs X sts t) {D : Ends} (q : t D σ H) : ssSem X sts D σ H := fun pins s I => h.run pins s σ H D I q
end
def SS (T : Tab) (N : List Str) (s : S) : Prop := ∀ {lvl : Nat} {ns : Nms} {X : Cx} {W : WX}, Good T lvl N ns X W → Sto X ns ns → ∀ {st : Stmt}, chkS N s ns st = true → ∀ {x0 : Addr} {Hd0 : Addr → Bool} {H0 F : Hp} {Hd : Addr → Bool} {env : Env} {σ : L2.St} {H : Hp},
  RE X x0 Hd0 H0 F Hd env σ H → ∀ {Nn : Nd} {En : Ends}, EndsOk X W x0 Hd0 H0 F Nn En → wpS T s env Nn → stSem X st En σ H
def SSs (T : Tab) (N : List Str) (s : Ss) : Prop := ∀ {lvl : Nat} {ns : Nms} {X : Cx} {W : WX}, Good T lvl N ns X W → Sto X ns ns → ∀ {sts : List Stmt}, chkSs N s ns sts = true → ∀ {x0 : Addr} {Hd0 : Addr → Bool} {H0 F : Hp} {Hd : Addr → Bool} {env : Env} {σ : L2.St} {H : Hp},
  RE X x0 Hd0 H0 F Hd env σ H → ∀ {Nn : Nd} {En : Ends}, EndsOk X W x0 Hd0 H0 F Nn En → wpSs T s env Nn → ssSem X sts En σ H
end Lp
namespace Lp
open PySem L2
section
variable {T : Tab} {N : List Str} {ns : Nms} {st : Stmt} {f g k : CkE} {fs : CkEs} {gs hs : CkSs} {b b2 : Bool}
theorem j_set {i} (h : sSet N i b f ns st = true) : ∃ y p v q, st = .Assign [.Name y p] v q ∧ tgName N ns ns i (.Name y p) = true ∧ plainX v = true ∧ b = true ∧ f ns v = true := by
  unfold sSet at h
  split at h
  · simp only [Bool.and_eq_true] at h
    exact ⟨_, _, _, _, rfl, h.1.1.1, h.1.1.2, h.1.2, h.2⟩
  · cases h
theorem j_unp {is} (h : sUnp N is b f ns st = true) : ∃ ts m p v q, st = .Assign [.Tuple ts m p] v q ∧ chkT N ns ns (.tp is) (.Tuple ts m p) = true ∧ plainX v = true ∧ isLc v = false ∧ (∀ a b c, v ≠ .Tuple a b c) ∧ b = true ∧ f ns v = true := by
  unfold sUnp at h
  split at h
  · simp only [Bool.and_eq_true, Bool.not_eq_true'] at h
    refine ⟨_, _, _, _, _, rfl, h.1.1.1.1.1, h.1.1.1.1.2, h.1.1.1.2, fun a b c e => ?_, h.1.2, h.2⟩
    have := h.1.1.2
    rw [e] at this
    cases this
  · cases h
theorem j_stx {i} (h : sStx N i b f g ns st = true) : ∃ y q z p w pos, st = .Assign [.Subscript (.Name y q) z p] w pos ∧ nmOk N ns i y = true ∧ plainX z = true ∧ plainX w = true ∧ b = true ∧ f ns z = true ∧ g ns w = true := by
  unfold sStx at h
  split at h
  · simp only [Bool.and_eq_true] at h
    exact ⟨_, _, _, _, _, _, rfl, h.1.1.1.1.1, h.1.1.1.1.2, h.1.1.1.2, h.1.1.2, h.1.2, h.2⟩
  · cases h
theorem j_app {i} (h : sApp N i b f ns st = true) : ∃ y q ap x p pos, st = .Expr (.Call (.Attribute (.Name y q) "append" ap) [x] [] p) pos ∧ nmOk N ns i y = true ∧ plainX x = true ∧ (ap.endLine == p.line) = true ∧ b = true ∧ f ns x = true := by
  unfold sApp at h
  split at h
  · simp only [Bool.and_eq_true, decide_eq_true_eq] at h
    obtain ⟨⟨⟨⟨⟨h1, rfl⟩, h2⟩, h3⟩, h4⟩, h5⟩ := h
    exact ⟨_, _, _, _, _, _, rfl, h1, h2, h3, h4, h5⟩
  · cases h
theorem j_fset {n} (h : sFset N n b f ns st = true) : ∃ y q p v pos, st = .Assign [.Attribute (.Name y q) n p] v pos ∧ nmOk N ns 0 y = true ∧ plainX v = true ∧ b = true ∧ f ns v = true := by
  unfold sFset at h
  split at h
  · simp only [Bool.and_eq_true, decide_eq_true_eq] at h
    obtain ⟨⟨⟨⟨h1, rfl⟩, h2⟩, h3⟩, h4⟩ := h
    exact ⟨_, _, _, _, _, rfl, h1, h2, h3, h4⟩
  · cases h
theorem j_ex (h : sEx f ns st = true) : ∃ v pos, st = .Expr v pos ∧ plainX v = true ∧ isLc v = false ∧ f ns v = true := by
  unfold sEx at h
  split at h
  · simp only [Bool.and_eq_true, Bool.not_eq_true'] at h
    exact ⟨_, _, rfl, h.1.1, h.1.2, h.2⟩
  · cases h
theorem j_if (h : sIf b f gs hs ns st = true) : ∃ t x y pos, st = .If t x y pos ∧ b = true ∧ f ns t = true ∧ gs ns x = true ∧ hs ns y = true := by
  unfold sIf at h
  split at h
  · simp only [Bool.and_eq_true] at h
    exact ⟨_, _, _, _, rfl, h.1.1.1, h.1.1.2, h.1.2, h.2⟩
  · cases h
theorem j_for {t} (h : sFor N t f gs ns st = true) : ∃ tg iter body pos, st = .For tg iter body [] pos ∧ chkT N ns ns t tg = true ∧ noSet iter = true ∧ f ns iter = true ∧ gs ns body = true := by
  unfold sFor at h
  split at h
  · simp only [Bool.and_eq_true] at h
    exact ⟨_, _, _, _, rfl, h.1.1.1, h.1.1.2, h.1.2, h.2⟩
  · cases h
theorem j_whl (h : sWhl b f gs ns st = true) : ∃ t body pos, st = .While t body [] pos ∧ b = true ∧ f ns t = true ∧ gs ns body = true := by
  unfold sWhl at h
  split at h
  · simp only [Bool.and_eq_true] at h
    exact ⟨_, _, _, rfl, h.1.1, h.1.2, h.2⟩
  · cases h
theorem j_ret (h : sRet b f ns st = true) : ∃ v pos, st = .Return (some v) pos ∧ b = true ∧ f ns v = true := by
  unfold sRet at h
  split at h
  · simp only [Bool.and_eq_true] at h
    exact ⟨_, _, rfl, h.1, h.2⟩
  · cases h
theorem j_raise {c} (h : sRaise c fs ns st = true) : ∃ p xs q pos, st = .Raise (some (.Call (.Name c p) xs [] q)) none pos ∧ glB ns c = true ∧ noStar xs = true ∧ fs ns xs = true := by
  unfold sRaise at h
  split at h
  · simp only [Bool.and_eq_true, decide_eq_true_eq] at h
    obtain ⟨⟨⟨rfl, h1⟩, h2⟩, h3⟩ := h
    exact ⟨_, _, _, _, rfl, h1, h2, h3⟩
  · cases h
theorem tgName_c {scn ns : Nms} {i : Nat} {y : Str} {p : Pos} (h : tgName N scn ns i (.Name y p) = true) : N[i]? = some y ∧ ((ns.lookup y = some .local) ∨ (ns.lookup y = some .cell ∧ scn.lookup y = some .cell)) := by
  have h' : (decide (N[i]? = some y) && (match ns.lookup y with | some .local => true | some .cell => decide (scn.lookup y = some .cell) | _ => false)) = true := h
  rw [Bool.and_eq_true] at h'
  obtain ⟨h1, h2⟩ := h'
  refine ⟨of_decide_eq_true h1, ?_⟩
  split at h2
  · exact .inl (by assumption)
  · exact .inr ⟨by assumption, of_decide_eq_true h2⟩
  · cases h2
end
/-- what the assignment of an expression to a name asks of the expression -/
theorem swap_lc {X : Cx} {ns : Nms} {ex : Expr} {y : Str} {py : Pos} {l : Nat} (hn : X.env.scope.names = ns) (hk : X.env.scope.kind = .function) (hp : plainX ex = true) : swapsWith ex (some (.Name y py)) l X.env = pure (swB ns y py ex) := by
  by_cases hl : isLc ex = true
  · cases ex <;> first | (cases hl; done) | skip
    rename_i elt gens scope pos
    have hb : X.env.blockKind = .function := by unfold Env.blockKind; rw [hk]; rfl
    have hkd : X.env.kindOf y = ns.lookup y := by show X.env.scope.names.lookup y = _; rw [hn]
    unfold swapsWith swB
    simp only [hb, hkd, Expr.pos]
    have e : (List.lookup y ns == some NameKind.local) = decide (List.lookup y ns = some .local) := by
      by_cases q : List.lookup y ns = some .local
      · rw [q]; rfl
      · rw [decide_eq_false q]; exact beq_eq_false_iff_ne.mpr q
    rw [e]
    rfl
  · have hl' : isLc ex = false := by simpa using hl
    rw [swap_ok hp hl']
    cases ex <;> first | rfl | (cases hl'; done)
section
variable {T : Tab} {N : List Str}
/-- x = e by values -/
theorem asg_of {lvl : Nat} {ns : Nms} {X : Cx} {W : WX} (g : Good T lvl N ns X W) (sto : Sto X ns ns) {i : Nat} {y : Str} {p q : Pos} {v : Expr} (hn : tgName N ns ns i (.Name y p) = true) (hp : plainX v = true) {σ : L2.St} {H : Hp} {En : Ends}
    (h1 : wpSem X v σ H fun x H1 => En.nx (σ.set i (some x)) H1) (h2 : swB ns y p v = true → ∃ t0 : TE, (∀ (i : Nat) (y : Str) (py spos : Pos), X.N[i]? = some y → X.env.scope.names.lookup y = some .local → swapsWith v (some (.Name y py)) spos.line X.env = pure true → PS X (.Assign [.Name y py] v spos) (tAsg t0 (gName i))) ∧ t0 σ H fun x H1 => En.nx (σ.set i (some x)) H1) :
    stSem X (.Assign [.Name y p] v q) En σ H := by
  obtain ⟨n1, n2⟩ := tgName_c hn
  have hsw := swap_lc (y := y) (py := p) (l := q.line) g.names g.kind hp
  have hi : X.N[i]? = some y := by rw [g.hN]; exact n1
  cases e : swB ns y p v with
  | true =>
    rw [e] at hsw
    obtain ⟨t0, ps, q0⟩ := h2 e
    have hloc : X.env.scope.names.lookup y = some .local := by
      rw [g.names]
      unfold swB at e
      split at e
      · simp only [Bool.and_eq_true, decide_eq_true_eq] at e
        exact e.1.1
      · cases e
    exact st_of (ps i y p q hi hloc hsw) q0
  | false =>
    rw [e] at hsw
    have hx : L2.Loc X.env.scope y := by
      unfold L2.Loc
      rw [g.names]
      rcases n2 with n | ⟨n, _⟩
      · exact .inl n
      · exact .inr n
    have hf : X.fn y = true ∨ X.env.scope.names.lookup y = some .local := by
      rcases n2 with n | ⟨n, n'⟩
      · exact .inr (by rw [g.names]; exact n)
      · exact .inl (sto.2 y n n')
    exact st_of (ps_set g.nd hi hx pe_sem hsw hf) h1
theorem lcOk_of {lvl : Nat} {ns : Nms} {X : Cx} {W : WX} (g : Good T lvl N ns X W) {e : E} {v : Expr} (hc : chkE N e ns v = true) {Hd : Addr → Bool} {env : Env} {σ : L2.St} {H : Hp} (rx : RX X Hd env σ H) {Q : D → Prop} {XQ : XQ} (h : wpE T e env Q XQ) (hl : isLc v = true) : LcOk X W v Hd σ H Q XQ := by
  cases v <;> first | (cases hl; done) | skip
  cases e <;> first | (exfalso; exact Bool.noConfusion hc) | skip
  all_goals first
    | exact c_lc (sI T N _) (sE T N _) (sE T N _) g hc rx h
    | exact False.elim h
    | exact c_lc2 (sI T N _) (sE T N _) (sI T N _) (sE T N _) (sE T N _) g hc rx h
theorem s_set {i : Nat} {e : E} : SS T N (.set i e) := by
  intro lvl ns X W g sto st hc x0 Hd0 H0 F Hd env σ H r Nn En o h
  obtain ⟨y, p, v, q, rfl, hn, hp, hb, h1⟩ := j_set (show sSet N i (nb e) (chkE N e) ns st = true from hc)
  have h : wpE T e env (fun d => Nn.nx (env.set i (some (false, d)))) (Nn.ex env) := h
  have kk : ∀ d v H', Nn.nx (env.set i (some (false, d))) → Same H H' → RV X Hd H' d v → En.nx (σ.set i (some v)) H' := fun d v H' q s rv => o.nx _ _ _ _ ((r.ext s).set i rv) q
  refine asg_of g sto hn hp ((sE T N e g h1 r.rx h).1 hb _ kk (o.xw r)) fun hs => ?_
  have hl : isLc v = true := by
    unfold swB at hs
    split at hs
    · rfl
    · cases hs
  obtain ⟨t0, _, ps, hq⟩ := lcOk_of g h1 r.rx h hl
  refine ⟨t0, ps, hq _ (fun d v H' q s ro => ?_) (o.xw r)⟩
  obtain ⟨a, rfl, e2, e3, e4⟩ := ro
  exact kk d _ H' q s (RepT.rep (hid_less addH_up) (fun b o eb hb => by cases eb; rw [hid_off (r.dom.off e2)]; exact hb) e3 e4)
theorem s_setO {i : Nat} {e : E} : SS T N (.setO i e) := by
  intro lvl ns X W g sto st hc x0 Hd0 H0 F Hd env σ H r Nn En o h
  obtain ⟨y, p, v, q, rfl, hn, hp, hb, h1⟩ := j_set (show sSet N i (fresh e && !(i == 0)) (chkE N e) ns st = true from hc)
  obtain ⟨hb, hi⟩ := and_c hb
  have hi : i ≠ 0 := by simpa using hi
  have h : wpE T e env (fun d => Nn.nx (env.set i (some (true, d)))) (Nn.ex env) := h
  have kk : ∀ d v H', Nn.nx (env.set i (some (true, d))) → Same H H' → RO X Hd H H' d v → En.nx (σ.set i (some v)) H' := fun d v H' q s ro => by
    obtain ⟨a, rfl, e2, e3, e4⟩ := ro
    have ho : (∃ o, H' a = some o) ∧ ownK d = true := by
      cases e3 with
      | lst e1 _ => exact ⟨⟨_, e1⟩, rfl⟩
      | dct e1 _ => exact ⟨⟨_, e1⟩, rfl⟩
      | ins e1 _ _ => exact ⟨⟨_, e1⟩, rfl⟩
      | tup e1 _ =>
        exfalso
        have := hid_on (H := H') (addH_same (Hd := Hd) (a := a))
        rw [this] at e1
        cases e1
      | scr e1 => exact absurd rfl (e4 _)
    exact o.nx _ _ _ _ (r.setO i hi s e2 ho.1 e3 ho.2) q
  refine asg_of g sto hn hp ((sE T N e g h1 r.rx h).2.2.1 hb _ kk (o.xw r)) fun hs => ?_
  have hl : isLc v = true := by
    unfold swB at hs
    split at hs
    · rfl
    · cases hs
  obtain ⟨t0, _, ps, hq⟩ := lcOk_of g h1 r.rx h hl
  exact ⟨t0, ps, hq _ kk (o.xw r)⟩
theorem s_unp {is : List Nat} {e : E} : SS T N (.unp is e) := by
  intro lvl ns X W g sto st hc x0 Hd0 H0 F Hd env σ H r Nn En o h
  obtain ⟨ts, m, p, v, q, rfl, hn, hp, hl, hnt, hb, h1⟩ := j_unp (show sUnp N is (nb e) (chkE N e) ns st = true from hc)
  have h : wpE T e env (fun d => match d with | .tup ds => ∃ env', bindTs is ds env = some env' ∧ Nn.nx env' | _ => False) (Nn.ex env) := h
  have pg : PG X (.Tuple ts m p) (gT X.K (.tp is)) := pg_tg g.hN g.nd sto g.calm hn
  refine st_of (ps_asg (e := v) (pos := q) pe_sem pg (show swapsWith v (some (.Tuple ts m p)) q.line X.env = pure false from swap_ok hp hl) ?_) ?_
  · cases v <;> first | rfl | exact absurd rfl (hnt _ _ _)
  refine (sE T N e g h1 r.rx h).1 hb _ (fun d v H1 qd s rv => ?_) (o.xw r)
  cases d <;> first | exact False.elim qd | skip
  obtain ⟨env', hb', qd⟩ := qd
  exact (r.ext s).bind (t := .tp is) (show bindT (.tp is) (.tup _) env = some env' from hb') rv fun σ' r' => o.nx _ _ _ _ r' qd
theorem var_rd {lvl : Nat} {ns : Nms} {X : Cx} {W : WX} (g : Good T lvl N ns X W) {i : Nat} {y : Str} {p : Pos} (hn : nmOk N ns i y = true) : PE X (.Name y p) (tVar i) := by
  obtain ⟨h1, h2, h3, h4⟩ := nmOk_c hn
  exact pe_var (by rw [g.hN]; exact h1) (vis_of g.names h2) h3 h4
theorem s_stx {i : Nat} {k v : E} : SS T N (.stx i k v) := by
  intro lvl ns X W g sto st hc x0 Hd0 H0 F Hd env σ H r Nn En o h
  obtain ⟨y, q, z, p, w, pos, rfl, hn, hpz, hpw, hb, h1, h2⟩ := j_stx (show sStx N i (nb k && nb v) (chkE N k) (chkE N v) ns st = true from hc)
  obtain ⟨b1, b2⟩ := and_c hb
  obtain ⟨d, hd, h⟩ : ∃ d, env[i]? = some (some (true, d)) ∧ (match d with
      | .lst xs => wpE T v env (fun x => wpE T k env (fun y => ∃ n j, y = .int n ∧ ixN xs.length n = some j ∧ Nn.nx (env.set i (some (true, .lst (xs.set j x))))) (Nn.ex env)) (Nn.ex env)
      | .dct kvs => wpE T v env (fun x => wpE T k env (fun y => ∃ q, toKey y = some q ∧ kvs.length < sizeLine ∧ Nn.nx (env.set i (some (true, .dct (dput kvs q x))))) (Nn.ex env)) (Nn.ex env)
      | _ => False) := h
  obtain ⟨a, q1, q2, q3, q4, q5⟩ := r.ow i d hd
  have hswf : isLc w = true → swapsWith w (some (.Subscript (.Name y q) z p)) pos.line X.env = pure false := fun hl => by
    cases w <;> first | (cases hl; done) | rfl
  have hsw : swapsWith w (some (.Subscript (.Name y q) z p)) pos.line X.env = pure false := by
    cases e : isLc w with
    | true => exact hswf e
    | false => exact swap_ok hpw e
  cases d <;> first | exact False.elim h | skip
  · rename_i xs
    cases q4 with
    | lst e1 r1 =>
      refine st_of (ps_asg pe_sem (pg_sub (var_rd g hn) pe_sem set_list (fun v => by cases z <;> first | rfl | (cases hpz; done))) hsw) ?_
      refine (sE T N v g h2 r.rx h).1 b2 _ (fun dv vv H1 qv s1 rv => ?_) (o.xw r)
      refine ⟨_, q1, (sE T N k g h1 (r.ext s1).rx qv).1 b1 _ (fun dk vk H2 qk s2 rk => ?_) ((o.xw r).mono s1)⟩
      obtain ⟨n, j, rfl, hj, qk⟩ := qk
      cases rk
      have rr := (r.ext s1).ext s2
      have e3 := s2 _ _ (s1 _ _ e1)
      refine ⟨_, _, n, j, rfl, rfl, e3, by rw [← r1.length]; exact hj, ?_⟩
      refine o.nx _ _ _ _ (rr.mut (d' := .lst (xs.set j dv)) hd q1 (.lst upd_same ?_) rfl) qk
      exact RepA.set (RV.mono' s2 rv) j (r1.mono (hid_same (s1.trans s2)))
  · rename_i kvs
    cases q4 with
    | dct e1 r1 =>
      refine st_of (ps_dput (hu_of g.room) (var_rd g hn) pe_sem pe_sem hsw) ?_
      refine (sE T N v g h2 r.rx h).1 b2 _ (fun dv vv H1 qv s1 rv => ?_) (o.xw r)
      refine ⟨_, q1, (sE T N k g h1 (r.ext s1).rx qv).1 b1 _ (fun dk vk H2 qk s2 rk => ?_) ((o.xw r).mono s1)⟩
      obtain ⟨kq, hk, hl, qk⟩ := qk
      have ev := key_rep rk hk
      subst ev
      have rr := (r.ext s1).ext s2
      have e3 := s2 _ _ (s1 _ _ e1)
      refine ⟨_, _, rfl, DPut.k e3 (by rw [← r1.length]; exact hl), ?_⟩
      have r2 := r1.mono (hid_same (Hd := Hd) (s1.trans s2))
      have rv2 := RV.mono' s2 rv
      refine o.nx _ _ _ _ (rr.mut (d' := .dct (dput kvs kq dv)) hd q1 (.dct upd_same ?_) rfl) qk
      unfold dput putK
      rw [r2.anyKey]
      split
      · exact r2.mapPut rv2
      · exact r2.snoc rv2
theorem s_app {i : Nat} {e : E} : SS T N (.app i e) := by
  intro lvl ns X W g sto st hc x0 Hd0 H0 F Hd env σ H r Nn En o h
  obtain ⟨y, q, ap, x, p, pos, rfl, hn, hp, hl, hb, h1⟩ := j_app (show sApp N i (nb e) (chkE N e) ns st = true from hc)
  obtain ⟨xs, hd, h⟩ : ∃ xs, env[i]? = some (some (true, .lst xs)) ∧ wpE T e env (fun x => xs.length < sizeLine ∧ Nn.nx (env.set i (some (true, .lst (xs ++ [x]))))) (Nn.ex env) := h
  obtain ⟨a, q1, q2, q3, q4, q5⟩ := r.ow i _ hd
  cases q4 with
  | lst e1 r1 =>
    refine st_of (ps_expr (pe_bm PySem.F.plainAttrs_list PySem.F.slot_list_append PySem.F.type_list_append mt_append (var_rd g hn) (pa_cons pe_sem pa_nil (star_ok hp)) (hline := hl) (hs := star_ok hp) (hfew := by rw [star_ok hp]; rfl))) ?_
    refine ⟨_, q1, .inl ⟨rfl, _, SqL.of e1⟩, ?_⟩
    refine (sE T N e g h1 r.rx h).1 hb _ (fun dv vv H1 qv s1 rv => ?_) (o.xw r)
    refine ⟨_, _, _, rfl, rfl, s1 _ _ e1, by rw [← r1.length]; exact qv.1, ?_⟩
    refine o.nx _ _ _ _ ((r.ext s1).mut (d' := .lst (xs ++ [dv])) hd q1 (.lst upd_same ?_) rfl) qv.2
    exact (r1.mono (hid_same s1)).append (RepA.one rv)
theorem s_fset {f : Str} {e : E} : SS T N (.fset f e) := by
  intro lvl ns X W g sto st hc x0 Hd0 H0 F Hd env σ H r Nn En o h
  obtain ⟨y, q, p, v, pos, rfl, hn, hp, hb, h1⟩ := j_fset (show sFset N f (nb e) (chkE N e) ns st = true from hc)
  obtain ⟨c, fs, hf, hd, h9, h⟩ : ∃ (c : Str) (fs : List (Str × D)), T.fld c f = true ∧ env[0]? = (some (some (true, D.ins c fs)) : Option (Option (Bool × D))) ∧ fs.length < 900 ∧ wpE T e env (fun x => Nn.nx (env.set 0 (some (true, .ins c (putFD f x fs))))) (Nn.ex env) := h
  obtain ⟨a, q1, q2, q3, q4, q5⟩ := r.ow 0 _ hd
  cases q4 with
  | ins e1 m1 r1 =>
    obtain ⟨c1, c2⟩ := g.tab.fld _ _ hf _ m1
    have hsw : swapsWith v (some (.Attribute (.Name y q) f p)) pos.line X.env = pure false := by
      cases e : isLc v with
      | true => cases v <;> first | (cases e; done) | rfl
      | false => exact swap_ok hp e
    refine st_of (ps_fld (var_rd g hn) pe_sem hsw) ?_
    refine (sE T N e g h1 r.rx h).1 hb _ (fun dv vv H1 qv s1 rv => ?_) (o.xw r)
    refine ⟨_, q1, _, _, _, _, rfl, s1 _ _ e1, c1, c2, by rw [← r1.length]; omega, ?_⟩
    refine o.nx _ _ _ _ ((r.ext s1).mut (d' := .ins c (putFD f dv fs)) hd q1 (.ins upd_same m1 ?_) rfl) qv
    exact (r1.mono (hid_same s1)).put rv
theorem s_ex {e : E} : SS T N (.ex e) := by
  intro lvl ns X W g sto st hc x0 Hd0 H0 F Hd env σ H r Nn En o h
  obtain ⟨v, pos, rfl, hp, hl, h1⟩ := j_ex (show sEx (chkE N e) ns st = true from hc)
  have h : wpE T e env (fun _ => Nn.nx env) (Nn.ex env) := h
  exact st_of (ps_expr pe_sem (swap_ok hp hl)) ((sE T N e g h1 r.rx h).2.1 _ (fun dv vv H1 qv s1 rv => o.nx _ _ _ _ (r.ext s1) qv) (o.xw r))
theorem s_if {c : E} {a b : Ss} (ha : SSs T N a) (hb : SSs T N b) : SS T N (.if_ c a b) := by
  intro lvl ns X W g sto st hc x0 Hd0 H0 F Hd env σ H r Nn En o h
  obtain ⟨t, x, y, pos, rfl, ht, h1, h2, h3⟩ := j_if (show sIf (tb c) (chkE N c) (chkSs N a) (chkSs N b) ns st = true from hc)
  have h : wpE T c env (fun x => match x with | .bl true => wpSs T a env Nn | .bl false => wpSs T b env Nn | _ => False) (Nn.ex env) := h
  refine st_of (ps_if pt_sem pss_sem pss_sem) ((sE T N c g h1 r.rx h).2.2.2 ht (fun d q => by cases d <;> first | exact False.elim q | exact ⟨_, rfl⟩) _ (fun bb H1 q s => ?_) (o.xw r))
  cases bb with
  | true => rw [if_pos rfl]; exact ha g sto h2 (r.ext s) o q
  | false => rw [if_neg Bool.false_ne_true]; exact hb g sto h3 (r.ext s) o q
theorem wpFor_drop {step : D → Env → (Env → Prop) → Prop} {nx : Env → Prop} {xs : List D} {i : Nat} {d : D} {env : Env} (h : xs[i]? = some d) (w : wpFor step nx (xs.drop i) env) : step d env (wpFor step nx (xs.drop (i + 1))) := by
  obtain ⟨hl, e⟩ := List.getElem?_eq_some_iff.mp h
  rw [List.drop_eq_getElem_cons hl, e] at w
  exact w
theorem s_for {t : Tg} {it : Src} {b : Ss} (hb : SSs T N b) : SS T N (.for_ t it b) := by
  intro lvl ns X W g sto st hc x0 Hd0 H0 F Hd env σ H r Nn En o h
  obtain ⟨tg, iter, body, pos, rfl, ht, hset, h1, h2⟩ := j_for (show sFor N t (chkI N it) (chkSs N b) ns st = true from hc)
  generalize hst : (fun (x : D) (env : Env) (k : Env → Prop) => ∃ env', bindT t x env = some env' ∧ wpSs T b env' { Nn with nx := k, ct := k, bk := Nn.nx }) = step
  have h : wpSrc T it env (fun items => wpFor step Nn.nx items env) (Nn.ex env) := by rw [← hst]; exact h
  refine st_of (ps_for g.own g.calm pi_sem (pg_tg g.hN g.nd sto g.calm ht) pss_sem (fun x => set_ok hset)) ?_
  refine sI T N it g h1 r.rx tg h _ (fun items J H1 q s wd => ?_) (o.xw r)
  obtain ⟨G, Y, walk, wd⟩ := wd
  have r1 := (r.ext s)
  refine for_it walk (fun i σ' H' => ∃ Hd' env', RE X x0 Hd0 H0 (hid Hd H1) Hd' env' σ' H' ∧ wpFor step Nn.nx (items.drop i) env') ⟨Hd, env, r1.here, q⟩ (fun i σ' H' _ ⟨Hd', env', r', _⟩ => (wd Hd' H' r'.keep).1) (fun i x σ' H' H'' hi pv y => ?_) (fun σ' H' pv => ?_)
  · obtain ⟨Hd', env', r', q'⟩ := pv
    obtain ⟨s2, d, hd, rd⟩ := (wd Hd' H' r'.keep).2 r'.dom i x H'' hi y
    have q2 := wpFor_drop hd q'
    rw [← hst] at q2
    obtain ⟨env2, b1, b2⟩ := q2
    rw [hst] at b2
    refine (r'.ext s2).bind b1 rd fun σ2 r2 => ?_
    refine hb g sto h2 r2 (Nn := { Nn with nx := wpFor step Nn.nx (items.drop (i + 1)), ct := wpFor step Nn.nx (items.drop (i + 1)), bk := Nn.nx }) ?_ b2
    exact ⟨fun env σ H Hd rr qq => ⟨Hd, env, rr, qq⟩, fun env σ H Hd rr qq => o.nx _ _ _ _ (rr.weak r1.keep) qq, fun env σ H Hd rr qq => ⟨Hd, env, rr, qq⟩, o.rt, fun env x cls dd σ H Hd rr rx qq => o.ex env x cls dd σ H Hd (rr.weak r1.keep) rx qq, o.stk, o.frm⟩
  · obtain ⟨Hd', env', r', q'⟩ := pv
    rw [List.drop_length] at q'
    exact o.nx _ _ _ _ (r'.weak r1.keep) q'
theorem s_whl {c : E} {b : Ss} (hb : SSs T N b) : SS T N (.whl c b) := by
  intro lvl ns X W g sto st hc x0 Hd0 H0 F Hd env σ H r Nn En o h
  obtain ⟨t, body, pos, rfl, ht, h1, h2⟩ := j_whl (show sWhl (tb c) (chkE N c) (chkSs N b) ns st = true from hc)
  obtain ⟨Wi, ⟨m0, w0⟩, turn⟩ : ∃ W : Nat → Env → Prop, (∃ m, W m env) ∧ ∀ m env, W m env → wpE T c env (fun x => match x with
      | .bl true => wpSs T b env { Nn with nx := fun env' => ∃ m', m' < m ∧ W m' env', ct := fun env' => ∃ m', m' < m ∧ W m' env', bk := Nn.nx } | .bl false => Nn.nx env | _ => False) (Nn.ex env) := h
  refine st_of (ps_while g.own pt_sem pss_sem) ⟨fun m σ' H' => ∃ Hd' env', RE X x0 Hd0 H0 F Hd' env' σ' H' ∧ Wi m env', ⟨m0, Hd, env, r, w0⟩, fun m σ' H' ⟨Hd', env', r', w'⟩ => ?_⟩
  refine (sE T N c g h1 r'.rx (turn m env' w')).2.2.2 ht (fun d q => by cases d <;> first | exact False.elim q | exact ⟨_, rfl⟩) _ (fun bb H1 q s => ?_) (o.xw r')
  cases bb with
  | true =>
    rw [if_pos rfl]
    refine ⟨fun σ2 H2 => ∃ m', m' < m ∧ ∃ Hd2 env2, RE X x0 Hd0 H0 F Hd2 env2 σ2 H2 ∧ Wi m' env2, fun σ2 H2 q => q, ?_⟩
    refine hb g sto h2 (r'.ext s) (Nn := { Nn with nx := fun env' => ∃ m', m' < m ∧ Wi m' env', ct := fun env' => ∃ m', m' < m ∧ Wi m' env', bk := Nn.nx }) ?_ q
    exact ⟨fun env σ H Hd rr ⟨m', hm, qq⟩ => ⟨m', hm, Hd, env, rr, qq⟩, fun env σ H Hd rr qq => o.nx _ _ _ _ rr qq, fun env σ H Hd rr ⟨m', hm, qq⟩ => ⟨m', hm, Hd, env, rr, qq⟩, o.rt, o.ex, o.stk, o.frm⟩
  | false => rw [if_neg Bool.false_ne_true]; exact o.nx _ _ _ _ (r'.ext s) q
theorem s_ret {e : E} : SS T N (.ret e) := by
  intro lvl ns X W g sto st hc x0 Hd0 H0 F Hd env σ H r Nn En o h
  obtain ⟨v, pos, rfl, hb, h1⟩ := j_ret (show sRet (nb e) (chkE N e) ns st = true from hc)
  exact st_of (ps_ret pe_sem) ((sE T N e g h1 r.rx h).1 hb _ (fun d v H' q s rv => o.rt d v H' (r.same.trans s) (Rep.mono (hid_less r.up) rv) q) (o.xw r))
theorem s_retN : SS T N .retN := by
  intro lvl ns X W g sto st hc x0 Hd0 H0 F Hd env σ H r Nn En o h
  have e : ∃ pos, st = .Return none pos := by
    have hc : sRetN ns st = true := hc
    unfold sRetN at hc
    split at hc
    · exact ⟨_, rfl⟩
    · cases hc
  obtain ⟨pos, rfl⟩ := e
  exact st_of ps_retN (o.rt .non .non H r.same .non h)
theorem s_brk : SS T N .brk := by
  intro lvl ns X W g sto st hc x0 Hd0 H0 F Hd env σ H r Nn En o h
  have e : ∃ pos, st = .Break pos := by
    have hc : sBrk ns st = true := hc
    unfold sBrk at hc
    split at hc
    · exact ⟨_, rfl⟩
    · cases hc
  obtain ⟨pos, rfl⟩ := e
  exact st_of ps_break (o.bk _ _ _ _ r h)
theorem s_cont : SS T N .cont := by
  intro lvl ns X W g sto st hc x0 Hd0 H0 F Hd env σ H r Nn En o h
  have e : ∃ pos, st = .Continue pos := by
    have hc : sCont ns st = true := hc
    unfold sCont at hc
    split at hc
    · exact ⟨_, rfl⟩
    · cases hc
  obtain ⟨pos, rfl⟩ := e
  exact st_of ps_continue (o.ct _ _ _ _ r h)
theorem s_pass : SS T N .pass := by
  intro lvl ns X W g sto st hc x0 Hd0 H0 F Hd env σ H r Nn En o h
  have e : ∃ pos, st = .Pass pos := by
    have hc : sPass ns st = true := hc
    unfold sPass at hc
    split at hc
    · exact ⟨_, rfl⟩
    · cases hc
  obtain ⟨pos, rfl⟩ := e
  exact st_of ps_pass (o.nx _ _ _ _ r h)
end
end Lp
namespace Lp
open PySem L2
theorem zip_look {mg : Str → Option Value} {K : PySem.W.Frag} {F : Hp} {f : Str} {d : D} : ∀ {fs : List Str} {ds : List D} {vs : List V}, RepA mg K F ds vs → (fs.zip ds).lookup f = some d → ∃ v, (fs.zip vs).lookup f = some v ∧ Rep mg K F d v
  | [], _, _, _, h => by cases h
  | _ :: _, [], _, .nil, h => by cases h
  | g :: fs, x :: ds, _, .cons (v := v) rv rs, h => by
    rw [List.zip_cons_cons, List.lookup_cons] at h
    rw [List.zip_cons_cons, List.lookup_cons]
    split at h
    · cases h; exact ⟨v, rfl, rv⟩
    · exact zip_look rs h
section
variable {T : Tab} {N : List Str}
theorem s_raise {c : Str} {es : Es} : SS T N (.raise c es) := by
  intro lvl ns X W g sto st hc x0 Hd0 H0 F Hd env σ H r Nn En o h
  obtain ⟨p, xs, q, pos, rfl, hg, hs, h1⟩ := j_raise (show sRaise c (chkEs N es) ns st = true from hc)
  obtain ⟨g1, g2⟩ := glB_c hg
  obtain ⟨fs, ht, h⟩ : ∃ fs, T.exc c = some fs ∧ wpEs T es env (fun ds => fs.length = ds.length ∧ Nn.ex env ⟨c, fs.zip ds⟩) (Nn.ex env) := h
  obtain ⟨hne, hlen, C, i, fd, ps, j, hm, oc, fi, ti, hb, hj, F1⟩ := g.tab.exc _ _ ht
  cases xs with
  | nil =>
    cases es with
    | nil =>
      obtain ⟨e1, _⟩ : fs.length = ([] : List D).length ∧ Nn.ex env ⟨c, fs.zip []⟩ := h
      exact absurd (List.length_eq_zero_iff.mp e1) hne
    | cons e r => obtain ⟨x', r', e', _⟩ := i_cons (show cCons (nb e) (chkE N e) (chkEs N r) ns [] = true from h1); cases e'
  | cons x xs =>
    obtain ⟨p1, p2⟩ := noStar_cons hs
    have hx : Passes (L2.CX X.prog X.w) X (fun _ _ _ => False) := fun pins σ H s e s' I k => passAt (W := fun _ _ _ _ => False) takes0 σ pins H s e s' I k
    refine st_of (ps_raise (W := W) g.calm g.takes (pmk_oex (sp := excSp C fs) (dvs := []) (ds := []) oc fi ti F1 (g.room.mono hj) hb .nil hx (gl_of g.names g1) hm pa_sem g2 (star_ok p1) (noStar_back p2))) ?_
    refine sA T N es g h1 r.rx h _ (fun ds vs H1 qq s ra => ?_) (o.xw r)
    obtain ⟨ql, qq⟩ := qq
    refine ⟨by rw [← ra.length, ← ql]; exact hlen, fun a ha => ?_⟩
    refine ⟨a, vs, by rw [List.append_nil], by rw [← ra.length, ← ql], upd_same, fun d fl H2 hd keep e1 e2 look => ?_⟩
    have hda : d ≠ a := fun e => by rw [e, upd_same] at hd; cases hd
    have hd1 : H1 d = none := by rw [upd_ne hda] at hd; exact hd
    refine ⟨rfl, d, fl, e1, e2, hd1, ?_⟩
    have s2 : Same H1 (upd (del H2 a) d (.xd fl)) := fun b u e => by
      have n1 : b ≠ a := fun z => by rw [z, ha] at e; cases e
      have n2 : b ≠ d := fun z => by rw [z, hd1] at e; cases e
      rw [upd_ne n2, show del H2 a b = H2 b from if_neg n1]
      exact keep b u n1 (by rw [upd_ne n1]; exact e)
    refine o.ex env ⟨c, fs.zip ds⟩ _ _ _ _ Hd (r.ext (s.trans s2)) ⟨C, hm, rfl, .inr ⟨d, fl, rfl, upd_same, fun f dd hl => ?_⟩⟩ qq
    obtain ⟨v, l1, l2⟩ := zip_look ra hl
    exact ⟨v, look f v l1, l2.mono (hid_same s2)⟩
/-! ## suites -/
theorem s_snil : SSs T N .nil := by
  intro lvl ns X W g sto sts hc x0 Hd0 H0 F Hd env σ H r Nn En o h
  have hc : sNil ns sts = true := hc
  unfold sNil at hc
  split at hc
  · exact ss_of pss_nil (o.nx _ _ _ _ r h)
  · cases hc
theorem chk_cons {s : S} {r : Ss} {ns : Nms} {sts : List Stmt} (h : chkSs N (.cons s r) ns sts = true) : (∃ i, s = .frz i ∧ chkSs N r ns sts = true) ∨ (∃ st rest, sts = st :: rest ∧ chkS N s ns st = true ∧ chkSs N r ns rest = true) := by
  have h : (if isFrz s then chkSs N r else sCons (chkS N s) (chkSs N r)) ns sts = true := h
  by_cases e : isFrz s = true
  · rw [if_pos e] at h
    cases s <;> first | exact Bool.noConfusion e | skip
    exact .inl ⟨_, rfl, h⟩
  · rw [if_neg e] at h
    unfold sCons at h
    split at h
    · rw [Bool.and_eq_true] at h
      exact .inr ⟨_, _, rfl, h.1, h.2⟩
    · cases h
theorem s_scons {s : S} {t : Ss} (hs : SS T N s) (ht : SSs T N t) : SSs T N (.cons s t) := by
  intro lvl ns X W g sto sts hc x0 Hd0 H0 F Hd env σ H r Nn En o h
  rcases chk_cons hc with ⟨i, rfl, hc⟩ | ⟨st, rest, rfl, h1, h2⟩
  · obtain ⟨d, hd, h⟩ : ∃ d, env[i]? = some (some (true, d)) ∧ wpSs T t (env.set i (some (false, d))) Nn := h
    obtain ⟨Hd', r'⟩ := r.frz hd
    exact ht g sto hc r' o h
  · have h : wpS T s env { Nn with nx := fun env' => wpSs T t env' Nn } := h
    refine ss_of (pss_cons ps_sem pss_sem) (hs g sto h1 r (Nn := { Nn with nx := fun env' => wpSs T t env' Nn }) ?_ h)
    exact ⟨fun env σ H Hd rr q => ht g sto h2 rr o q, o.bk, o.ct, o.rt, o.ex, o.stk, o.frm⟩
theorem s_frz {i : Nat} : SS T N (.frz i) := by
  intro lvl ns X W g sto st hc
  exact Bool.noConfusion (show false = true from hc)
/-! ## try -/
def rIsX (K : PySem.W.Frag) (C a : Addr) (d : Option Addr) : List V → Hp → VK → Prop := fun xs H Q => ∃ (D : Addr) (b : Bool), xs = [.ref a, .ref D] ∧ (d = none ∨ ∃ dd fs, d = some dd ∧ H dd = some (.xd fs)) ∧ PySem.W.kitOne K (.ref C) (.ref D) = some b ∧ Q (.bl b) H
theorem call_isX {X : Cx} {a C : Addr} {oe : Obj} {d : Option Addr} {pn : List (Addr × Obj)} (E : ExcC X.K C) (hz : Zc (.ref C) d oe) (hf : ∃ vs, oe.data = .fields vs) : CallR (X.suite a ((a, oe) :: pn)) (.builtin "isinstance") (rIsX X.K C a d) := by
  intro pins s σ H xs us Q I r h
  obtain ⟨D, b, rfl, hd, e, q⟩ := h
  cases r with
  | cons rx rr =>
    cases rr with
    | cons rt rr =>
      cases rr
      cases rx
      cases rt
      obtain ⟨hget, _⟩ := I.pin (a, oe) (List.mem_append.mpr (.inl List.mem_cons_self))
      obtain ⟨vs, hv⟩ := hf
      have J : ∃ od, PySem.W.InstAt s.heap a oe C od := by
        rcases hd with rfl | ⟨dd, fs, rfl, ea⟩
        · obtain ⟨oc, od, oda, osl⟩ := oe
          obtain ⟨h1, h2⟩ := hz
          dsimp only at h1 h2 hv
          subst h1 h2 hv
          exact ⟨none, hget, rfl, rfl, trivial⟩
        · have hx : ObjOk X.prog X.w H s.heap dd (.xd fs) := I.hok dd _ ea
          obtain ⟨mA, hns, hr⟩ := hx
          obtain ⟨od, ho, hl⟩ := lookIn_ns hns
          exact ⟨some od, hget, hz.1, by unfold PySem.W.notCls; rw [hv] <;> rfl, by rw [hz.2]; exact ho⟩
      obtain ⟨od, J⟩ := J
      have hcl : (PySem.W.clsIn X.K C).isSome = true := by
        obtain ⟨cd, hc, _⟩ := PySem.W.any_some E.hd
        rw [hc]; rfl
      exact PySem.W.kia_one (PySem.W.kitx_exc hcl E.hg E.hk E.hs E.ha E.hn E.ht E.hm) I.kIn J e (fun z => nomatch z) fun tk => ⟨.bl b, H, I.kept (t' := tk) fun _ _ z => z, rfl, q⟩
theorem j_try {ns : Nms} {st : Stmt} {x : Str} {i : Nat} {g h : CkSs} (hc : sTry N x i g h ns st = true) : ∃ body np n b0 suite pos' pos, st = .Try body [.ExceptHandler (some (.Name x np)) (some n) (b0 :: suite) pos'] [] [] pos ∧ glB ns x = true ∧ N[i]? = some n ∧ ns.lookup n = some .local ∧ g ns body = true ∧ h ns (b0 :: suite) = true := by
  unfold sTry at hc
  split at hc
  · simp only [Bool.and_eq_true, decide_eq_true_eq] at hc
    obtain ⟨⟨⟨⟨⟨rfl, h2⟩, h3⟩, h4⟩, h5⟩, h6⟩ := hc
    exact ⟨_, _, _, _, _, _, _, rfl, h2, h3, h4, h5, h6⟩
  · cases hc
theorem j_isRet {ns : Nms} {sts : List Stmt} {i : Nat} {y f : Str} (hc : hIsRet N i y f ns sts = true) : ∃ p1 n p2 p3 p4 p5 tt p6 m p7 p8 p9, sts = [.If (.UnaryOp .Not (.Call (.Name "isinstance" p1) [.Name n p2, .Name y p3] [] p4) p5) tt [] p6, .Return (some (.Attribute (.Name m p7) f p8)) p9] ∧ nmOk N ns i n = true ∧ nmOk N ns i m = true ∧ glB ns "isinstance" = true ∧ glB ns y = true := by
  unfold hIsRet at hc
  split at hc
  · simp only [Bool.and_eq_true, decide_eq_true_eq] at hc
    obtain ⟨⟨⟨⟨⟨⟨rfl, rfl⟩, rfl⟩, h4⟩, h5⟩, h6⟩, h7⟩ := hc
    exact ⟨_, _, _, _, _, _, _, _, _, _, _, _, rfl, h4, h5, h6, h7⟩
  · cases hc
theorem suite_isRet {lvl : Nat} {ns : Nms} {X : Cx} {W : WX} (g : Good T lvl N ns X W) {i : Nat} {y f : Str} {sts : List Stmt} (hc : hIsRet N i y f ns sts = true) {x0 : Addr} {Hd0 : Addr → Bool} {H0 F : Hp} {Nn : Nd} {En En2 : Ends} (o : EndsOk X W x0 Hd0 H0 F Nn En) (hrt : En2.rt = En.rt) {Hd : Addr → Bool} {env : Env} {σ : L2.St} {H : Hp} (r : RE X x0 Hd0 H0 F Hd env σ H)
    {xn : Exn} {cls : Value} {dd : Option Addr} (rx : RepX X.mg X.K (hid Hd H) H xn cls dd) (h : wpH T (.isRet y f) xn Nn) {a : Addr} (hi : i < σ.length) {oe : Obj} {pn : List (Addr × Obj)} (hz : Zc cls dd oe) (hf : ∃ vs, oe.data = .fields vs) : ssSem (X.suite a ((a, oe) :: pn)) sts En2 (σ.set i (some (.ref a))) H := by
  obtain ⟨p1, n, p2, p3, p4, p5, tt, p6, m, p7, p8, p9, rfl, n1, n2, g1, g2⟩ := j_isRet hc
  obtain ⟨i1, i2, d, hl, q⟩ := h
  obtain ⟨C, m1, rfl, m3⟩ := rx
  obtain ⟨C', D, m4, m5, m6, m7, m8, m9⟩ := g.tab.isx _ _ _ i1
  rw [m1] at m4
  cases m4
  have hno := g.tab.xfl _ _ i2 _ m1
  obtain ⟨k1, k2, k3, k4⟩ := nmOk_c n1
  obtain ⟨l1, l2, l3, l4⟩ := nmOk_c n2
  obtain ⟨gi, _⟩ := glB_c g1
  obtain ⟨gy, gy2⟩ := glB_c g2
  obtain ⟨a0, fv, rfl, e2, e3⟩ : ∃ a fv, dd = some a ∧ H a = some (.xd fv) ∧ ∀ f d, xn.fs.lookup f = some d → ∃ v, fv.lookup f = some v ∧ Rep X.mg X.K (hid Hd H) d v := by
    rcases m3 with ⟨m3, _⟩ | m3
    · rw [m3] at hl; cases hl
    · exact m3
  obtain ⟨v, e4, e5⟩ := e3 f d hl
  have hv1 : PE (X.suite a ((a, oe) :: pn)) (.Name n p2) (tVar i) := pe_var (X := X.suite a ((a, oe) :: pn)) (show X.N[i]? = some n by rw [g.hN]; exact k1) (vis_of g.names k2) k3 k4
  have hv2 : PE (X.suite a ((a, oe) :: pn)) (.Name m p7) (tVar i) := pe_var (X := X.suite a ((a, oe) :: pn)) (show X.N[i]? = some m by rw [g.hN]; exact l1) (vis_of g.names l2) l3 l4
  have hd : PE (X.suite a ((a, oe) :: pn)) (.Name y p3) (tC (.ref D)) := pe_glob (X := X.suite a ((a, oe) :: pn)) (gl_of g.names gy) m5 rfl gy2
  refine ss_of (pss_cons (ps_if (pt_not (pt_val (pe_callB (call_isX m9 hz hf) (gl_of (X := X.suite a ((a, oe) :: pn)) g.names gi) g.tab.isi PyProof.Rows.boot_isinstance (pa_cons hv1 (pa_cons hd pa_nil))))) (pss_sem (X := X.suite a ((a, oe) :: pn))) pss_nil) (pss_cons (ps_ret (pe_xf m8 hno hz hf hv2)) pss_nil)) ?_
  have hs : (σ.set i (some (V.ref a)))[i]? = some (some (V.ref a)) := List.getElem?_set_self hi
  refine ⟨_, hs, D, true, rfl, .inr ⟨a0, fv, rfl, e2⟩, m6, true, rfl, ?_⟩
  show if (!true) = true then _ else _
  rw [if_neg (by decide)]
  refine ⟨_, hs, rfl, rfl, a0, fv, v, rfl, e2, e4, ?_⟩
  show En2.rt v H
  rw [hrt]
  exact o.rt d v H r.same (e5.mono (hid_less r.up)) q
theorem s_try {b : Ss} {x : Str} {i : Nat} {h : Hs} (hb : SSs T N b) : SS T N (.try_ b x i h) := by
  intro lvl ns X W g sto st hc x0 Hd0 H0 F Hd env σ H r Nn En o hh
  obtain ⟨body, np, n, b0, suite, pos', pos, rfl, hg, hn, hl, h1, h2⟩ := j_try (show sTry N x i (chkSs N b) (chkH N i h) ns st = true from hc)
  obtain ⟨g1, g2⟩ := glB_c hg
  obtain ⟨ix, hh⟩ : T.isx x x = some true ∧ wpSs T b env { Nn with ex := fun env' xn => ∃ r, T.isx xn.cls x = some r ∧ (r = true → i < env'.length ∧ wpH T h xn Nn) ∧ (r = false → Nn.ex env' xn) } := hh
  obtain ⟨c, c', m1, m2, _⟩ := g.tab.isx _ _ _ ix
  rw [m1] at m2
  cases m2
  refine st_of (ps_try_as (tb := fun W' D σ H => ∀ pn xe, Takes (X.tr pn xe) W' → PassesOwn (model X.prog X.w) X.A X.env xe → ssSem (X.tr pn xe) body D σ H)
    (ts := fun a cls d D σ H => ∀ oe pn, Zc cls d oe → (∃ vs, oe.data = .fields vs) → ssSem (X.suite a ((a, oe) :: pn)) (b0 :: suite) D σ H) o.stk o.frm g.nd (by rw [g.hN]; exact hn) (by show X.env.scope.names.lookup n = _; rw [g.names]; exact hl) ⟨gl_of g.names g1, g2, .inl m1⟩ g.takes
    (fun W' pn xe tk po => ⟨fun pins s σ H D I h => h pn xe tk po pins s I⟩) (fun a oe cls d pn hz hf => ⟨fun pins s σ H D I h => h oe pn hz hf pins s I⟩)) ?_
  intro pn xe tk po
  have back : ∀ {env : Env} {σ : L2.St} {H : Hp} {Hd : Addr → Bool}, RE (X.tr pn xe) x0 Hd0 H0 F Hd env σ H → RE X x0 Hd0 H0 F Hd env σ H := fun r => ⟨r.dom, r.d0, r.len, r.fz, r.ow, r.inj, r.up, r.old, r.same, r.keep, r.pin⟩
  refine hb (X := X.tr pn xe) ⟨g.tab, g.hN, g.nd, g.names, g.kind, g.calm, g.room, tk, po⟩ ⟨sto.1, sto.2⟩ h1 (⟨r.dom, r.d0, r.len, r.fz, r.ow, r.inj, r.up, r.old, r.same, r.keep, r.pin⟩ : RE (X.tr pn xe) x0 Hd0 H0 F Hd env σ H) (Nn := { Nn with ex := fun env' xn => ∃ r, T.isx xn.cls x = some r ∧ (r = true → i < env'.length ∧ wpH T h xn Nn) ∧ (r = false → Nn.ex env' xn) }) ?_ hh
  refine ⟨fun env σ H Hd rr q => o.nx _ _ _ _ (back rr) q, fun env σ H Hd rr q => o.bk _ _ _ _ (back rr) q, fun env σ H Hd rr q => o.ct _ _ _ _ (back rr) q, o.rt, fun env' xn cls dd σ' H' Hd' rr rx q => ?_, o.stk, o.frm⟩
  obtain ⟨rb, q1, q2, q3⟩ := q
  obtain ⟨C, D, n1, n2, n3, n4, n5, n6⟩ := g.tab.isx _ _ _ q1
  rw [m1] at n2
  cases n2
  obtain ⟨C', n7, n8, n9⟩ := id rx
  rw [show X.mg xn.cls = some (.ref C) from n1] at n7
  cases n7
  subst n8
  refine ⟨rb, n4, fun e a ha oe pn' hz hf => ?_, fun e => o.ex env' xn _ dd σ' H' Hd' (back rr) rx (q3 e)⟩
  cases h with
  | isRet y f => exact suite_isRet (En2 := { nx := fun σ' H' => En.nx (σ'.set i none) H', rt := En.rt, bk := fun σ' H' => En.bk (σ'.set i none) H', ct := fun σ' H' => En.ct (σ'.set i none) H' }) (a := a) (pn := pn') g h2 o rfl (back rr) rx (q2 e).2 (by rw [rr.len]; exact (q2 e).1) hz hf
theorem s_sdead : SS T N .dead := by
  intro lvl ns X W g sto st hc x0 Hd0 H0 F Hd env σ H r Nn En o h
  exact False.elim h
end
variable (T : Tab) (N : List Str)
mutual
theorem sS : ∀ s : S, SS T N s
  | .set _ _ => s_set
  | .setO _ _ => s_setO
  | .unp _ _ => s_unp
  | .stx _ _ _ => s_stx
  | .app _ _ => s_app
  | .fset _ _ => s_fset
  | .ex _ => s_ex
  | .if_ _ a b => s_if (sSs a) (sSs b)
  | .for_ _ _ b => s_for (sSs b)
  | .whl _ b => s_whl (sSs b)
  | .ret _ => s_ret
  | .retN => s_retN
  | .raise _ _ => s_raise
  | .brk => s_brk
  | .cont => s_cont
  | .pass => s_pass
  | .frz _ => s_frz
  | .dead => s_sdead
  | .try_ b _ _ _ => s_try (sSs b)
theorem sSs : ∀ s : Ss, SSs T N s
  | .nil => s_snil
  | .cons s r => s_scons (sS s) (sSs r)
end
end Lp
namespace Lp
open PySem L2 PyProof.Rows
/-! ## defs -/
def env0 (N : List Str) (ds : List D) : Env := ds.map (fun d => some (false, d)) ++ List.replicate (N.length - ds.length) none
theorem env0_get {N : List Str} {ds : List D} {i : Nat} {d : D} {b : Bool} (h : (env0 N ds)[i]? = some (some (b, d))) : b = false ∧ ds[i]? = some d := by
  unfold env0 at h
  by_cases hi : i < ds.length
  · rw [List.getElem?_append_left (by rw [List.length_map]; exact hi), List.getElem?_map, List.getElem?_eq_getElem hi] at h
    cases h
    exact ⟨rfl, List.getElem?_eq_getElem hi⟩
  · rw [List.getElem?_append_right (by rw [List.length_map]; omega)] at h
    have := List.mem_of_getElem? h
    rw [List.mem_replicate] at this
    cases this.2
theorem start_get {N : List Str} {vs : List V} {i : Nat} {v : V} (h : vs[i]? = some v) : (L2.start N vs)[i]? = some (some v) := by
  unfold L2.start
  have hi := (List.getElem?_eq_some_iff.mp h).1
  rw [List.getElem?_append_left (by rw [List.length_map]; exact hi), List.getElem?_map, h]
  rfl
theorem start_len {N : List Str} {vs : List V} {ds : List D} (h : ds.length = vs.length) : (L2.start N vs).length = (env0 N ds).length := by
  unfold L2.start env0
  simp [h]
section
variable {P : Program} {w : World} {K : PySem.W.Frag} {mg : Str → Option Value} {base : Heap} {T : Tab} {k : Nat}
theorem good_cx {x qual : Str} {st : Stmt} {f : Addr} {N ps : List Str} (tab : TabOk T k P w K mg base) (S : FnScope N ps (defScope st)) {cdv : Value} {A : Around} {outer : List PySem.Env} {s : Shared} {H : Hp} {E : XK} (hr : Room k (A.deeper (envOfC qual (defScope st) s.heap.objs.size f cdv))) :
    Good T k N (defScope st).names (cxOf (L2.CX P w) P w K mg base N qual (defScope st) f cdv A outer s H E) (fun cls d _ H => E cls d H) where
  tab := tab
  hN := rfl
  nd := S.nd
  names := rfl
  kind := S.kind
  calm := rfl
  room := hr
  takes := takes_of rfl rfl rfl rfl
  own := PassesOwn.leaving
/-- a def keeps its contract -/
theorem def_ok {x qual : Str} {st : Stmt} {f : Addr} {fd : FuncData} {N ps : List Str} (F : Fun K x qual st f fd) (S : FnScope N ps (defScope st)) (tab : TabOk T k P w K mg base) {body : Ss} (hc : chkSs N body (defScope st).names (defBody st) = true) (c : Ct)
    (hl : ∀ ds Q X, c.run ds Q X → ds.length = ps.length)
    (hr : ∀ ds Q X, c.run ds Q X → wpSs T body (env0 N ds) { nx := fun _ => Q .non, rt := Q, bk := fun _ => False, ct := fun _ => False, ex := fun _ => X }) : FnOk P w K mg base (L2.CX P w) (k + 1) f fd ps (lift mg K c) := by
  refine F.okX S (fun vs H Q E h => ?_) fun cdv A outer s H vs Q E hroom h => ?_
  · obtain ⟨Hd, ds, dm, r, h⟩ := h
    rw [← r.length]; exact hl _ _ _ h
  · obtain ⟨Hd, ds, dm, r, h⟩ := h
    refine ⟨_, pss_sem, ?_⟩
    refine sSs T N body (good_cx (x := x) tab S hroom) ⟨rfl, fun _ _ _ => rfl⟩ hc (x0 := 0) (Hd0 := Hd) (H0 := H) (F := hid Hd H) (Hd := Hd) (env := env0 N ds) ⟨dm, dm, start_len r.length, fun i d e => ?_, fun i d e => ?_, fun i j d e a h1 => ?_, fun a h => h, fun a h => .inl h, Same.refl H, Same.refl _, fun d e => ?_⟩ ?_ (hr ds _ _ h)
    · obtain ⟨v, e1, e2⟩ := r.get' (env0_get e).2
      exact ⟨v, start_get e1, e2⟩
    · cases (env0_get e).1
    · cases (env0_get h1).1
    · cases (env0_get e).1
    · exact ⟨fun env σ H' Hd rr q => q .non H' rr.same .non, fun env σ H' Hd rr q => q.elim, fun env σ H' Hd rr q => q.elim, fun d v H' s rv q => q v H' s rv, fun env xn cls dd σ H' Hd rr rx q => q cls dd H' rr.same (rx.mono (hid_less rr.up)), rfl, rfl⟩
/-- an __init__ keeps its class's contract -/
theorem init_ok {x qual : Str} {st : Stmt} {f C : Addr} {fd : FuncData} {N ps : List Str} {cn : Str} (F : Fun K x qual st f fd) (S : FnScope N ps (defScope st)) (tab : TabOk T k P w K mg base) {body : Ss} (hc : chkSs N body (defScope st).names (defBody st) = true) (c : Ct) (hm : mg cn = some (.ref C))
    (hl : ∀ ds Q X, c.run ds Q X → ds.length + 1 = ps.length)
    (hr : ∀ ds Q X, c.run ds Q X → wpSs T body ((env0 N (.non :: ds)).set 0 (some (true, .ins cn []))) { nx := fun env => ∃ d, env[0]? = some (some (true, d)) ∧ Q d, rt := fun _ => False, bk := fun _ => False, ct := fun _ => False, ex := fun env y => (∃ d, env[0]? = some (some (true, d))) ∧ X y }) : FnOk P w K mg base (L2.CX P w) (k + 1) f fd ps (liftI mg K C c) := by
  refine F.okX S (fun vs H Q E h => ?_) fun cdv A outer s H vs Q E hroom h => ?_
  · obtain ⟨x0, dx, us, Hd, ds, rfl, hx, hxf, dm, r, h⟩ := h
    have := hl _ _ _ h
    rw [List.length_cons, ← r.length]; exact this
  · obtain ⟨x0, dx, us, Hd, ds, rfl, hx, hxf, dm, r, h⟩ := h
    refine ⟨_, pss_sem, ?_⟩
    have ne0 : ∀ {a : Addr}, Hd a = true → a ≠ x0 := fun {a} ha e => by rw [e, hxf] at ha; cases ha
    have hd0 : hid Hd (del H x0) = hid (addH Hd x0) H := by
      funext a
      by_cases e : a = x0
      · rw [e, hid_on addH_same]
        by_cases z : Hd x0 = true
        · rw [hid_on z]
        · rw [hid_off (by simpa using z)]; exact if_pos rfl
      · by_cases z : Hd a = true
        · rw [hid_on z, hid_on (by rw [addH_ne e]; exact z)]
        · have z : Hd a = false := by simpa using z
          rw [hid_off z, hid_off (by rw [addH_ne e]; exact z)]; exact if_neg e
    have r0 : RepA mg K (hid (addH Hd x0) H) (.non :: ds) (.non :: us) := .cons .non r
    have len0 : (0 : Nat) < (env0 N (.non :: ds)).length := by unfold env0; simp
    refine sSs T N body (good_cx (x := x) tab S hroom) ⟨rfl, fun _ _ _ => rfl⟩ hc (x0 := x0) (Hd0 := Hd) (H0 := del H x0) (F := hid (addH Hd x0) H) (Hd := addH Hd x0) (env := (env0 N (.non :: ds)).set 0 (some (true, .ins cn []))) ⟨dm.add' hx, fun a ha => ?_, ?_, fun i d e => ?_, fun i d e => ?_, fun i j d e a h1 h2 h3 h4 => ?_, fun a h => addH_up a h, fun a h => ?_, fun a o e => ?_, Same.refl _, fun d e => ?_⟩ ?_ (hr ds _ _ h)
    · rw [show del H x0 a = H a from if_neg (ne0 ha)]; exact dm a ha
    · rw [List.length_set]
      exact start_len (vs := .ref x0 :: us) (by rw [List.length_cons, List.length_cons, r.length])
    · rcases set_get e with ⟨_, _, e'⟩ | ⟨hj, e⟩
      · cases e'
      · cases i with
        | zero => exact absurd rfl hj
        | succ i =>
          obtain ⟨v, e1, e2⟩ := r0.get' (env0_get e).2
          exact ⟨v, start_get (vs := .ref x0 :: us) (by exact e1), e2⟩
    · rcases set_get e with ⟨hj, _, e'⟩ | ⟨hj, e⟩
      · cases e'
        subst hj
        exact ⟨x0, start_get (vs := .ref x0 :: us) rfl, addH_same, if_pos rfl, .ins hx hm .nil, rfl⟩
      · cases (env0_get e).1
    · rcases set_get h1 with ⟨e1, _, _⟩ | ⟨_, h1⟩
      · rcases set_get h2 with ⟨e2, _, _⟩ | ⟨_, h2⟩
        · exact e1.symm.trans e2
        · cases (env0_get h2).1
      · cases (env0_get h1).1
    · by_cases e : a = x0
      · exact .inr (by rw [e]; exact if_pos rfl)
      · rw [addH_ne e] at h; exact .inl h
    · by_cases z : a = x0
      · rw [show del H x0 a = none from if_pos z] at e; cases e
      · rw [show del H x0 a = H a from if_neg z] at e; exact e
    · exact start_get (vs := .ref x0 :: us) rfl
    · have sb : ∀ {H' : Hp}, Same (del H x0) H' → SameBut x0 H H' := fun {H'} s a o ne e => s a o (by rw [show del H x0 a = H a from if_neg ne]; exact e)
      refine ⟨fun env σ H' Hd' rr q => ?_, fun env σ H' Hd rr q => q.elim, fun env σ H' Hd rr q => q.elim, fun d v H' s rv q => q.elim, fun env xn cls dd σ H' Hd' rr rx q => ?_, rfl, rfl⟩
      · obtain ⟨d, e, q⟩ := q
        obtain ⟨a, q1, q2, q3, q4, q5⟩ := rr.ow 0 d e
        have q6 := rr.pin d e
        rw [q1] at q6
        cases q6
        refine q H' (sb rr.same) ?_
        refine RepT.rep (hid_less rr.up) (fun b o eb hb => by cases eb; rw [hid_off hxf]; exact hb) q4 fun ns z => ?_
        subst z
        cases q5
      · obtain ⟨⟨d0, e0⟩, q⟩ := q
        obtain ⟨a0, q1, q2, _, _, _⟩ := rr.ow 0 d0 e0
        have q6 := rr.pin d0 e0
        rw [q1] at q6
        cases q6
        refine q cls dd H' (sb rr.same) ?_
        refine rx.mono (hid_less fun a ha => ?_)
        by_cases e : a = x0
        · rw [e]; exact q2
        · rw [addH_ne e] at ha; exact rr.up a ha
end
end Lp
namespace Lp
open PySem L2
/-! ## loops -/
theorem wpFor_go {step : D → Env → (Env → Prop) → Prop} {nx : Env → Prop} (I : Nat → Env → Prop) : ∀ (ys : List D) (k : Nat) (env : Env), I k env →
    (∀ i x env K, ys[i]? = some x → I (k + i) env → (∀ env', I (k + i + 1) env' → K env') → step x env K) → (∀ env, I (k + ys.length) env → nx env) → wpFor step nx ys env
  | [], k, env, h0, _, he => he env h0
  | y :: ys, k, env, h0, hs, he => hs 0 y env _ rfl h0 fun env' h' => wpFor_go I ys (k + 1) env' h'
      (fun i x env K hx hi hk => hs (i + 1) x env K hx (by rw [show k + (i + 1) = k + 1 + i by omega]; exact hi) (by rw [show k + (i + 1) + 1 = k + 1 + i + 1 by omega]; exact hk))
      (fun env h => he env (by rw [List.length_cons, show k + (ys.length + 1) = k + 1 + ys.length by omega]; exact h))
theorem wpFor_inv {step : D → Env → (Env → Prop) → Prop} {nx : Env → Prop} {xs : List D} {env : Env} (I : Nat → Env → Prop) (h0 : I 0 env)
    (hs : ∀ i x env K, xs[i]? = some x → I i env → (∀ env', I (i + 1) env' → K env') → step x env K) (he : ∀ env, I xs.length env → nx env) : wpFor step nx xs env :=
  wpFor_go I xs 0 env h0 (fun i x env K hx hi hk => hs i x env K hx (by rwa [Nat.zero_add] at hi) (by rwa [Nat.zero_add] at hk)) (fun env h => he env (by rwa [Nat.zero_add] at h))
/-- over the items of a list of the plain world -/
theorem wpFor_map {α : Type} {step : D → Env → (Env → Prop) → Prop} {nx : Env → Prop} {xs : List α} {g : α → D} {env : Env} (I : List α → Env → Prop) (h0 : I [] env)
    (hs : ∀ (pre : List α) (x : α) (post : List α) env K, xs = pre ++ x :: post → I pre env → (∀ env', I (pre ++ [x]) env' → K env') → step (g x) env K) (he : ∀ env, I xs env → nx env) : wpFor step nx (xs.map g) env := by
  refine wpFor_inv (fun i env => I (xs.take i) env) h0 (fun i x env K hx hi hk => ?_) fun env h => he env ?_
  · rw [List.getElem?_map] at hx
    cases e : xs[i]? with
    | none => rw [e] at hx; cases hx
    | some a =>
      rw [e] at hx
      cases hx
      obtain ⟨hl, ea⟩ := List.getElem?_eq_some_iff.mp e
      refine hs (xs.take i) a (xs.drop (i + 1)) env K ?_ hi fun env' h' => hk env' ?_
      · rw [← ea, ← List.drop_eq_getElem_cons hl, List.take_append_drop]
      · rw [List.take_succ_eq_append_getElem hl, ea]; exact h'
  · rw [List.length_map, List.take_length] at h; exact h
theorem wpFold_map {α : Type} {step : D → List D → (List D → Prop) → Prop} {K : List D → Prop} (p : α → Bool) (f : α → D) (g : α → D) : ∀ (xs : List α) (acc : List D), acc.length + xs.length ≤ sizeLine →
    (∀ x ∈ xs, ∀ acc K, acc.length < sizeLine → (p x = true → K (acc ++ [f x])) → (p x = false → K acc) → step (g x) acc K) → K (acc ++ (xs.filter p).map f) → wpFold step (xs.map g) acc K
  | [], acc, _, _, h => by
    rw [List.filter_nil, List.map_nil, List.append_nil] at h; exact h
  | x :: xs, acc, hl, hs, h => by
    rw [List.length_cons] at hl
    refine hs x List.mem_cons_self acc _ (by omega) (fun hp => ?_) fun hp => ?_
    · refine wpFold_map p f g xs (acc ++ [f x]) (by rw [List.length_append, List.length_singleton]; omega) (fun y hy => hs y (List.mem_cons_of_mem _ hy)) ?_
      rw [List.filter_cons_of_pos hp, List.map_cons] at h
      rw [List.append_assoc]; exact h
    · refine wpFold_map p f g xs acc (by omega) (fun y hy => hs y (List.mem_cons_of_mem _ hy)) ?_
      rw [List.filter_cons_of_neg (by rw [hp]; exact Bool.false_ne_true)] at h
      exact h
/-- a comprehension: condition and element are told by a function each -/
theorem lc_of {α : Type} {step : D → List D → (List D → Prop) → Prop} {K : List D → Prop} {xs : List α} (p : α → Bool) (f : α → D) (g : α → D) (hl : xs.length ≤ sizeLine)
    (hs : ∀ x ∈ xs, ∀ acc K, acc.length < sizeLine → (p x = true → K (acc ++ [f x])) → (p x = false → K acc) → step (g x) acc K) (h : K ((xs.filter p).map f)) : wpFold step (xs.map g) [] K :=
  wpFold_map p f g xs [] (by rw [List.length_nil, Nat.zero_add]; exact hl) hs (by rw [List.nil_append]; exact h)
/-- .. without a condition -/
theorem lc_all {α : Type} {step : D → List D → (List D → Prop) → Prop} {K : List D → Prop} {xs : List α} (f : α → D) (g : α → D) (hl : xs.length ≤ sizeLine)
    (hs : ∀ x ∈ xs, ∀ acc K, acc.length < sizeLine → K (acc ++ [f x]) → step (g x) acc K) (h : K (xs.map f)) : wpFold step (xs.map g) [] K :=
  lc_of (fun _ => true) f g hl (fun x hx acc K ha h1 _ => hs x hx acc K ha (h1 rfl)) (by rw [List.filter_eq_self.mpr fun _ _ => rfl]; exact h)
/-! ## comparison of plain values -/
def fineD : Nat → D → Bool
  | _, .non => true
  | _, .int _ => true
  | _, .str s => PyData.strOk s
  | n + 1, .tup ds => ds.all (fineD n)
  | n + 1, .lst ds => ds.all (fineD n)
  | _, _ => false
theorem fine_sub : ∀ {n : Nat} {ds : List D}, (∀ d, fineD n d = true → plain d = true ∧ (toP d).canLay0 = true ∧ (toP d).depth ≤ n) → ds.all (fineD n) = true → plains ds = true ∧ PyData.canLayAll0 (toPs ds) = true ∧ PyData.depthAll (toPs ds) ≤ n
  | n, [], _, _ => ⟨rfl, rfl, Nat.zero_le _⟩
  | n, d :: ds, ih, h => by
    rw [List.all_cons, Bool.and_eq_true] at h
    obtain ⟨a1, a2, a3⟩ := ih d h.1
    obtain ⟨b1, b2, b3⟩ := fine_sub (ds := ds) ih h.2
    refine ⟨?_, ?_, ?_⟩
    · show (plain d && plains ds) = true
      rw [a1, b1]; rfl
    · show (PyData.canLay0 (toP d) && PyData.canLayAll0 (toPs ds)) = true
      rw [a2, b2]; rfl
    · show max (PyData.depth (toP d)) (PyData.depthAll (toPs ds)) ≤ n
      omega
theorem fine_ok : ∀ (n : Nat) (d : D), fineD n d = true → plain d = true ∧ (toP d).canLay0 = true ∧ (toP d).depth ≤ n := by
  intro n
  induction n with
  | zero =>
    intro d h
    cases d <;> first | (exfalso; exact Bool.noConfusion h) | exact ⟨rfl, rfl, Nat.le_refl _⟩ | exact ⟨rfl, h, Nat.le_refl _⟩
  | succ n ih =>
    intro d h
    cases d with
    | tup ds =>
      obtain ⟨h1, h2, h3⟩ := fine_sub ih (show ds.all (fineD n) = true from h)
      exact ⟨h1, h2, Nat.succ_le_succ h3⟩
    | lst ds =>
      obtain ⟨h1, h2, h3⟩ := fine_sub ih (show ds.all (fineD n) = true from h)
      exact ⟨h1, h2, Nat.succ_le_succ h3⟩
    | non => exact ⟨rfl, rfl, Nat.zero_le _⟩
    | int i => exact ⟨rfl, rfl, Nat.zero_le _⟩
    | str s => exact ⟨rfl, h, Nat.zero_le _⟩
    | bl b => exact Bool.noConfusion h
    | scr ns => exact Bool.noConfusion h
    | dct kvs => exact Bool.noConfusion h
    | ins c fs => exact Bool.noConfusion h
theorem fine_eqs : ∀ {n m : Nat} {xs ys : List D}, (∀ m x y, fineD n x = true → fineD m y = true → (PyData.eqv (toP x) (toP y) = true ↔ x = y)) → xs.all (fineD n) = true → ys.all (fineD m) = true → (PyData.eqvAll (toPs xs) (toPs ys) = true ↔ xs = ys)
  | _, _, [], [], _, _, _ => ⟨fun _ => rfl, fun _ => rfl⟩
  | _, _, [], _ :: _, _, _, _ => ⟨fun h => (Bool.false_ne_true h).elim, fun h => by cases h⟩
  | _, _, _ :: _, [], _, _, _ => ⟨fun h => (Bool.false_ne_true h).elim, fun h => by cases h⟩
  | n, m, x :: xs, y :: ys, ih, h1, h2 => by
    rw [List.all_cons, Bool.and_eq_true] at h1 h2
    have a := ih m x y h1.1 h2.1
    have b := fine_eqs (xs := xs) (ys := ys) ih h1.2 h2.2
    show (PyData.eqv (toP x) (toP y) && PyData.eqvAll (toPs xs) (toPs ys)) = true ↔ _
    rw [Bool.and_eq_true, a, b, List.cons.injEq]
theorem fine_eq : ∀ (n m : Nat) (x y : D), fineD n x = true → fineD m y = true → (PyData.eqv (toP x) (toP y) = true ↔ x = y) := by
  intro n
  induction n with
  | zero =>
    intro m x y h1 h2
    cases x <;> first | (exfalso; exact Bool.noConfusion h1) | skip
    all_goals cases m <;> cases y <;> first | (exfalso; exact Bool.noConfusion h2) | exact ⟨fun h => (Bool.false_ne_true h).elim, fun h => by cases h⟩ | exact ⟨fun _ => rfl, fun _ => rfl⟩ | skip
    all_goals (first | (rename_i i j; exact ⟨fun h => by rw [eq_of_beq (show (i == j) = true from h)], fun h => by cases h; exact beq_self_eq_true (α := Int) _⟩) | (rename_i i j; exact ⟨fun h => by rw [eq_of_beq (show (i == j) = true from h)], fun h => by cases h; exact beq_self_eq_true (α := Str) _⟩) | (rename_i i _ j; exact ⟨fun h => by rw [eq_of_beq (show (i == j) = true from h)], fun h => by cases h; exact beq_self_eq_true (α := Int) _⟩) | (rename_i i _ j; exact ⟨fun h => by rw [eq_of_beq (show (i == j) = true from h)], fun h => by cases h; exact beq_self_eq_true (α := Str) _⟩))
  | succ n ih =>
    intro m x y h1 h2
    cases x with
    | tup xs =>
      cases m <;> cases y <;> first | (exfalso; exact Bool.noConfusion h2) | exact ⟨fun h => (Bool.false_ne_true h).elim, fun h => by cases h⟩ | skip
      rename_i m ys
      have e := fine_eqs (m := m) ih (show xs.all (fineD n) = true from h1) (show ys.all (fineD m) = true from h2)
      show PyData.eqvAll (toPs xs) (toPs ys) = true ↔ _
      rw [e, D.tup.injEq]
    | lst xs =>
      cases m <;> cases y <;> first | (exfalso; exact Bool.noConfusion h2) | exact ⟨fun h => (Bool.false_ne_true h).elim, fun h => by cases h⟩ | skip
      rename_i m ys
      have e := fine_eqs (m := m) ih (show xs.all (fineD n) = true from h1) (show ys.all (fineD m) = true from h2)
      show PyData.eqvAll (toPs xs) (toPs ys) = true ↔ _
      rw [e, D.lst.injEq]
    | non => cases m <;> cases y <;> first | (exfalso; exact Bool.noConfusion h2) | exact ⟨fun h => (Bool.false_ne_true h).elim, fun h => by cases h⟩ | exact ⟨fun _ => rfl, fun _ => rfl⟩
    | int i =>
      cases y <;> first | (exfalso; cases m <;> exact Bool.noConfusion h2) | exact ⟨fun h => (Bool.false_ne_true h).elim, fun h => by cases h⟩ | skip
      rename_i j
      exact ⟨fun h => by rw [eq_of_beq (show (i == j) = true from h)], fun h => by cases h; exact beq_self_eq_true (α := Int) _⟩
    | str i =>
      cases y <;> first | (exfalso; cases m <;> exact Bool.noConfusion h2) | exact ⟨fun h => (Bool.false_ne_true h).elim, fun h => by cases h⟩ | skip
      rename_i j
      exact ⟨fun h => by rw [eq_of_beq (show (i == j) = true from h)], fun h => by cases h; exact beq_self_eq_true (α := Str) _⟩
    | bl b => exact Bool.noConfusion h1
    | scr ns => exact Bool.noConfusion h1
    | dct kvs => exact Bool.noConfusion h1
    | ins c fs => exact Bool.noConfusion h1
theorem fine_shaped {n : Nat} {d : D} (h : fineD n d = true) (hn : n ≤ 64) : SeqAt.shaped (toP d) = true := by
  obtain ⟨_, h2, h3⟩ := fine_ok n d h
  unfold SeqAt.shaped
  rw [h2, decide_eq_true (Nat.le_trans h3 hn)]; rfl
theorem op_eq {n m : Nat} {x y : D} {Q : Bool → Prop} (hx : fineD n x = true) (hy : fineD m y = true) (hn : n ≤ 64) (hm : m ≤ 64) (h : ∀ b : Bool, (b = true ↔ x = y) → Q b) : opCmp .eq x y Q :=
  ⟨⟨(fine_ok n x hx).1, (fine_ok m y hy).1, fine_shaped hx hn, fine_shaped hy hm⟩, h _ (fine_eq n m x y hx hy)⟩
theorem op_ne {n m : Nat} {x y : D} {Q : Bool → Prop} (hx : fineD n x = true) (hy : fineD m y = true) (hn : n ≤ 64) (hm : m ≤ 64) (h : ∀ b : Bool, (b = true ↔ x ≠ y) → Q b) : opCmp .ne x y Q := by
  refine ⟨⟨(fine_ok n x hx).1, (fine_ok m y hy).1, fine_shaped hx hn, fine_shaped hy hm⟩, h _ ?_⟩
  have e := fine_eq n m x y hx hy
  cases q : PyData.eqv (toP x) (toP y) with
  | true => rw [q] at e; exact ⟨fun z => (Bool.false_ne_true z).elim, fun z => absurd (e.mp rfl) z⟩
  | false => rw [q] at e; exact ⟨fun _ z => Bool.false_ne_true (e.mpr z), fun _ => rfl⟩
end Lp
namespace Lp
open PySem L2
/-! ## texts -/
abbrev ls (s : Str) : List Nat := s.cps.toList
abbrev sm (l : List Nat) : Str := ⟨l.toArray⟩
theorem str_ext {s t : Str} (h : ls s = ls t) : s = t := Str.ext' (Array.toList_inj.mp h)
theorem len_ls (s : Str) : s.length = (ls s).length := (Array.length_toList).symm
theorem ls_app (s t : Str) : ls (s ++ t) = ls s ++ ls t := Array.toList_append
theorem sm_ls (s : Str) : sm (ls s) = s := str_ext rfl
theorem str_inj {s t : Str} : D.str s = D.str t ↔ s = t := by rw [D.str.injEq]
theorem fine_str {n : Nat} {s : Str} (h : ∀ c ∈ ls s, c < 1114112) : fineD n (.str s) = true := by
  have e : PyData.strOk s = true := by
    unfold PyData.strOk
    rw [← Array.all_toList, List.all_eq_true]
    exact fun c hc => decide_eq_true (h c hc)
  cases n <;> exact e
theorem fine_int {n : Nat} {i : Int} : fineD n (.int i) = true := by cases n <;> rfl
theorem fine_non {n : Nat} : fineD n .non = true := by cases n <;> rfl
theorem fine_tup {n : Nat} {ds : List D} (h : ∀ d ∈ ds, fineD n d = true) : fineD (n + 1) (.tup ds) = true := List.all_eq_true.mpr h
theorem fine_lst {n : Nat} {ds : List D} (h : ∀ d ∈ ds, fineD n d = true) : fineD (n + 1) (.lst ds) = true := List.all_eq_true.mpr h
theorem map_str_inj {xs ys : List Str} (h : xs.map D.str = ys.map D.str) : xs = ys := (List.map_inj_right (fun a b e => by cases e; rfl)).mp h
theorem map_int_inj {xs ys : List Int} (h : xs.map D.int = ys.map D.int) : xs = ys := (List.map_inj_right (fun a b e => by cases e; rfl)).mp h
theorem has_one (s : Str) (c : Nat) : (!(Builtin.Str.occurrences s ⟨#[c]⟩ 0 s.length 1).isEmpty) = decide (c ∈ ls s) := by
  first | exact StrLaws.found_one s c | exact PyProof.StrLaws.found_one s c | exact found_one s c
theorem inD_str (s : Str) (ss : List Str) : inD (.str s) (ss.map .str) = decide (s ∈ ss) := by
  unfold inD inV
  rw [List.map_map]
  induction ss with
  | nil => rfl
  | cons t r ih =>
    show ((t == s) || (List.map (fV ∘ D.str) r).any (fun y => eqV y (fV (.str s)))) = _
    rw [ih]
    by_cases e : s = t
    · subst e; simp
    · have h1 : (t == s) = false := beq_eq_false_iff_ne.mpr fun z => e z.symm
      rw [h1, Bool.false_or]
      simp [e]
theorem inD_int (s : Int) (ss : List Int) : inD (.int s) (ss.map .int) = decide (s ∈ ss) := by
  unfold inD inV
  rw [List.map_map]
  induction ss with
  | nil => rfl
  | cons t r ih =>
    show ((t == s) || (List.map (fV ∘ D.int) r).any (fun y => eqV y (fV (.int s)))) = _
    rw [ih]
    by_cases e : s = t
    · subst e; simp
    · have h1 : (t == s) = false := beq_eq_false_iff_ne.mpr fun z => e z.symm
      rw [h1, Bool.false_or]
      simp [e]
theorem flat_strs (ss : List Str) : (ss.map D.str).all flatD = true := by rw [List.all_map]; exact List.all_eq_true.mpr fun _ _ => rfl
theorem flat_ints (ss : List Int) : (ss.map D.int).all flatD = true := by rw [List.all_map]; exact List.all_eq_true.mpr fun _ _ => rfl
/-! ## items by place -/
theorem at_nat {α : Type} {xs : List α} {i : Nat} {x : α} (h : xs[i]? = some x) : atI xs (i : Int) = some x := by
  have hl := (List.getElem?_eq_some_iff.mp h).1
  unfold atI ixN
  rw [if_pos (by omega), if_pos (by omega)]
  exact h
theorem at_int {α : Type} {xs : List α} {i : Int} {x : α} (h0 : 0 ≤ i) (h : xs[i.toNat]? = some x) : atI xs i = some x := by
  have := at_nat h
  rwa [Int.toNat_of_nonneg h0] at this
theorem at_neg {α : Type} {xs : List α} {x : α} (h : xs.getLast? = some x) : atI xs (-1) = some x := by
  have hn : xs ≠ [] := fun e => by rw [e] at h; cases h
  have hl : 0 < xs.length := List.length_pos_iff.mpr hn
  unfold atI ixN
  rw [if_neg (by omega), if_pos (by omega)]
  show xs[((-1 : Int) + (xs.length : Int)).toNat]? = some x
  rw [show ((-1 : Int) + (xs.length : Int)).toNat = xs.length - 1 by omega]
  rwa [List.getLast?_eq_getElem?] at h
theorem at_map {α β : Type} {xs : List α} {i : Int} {x : α} (f : α → β) (h : atI xs i = some x) : atI (xs.map f) i = some (f x) := by
  unfold atI at h ⊢
  rw [List.length_map]
  cases e : ixN xs.length i with
  | none => rw [e] at h; cases h
  | some j =>
    rw [e] at h
    show (xs.map f)[j]? = _
    rw [List.getElem?_map, show xs[j]? = some x from h]; rfl
theorem cut_hi {α : Type} (xs : List α) (k : Nat) : (xs.drop (HT.sIx xs.length 0 none)).take (HT.sIx xs.length xs.length (some (k : Int)) - HT.sIx xs.length 0 none) = xs.take k := by
  rw [HT.sIx_nat, HT.sIx_none, List.drop_zero, Nat.sub_zero]
  by_cases h : k ≤ xs.length
  · rw [Nat.min_eq_left h]
  · rw [Nat.min_eq_right (by omega), List.take_length, List.take_of_length_le (by omega)]
theorem cut_lo {α : Type} (xs : List α) (k : Nat) : (xs.drop (HT.sIx xs.length 0 (some (k : Int)))).take (HT.sIx xs.length xs.length none - HT.sIx xs.length 0 (some (k : Int))) = xs.drop k := by
  rw [HT.sIx_nat, HT.sIx_none]
  by_cases h : k ≤ xs.length
  · rw [Nat.min_eq_left h, List.take_of_length_le (by rw [List.length_drop]; exact Nat.le_refl _)]
  · rw [Nat.min_eq_right (by omega), List.drop_length, List.take_nil, List.drop_of_length_le (by omega)]
theorem cutD_hi (xs : List D) (k : Nat) : cutD xs none (some (k : Int)) = xs.take k := cut_hi xs k
theorem cutD_lo (xs : List D) (k : Nat) : cutD xs (some (k : Int)) none = xs.drop k := cut_lo xs k
theorem cutS_hi (s : Str) (k : Nat) : cutS s none (some (k : Int)) = sm ((ls s).take k) := by
  unfold cutS; rw [len_ls, cut_hi]
theorem cutS_lo (s : Str) (k : Nat) : cutS s (some (k : Int)) none = sm ((ls s).drop k) := by
  unfold cutS; rw [len_ls, cut_lo]
/-! ## order -/
def leS (a b : Str) : Bool := !PySem.Spec.ltCps (ls b) (ls a)
theorem leS_iff {a b : Str} : leS a b = true ↔ ls a ≤ ls b := by
  unfold leS
  rw [PyProof.Rows.ltCps_eq, Bool.not_eq_true', decide_eq_false_iff_not]
  exact Iff.rfl
theorem leS_trans (a b c : Str) (h1 : leS a b = true) (h2 : leS b c = true) : leS a c = true := leS_iff.mpr (List.le_trans (leS_iff.mp h1) (leS_iff.mp h2))
theorem leS_total (a b : Str) : (leS a b || leS b a) = true := by
  rw [Bool.or_eq_true, leS_iff, leS_iff]
  exact List.le_total _ _
theorem leS_anti {a b : Str} (h1 : leS a b = true) (h2 : leS b a = true) : a = b := str_ext (List.le_antisymm (leS_iff.mp h1) (leS_iff.mp h2))
def srt (ss : List Str) : List Str := ss.mergeSort leS
theorem srt_perm (ss : List Str) : (srt ss).Perm ss := List.mergeSort_perm _ _
theorem srt_pw (ss : List Str) : (srt ss).Pairwise fun a b => leS a b = true := List.pairwise_mergeSort leS_trans leS_total ss
theorem srt_uniq {ys zs : List Str} (hp : ys.Perm zs) (h1 : ys.Pairwise fun a b => leS a b = true) (h2 : zs.Pairwise fun a b => leS a b = true) : ys = zs :=
  hp.eq_of_pairwise (fun a b _ _ x y => leS_anti x y) h1 h2
theorem rising_pw : ∀ (p : Str) (l : List Str), PyProof.Rows.risingS p l = true → (p :: l).Pairwise fun a b => leS a b = true
  | p, [], _ => List.pairwise_singleton _ _
  | p, x :: r, h => by
    have h : (leS p x && PyProof.Rows.risingS x r) = true := h
    rw [Bool.and_eq_true] at h
    have ih := rising_pw x r h.2
    refine List.pairwise_cons.mpr ⟨fun y hy => ?_, ih⟩
    rcases List.mem_cons.mp hy with rfl | hy
    · exact h.1
    · exact leS_trans _ _ _ h.1 ((List.pairwise_cons.mp ih).1 y hy)
theorem sorted_pw : ∀ (l : List Str), PyProof.Rows.sortedS l = true → l.Pairwise fun a b => leS a b = true
  | [], _ => List.Pairwise.nil
  | x :: r, h => rising_pw x r h
theorem sort_strs {ss : List Str} {Q : D → Prop} (hl : ss.length < 64) (h : Q (.lst ((srt ss).map .str))) : biSorted [.lst (ss.map .str)] Q :=
  .inl ⟨ss, rfl, hl, fun ys hp hs => by rw [srt_uniq (hp.trans (srt_perm ss).symm) (sorted_pw ys hs) (srt_pw ss)]; exact h⟩
def srtI (ns : List Int) : List Int := ns.mergeSort fun a b => decide (a ≤ b)
theorem srtI_perm (ns : List Int) : (srtI ns).Perm ns := List.mergeSort_perm _ _
theorem srtI_pw (ns : List Int) : (srtI ns).Pairwise (· ≤ ·) := (List.pairwise_mergeSort (le := fun a b => decide (a ≤ b)) (fun a b c h1 h2 => by simp at *; omega) (fun a b => by simp; omega) ns).imp fun h => of_decide_eq_true h
theorem sort_ints {ns : List Int} {Q : D → Prop} (h : Q (.lst ((srtI ns).map .int))) : biSorted [.lst (ns.map .int)] Q :=
  .inr ⟨ns, rfl, fun ms hp hs => by rw [(hp.trans (srtI_perm ns).symm).eq_of_pairwise (fun a b _ _ x y => Int.le_antisymm x y) hs (srtI_pw ns)]; exact h⟩
/-- strictly ascending -/
def Asc (ss : List Str) : Prop := ss.Nodup ∧ ss.Pairwise fun a b => leS a b = true
theorem Asc.eq {ys zs : List Str} (h1 : Asc ys) (h2 : Asc zs) (h : ∀ x, x ∈ ys ↔ x ∈ zs) : ys = zs := srt_uniq ((List.perm_ext_iff_of_nodup h1.1 h2.1).mpr h) h1.2 h2.2
theorem Asc.srt {ss : List Str} (h : ss.Nodup) : Asc (srt ss) := ⟨(srt_perm ss).nodup_iff.mpr h, srt_pw ss⟩
theorem Asc.same {ss : List Str} (h : Asc ss) : Lp.srt ss = ss := (Asc.srt h.1).eq h fun x => (srt_perm ss).mem_iff
theorem mem_srt {ss : List Str} {x : Str} : x ∈ srt ss ↔ x ∈ ss := (srt_perm ss).mem_iff
/-! ## dicts as sets -/
def setD (ks : List Str) : List (Key × D) := ks.map fun k => (.inr k, .bl true)
def addS (ks : List Str) (s : Str) : List Str := if s ∈ ks then ks else ks ++ [s]
def dd (ss : List Str) : List Str := ss.foldl addS []
theorem dput_set (ks : List Str) (s : Str) : dput (setD ks) (.inr s) (.bl true) = setD (addS ks s) := by
  have e : ((setD ks).any fun kv => decide (kv.1 = (.inr s : Key))) = decide (s ∈ ks) := by
    unfold setD
    rw [List.any_map]
    induction ks with
    | nil => rfl
    | cons k r ih =>
      rw [List.any_cons, ih]
      by_cases h : s = k
      · subst h; simp
      · have : ¬ k = s := fun z => h z.symm
        simp [h, this]
  unfold dput addS
  rw [e]
  by_cases h : s ∈ ks
  · rw [if_pos (decide_eq_true h), if_pos h]
    unfold setD
    rw [List.map_map]
    apply List.map_congr_left
    intro k _
    show (if (Sum.inr k : Key) = Sum.inr s then _ else _) = _
    split <;> rfl
  · rw [if_neg (by rw [decide_eq_false h]; exact Bool.false_ne_true), if_neg h]
    unfold setD
    rw [List.map_append]; rfl
theorem addS_nodup {ks : List Str} {s : Str} (h : ks.Nodup) : (addS ks s).Nodup := by
  unfold addS
  split
  · exact h
  · rename_i hn
    exact List.nodup_append.mpr ⟨h, List.pairwise_singleton _ _, fun a ha b hb e => hn (by rw [List.mem_singleton] at hb; rw [← hb, ← e]; exact ha)⟩
theorem mem_addS {ks : List Str} {s x : Str} : x ∈ addS ks s ↔ x ∈ ks ∨ x = s := by
  unfold addS
  split
  · rename_i h
    exact ⟨.inl, fun q => q.elim id fun e => e ▸ h⟩
  · rw [List.mem_append, List.mem_singleton]
theorem addS_len {ks : List Str} {s : Str} : ks.length ≤ (addS ks s).length := by
  unfold addS
  split
  · exact Nat.le_refl _
  · rw [List.length_append]; omega
theorem dd_snoc (ss : List Str) (s : Str) : dd (ss ++ [s]) = addS (dd ss) s := by unfold dd; rw [List.foldl_append]; rfl
theorem foldl_addS_nodup : ∀ (ss ks : List Str), ks.Nodup → (ss.foldl addS ks).Nodup
  | [], _, h => h
  | s :: ss, ks, h => foldl_addS_nodup ss _ (addS_nodup h)
theorem foldl_addS_mem : ∀ (ss ks : List Str) (x : Str), x ∈ ss.foldl addS ks ↔ x ∈ ks ∨ x ∈ ss
  | [], ks, x => by simp
  | s :: ss, ks, x => by
    rw [List.foldl_cons, foldl_addS_mem ss, mem_addS, List.mem_cons, or_assoc]
theorem foldl_addS_len : ∀ (ss ks : List Str), ks.length ≤ (ss.foldl addS ks).length
  | [], _ => Nat.le_refl _
  | s :: ss, ks => Nat.le_trans addS_len (foldl_addS_len ss _)
theorem dd_nodup (ss : List Str) : (dd ss).Nodup := foldl_addS_nodup ss [] List.nodup_nil
theorem mem_dd {ss : List Str} {x : Str} : x ∈ dd ss ↔ x ∈ ss := by
  unfold dd; rw [foldl_addS_mem]; simp
theorem dd_len_le : ∀ (ss : List Str), (dd ss).length ≤ ss.length := fun ss => by
  have : ∀ (ss ks : List Str), (ss.foldl addS ks).length ≤ ks.length + ss.length := by
    intro ss
    induction ss with
    | nil => intro ks; exact Nat.le_refl _
    | cons s r ih =>
      intro ks
      have h1 := ih (addS ks s)
      have h2 : (addS ks s).length ≤ ks.length + 1 := by
        unfold addS; split
        · omega
        · rw [List.length_append]; exact Nat.le_refl _
      rw [List.foldl_cons, List.length_cons]; omega
  have := this ss []
  unfold dd; rw [List.length_nil] at this; omega
theorem dd_pre {pre post : List Str} : (dd pre).length ≤ (dd (pre ++ post)).length := by
  unfold dd; rw [List.foldl_append]; exact foldl_addS_len _ _
/-- the different ones, ascending -/
def uniq (ss : List Str) : List Str := srt (dd ss)
theorem uniq_asc (ss : List Str) : Asc (uniq ss) := Asc.srt (dd_nodup ss)
theorem mem_uniq {ss : List Str} {x : Str} : x ∈ uniq ss ↔ x ∈ ss := by unfold uniq; rw [mem_srt, mem_dd]
theorem uniq_eq {ss ts : List Str} (h : ∀ x, x ∈ ss ↔ x ∈ ts) : uniq ss = uniq ts := (uniq_asc ss).eq (uniq_asc ts) fun x => by rw [mem_uniq, mem_uniq, h]
theorem uniq_self {ss : List Str} (h : Asc ss) : uniq ss = ss := (uniq_asc ss).eq h fun x => mem_uniq
theorem setD_keys (ks : List Str) : (setD ks).map (fun kv => ofKey kv.1) = ks.map D.str := by unfold setD; rw [List.map_map]; rfl
theorem setD_len (ks : List Str) : (setD ks).length = ks.length := List.length_map _
/-! ## join -/
theorem sjoin_nil : ∀ (ts : List Str), Str.join ⟨#[]⟩ ts = sm (ts.map ls).flatten
  | [] => rfl
  | [x] => str_ext (by show ls x = ls x ++ []; rw [List.append_nil])
  | x :: y :: r => by
    show x ++ ⟨#[]⟩ ++ Str.join ⟨#[]⟩ (y :: r) = _
    rw [sjoin_nil (y :: r)]
    refine str_ext ?_
    rw [ls_app, ls_app]
    show ls x ++ [] ++ _ = _
    rw [List.append_nil]
    rfl
theorem join_nil (ts : List Str) : Txt.join ⟨#[]⟩ ts = sm (ts.map ls).flatten := by
  rw [← sjoin_nil]
  exact StrLaws.glued_eq_join _ _
end Lp
namespace Lp
open PySem L2
theorem if_bl {b : Bool} {A B : Prop} (h1 : b = true → A) (h2 : b = false → B) : (match D.bl b with | .bl true => A | .bl false => B | _ => False) := by
  cases b with
  | true => exact h1 rfl
  | false => exact h2 rfl
theorem if_t {b : Bool} {A B : Prop} (e : b = true) (h1 : A) : (match D.bl b with | .bl true => A | .bl false => B | _ => False) := if_bl (fun _ => h1) fun z => by rw [e] at z; cases z
theorem if_f {b : Bool} {A B : Prop} (e : b = false) (h1 : B) : (match D.bl b with | .bl true => A | .bl false => B | _ => False) := if_bl (fun z => by rw [e] at z; cases z) fun _ => h1
theorem env0_eq {N : List Str} {ds : List D} : env0 N ds = ds.map (fun d => some (false, d)) ++ List.replicate (N.length - ds.length) none := rfl
/-- the usual contract: arguments, precondition, results, exceptions -/
def ct {α : Type} (args : α → List D) (pre : α → Prop) (post : α → D → Prop) (exc : α → Exn → Prop) : Ct where
  run ds Q X := ∃ a, ds = args a ∧ pre a ∧ (∀ d, post a d → Q d) ∧ ∀ x, exc a x → X x
  mono := fun ⟨a, h1, h2, h3, h4⟩ k l => ⟨a, h1, h2, fun d h => k d (h3 d h), fun x h => l x (h4 x h)⟩
/-- what an argument list must be for a call to go on -/
theorem ct_run {α : Type} {args : α → List D} {pre : α → Prop} {post : α → D → Prop} {exc : α → Exn → Prop} {ds : List D} {Q : D → Prop} {X : Exn → Prop} (a : α) (h1 : ds = args a) (h2 : pre a) (h3 : ∀ d, post a d → Q d) (h4 : ∀ x, exc a x → X x) : (ct args pre post exc).run ds Q X := ⟨a, h1, h2, h3, h4⟩
/-- .. with one result and no exception -/
def ctF {α : Type} (args : α → List D) (pre : α → Prop) (f : α → D) : Ct where
  run ds Q _ := ∃ a, ds = args a ∧ pre a ∧ Q (f a)
  mono := fun ⟨a, h1, h2, h3⟩ k _ => ⟨a, h1, h2, k _ h3⟩
theorem ctF_run {α : Type} {args : α → List D} {pre : α → Prop} {f : α → D} {ds : List D} {Q : D → Prop} {X : Exn → Prop} (a : α) (h1 : ds = args a) (h2 : pre a) (h3 : Q (f a)) : (ctF args pre f).run ds Q X := ⟨a, h1, h2, h3⟩
theorem if_p {p : Prop} [Decidable p] {A B : Prop} (h1 : p → A) (h2 : ¬ p → B) : (match D.bl (decide p) with | .bl true => A | .bl false => B | _ => False) := if_bl (fun e => h1 (of_decide_eq_true e)) fun e => h2 (of_decide_eq_false e)
theorem if_np {p : Prop} [Decidable p] {A B : Prop} (h1 : ¬ p → A) (h2 : p → B) : (match D.bl (!decide p) with | .bl true => A | .bl false => B | _ => False) := if_bl (fun e => h1 (of_decide_eq_false (by simpa using e))) fun e => h2 (of_decide_eq_true (by simpa using e))
/-! ## readings, one case each -/
section
variable {Q : D → Prop} {B : Bool → Prop} {L : List D → Prop}
theorem q_ix1 {xs : List D} {i : Int} : opIx (.lst xs) (.int i) Q = ∃ d, atI xs i = some d ∧ Q d := rfl
theorem q_ix2 {xs : List D} {i : Int} : opIx (.tup xs) (.int i) Q = ∃ d, atI xs i = some d ∧ Q d := rfl
theorem q_ix3 {ns : List Int} {i : Int} : opIx (.scr ns) (.int i) Q = ∃ n, atI ns i = some n ∧ Q (.int n) := rfl
theorem q_ix4 {s : Str} {i : Int} : opIx (.str s) (.int i) Q = ∃ c, s.length ≤ sizeLine ∧ atI s.cps.toList i = some c ∧ Q (.str ⟨#[c]⟩) := rfl
theorem q_lt {i j : Int} : opCmp .lt (.int i) (.int j) B = B (decide (i < j)) := rfl
theorem q_le {i j : Int} : opCmp .le (.int i) (.int j) B = B (decide (i ≤ j)) := rfl
theorem q_gt {i j : Int} : opCmp .gt (.int i) (.int j) B = B (decide (j < i)) := rfl
theorem q_ge {i j : Int} : opCmp .ge (.int i) (.int j) B = B (decide (j ≤ i)) := rfl
theorem q_slt {i j : Str} : opCmp .lt (.str i) (.str j) B = B (decide (ls i < ls j)) := rfl
theorem q_sle {i j : Str} : opCmp .le (.str i) (.str j) B = B (!decide (ls j < ls i)) := rfl
theorem q_sgt {i j : Str} : opCmp .gt (.str i) (.str j) B = B (decide (ls j < ls i)) := rfl
theorem q_sge {i j : Str} : opCmp .ge (.str i) (.str j) B = B (!decide (ls i < ls j)) := rfl
theorem q_in1 {c : Nat} {j : Str} : opCmp .isin (.str ⟨#[c]⟩) (.str j) B = B (decide (c ∈ ls j)) := by rw [← has_one]; rfl
theorem q_ni1 {c : Nat} {j : Str} : opCmp .notin (.str ⟨#[c]⟩) (.str j) B = B (!decide (c ∈ ls j)) := by rw [← has_one]; rfl
theorem q_in2 {s : Str} {ss : List Str} : opCmp .isin (.str s) (.lst (ss.map .str)) B = B (decide (s ∈ ss)) := by
  show ((_ ∧ (ss.map D.str).all flatD = true) ∧ B (inD _ _)) = _
  rw [inD_str, flat_strs]; simp [flatD]
theorem q_ni2 {s : Str} {ss : List Str} : opCmp .notin (.str s) (.lst (ss.map .str)) B = B (!decide (s ∈ ss)) := by
  show ((_ ∧ (ss.map D.str).all flatD = true) ∧ B (!inD _ _)) = _
  rw [inD_str, flat_strs]; simp [flatD]
theorem q_in3 {s : Str} {ss : List Str} : opCmp .isin (.str s) (.tup (ss.map .str)) B = B (decide (s ∈ ss)) := by
  show ((_ ∧ (ss.map D.str).all flatD = true) ∧ B (inD _ _)) = _
  rw [inD_str, flat_strs]; simp [flatD]
theorem q_ni3 {s : Str} {ss : List Str} : opCmp .notin (.str s) (.tup (ss.map .str)) B = B (!decide (s ∈ ss)) := by
  show ((_ ∧ (ss.map D.str).all flatD = true) ∧ B (!inD _ _)) = _
  rw [inD_str, flat_strs]; simp [flatD]
theorem q_in4 {s : Int} {ss : List Int} : opCmp .isin (.int s) (.lst (ss.map .int)) B = B (decide (s ∈ ss)) := by
  show ((_ ∧ (ss.map D.int).all flatD = true) ∧ B (inD _ _)) = _
  rw [inD_int, flat_ints]; simp [flatD]
theorem q_ni4 {s : Int} {ss : List Int} : opCmp .notin (.int s) (.lst (ss.map .int)) B = B (!decide (s ∈ ss)) := by
  show ((_ ∧ (ss.map D.int).all flatD = true) ∧ B (!inD _ _)) = _
  rw [inD_int, flat_ints]; simp [flatD]
theorem q_in5 {s : Int} {ss : List Int} : opCmp .isin (.int s) (.tup (ss.map .int)) B = B (decide (s ∈ ss)) := by
  show ((_ ∧ (ss.map D.int).all flatD = true) ∧ B (inD _ _)) = _
  rw [inD_int, flat_ints]; simp [flatD]
theorem q_ni5 {s : Int} {ss : List Int} : opCmp .notin (.int s) (.tup (ss.map .int)) B = B (!decide (s ∈ ss)) := by
  show ((_ ∧ (ss.map D.int).all flatD = true) ∧ B (!inD _ _)) = _
  rw [inD_int, flat_ints]; simp [flatD]
theorem q_eqi {i j : Int} : opCmp .eq (.int i) (.int j) B = B (decide (i = j)) := by
  show (eqOk _ _ ∧ B (i == j)) = _
  have h : eqOk (.int i) (.int j) := ⟨rfl, rfl, fine_shaped (n := 0) fine_int (Nat.zero_le _), fine_shaped (n := 0) fine_int (Nat.zero_le _)⟩
  rw [show (i == j) = decide (i = j) from rfl]
  exact propext ⟨fun q => q.2, fun q => ⟨h, q⟩⟩
theorem q_nei {i j : Int} : opCmp .ne (.int i) (.int j) B = B (!decide (i = j)) := by
  show (eqOk _ _ ∧ B (!(i == j))) = _
  have h : eqOk (.int i) (.int j) := ⟨rfl, rfl, fine_shaped (n := 0) fine_int (Nat.zero_le _), fine_shaped (n := 0) fine_int (Nat.zero_le _)⟩
  rw [show (i == j) = decide (i = j) from rfl]
  exact propext ⟨fun q => q.2, fun q => ⟨h, q⟩⟩
theorem q_addi {i j : Int} : opBin .add (.int i) (.int j) Q = Q (.int (i + j)) := rfl
theorem q_adds {s t : Str} : opBin .add (.str s) (.str t) Q = (s.length + t.length ≤ sizeLine ∧ Q (.str (s ++ t))) := rfl
theorem q_addl {s t : List D} : opBin .add (.lst s) (.lst t) Q = (s.length + t.length ≤ sizeLine ∧ Q (.lst (s ++ t))) := rfl
theorem q_addt {s t : List D} : opBin .add (.tup s) (.tup t) Q = (s.length + t.length ≤ sizeLine ∧ Q (.tup (s ++ t))) := rfl
theorem q_subi {i j : Int} : opBin .sub (.int i) (.int j) Q = Q (.int (i - j)) := rfl
theorem q_muli {i j : Int} : opBin .mul (.int i) (.int j) Q = ((i.natAbs.log2 + j.natAbs.log2 < 1000000) ∧ Q (.int (i * j))) := rfl
theorem q_muls {s : Str} {k : Int} : opBin .mul (.str s) (.int k) Q = ((0 ≤ k ∧ k ≤ 1000 ∧ s.length * k.toNat ≤ 1000) ∧ Q (.str ⟨(List.replicate k.toNat s.cps.toList).flatten.toArray⟩)) := rfl
theorem q_mull {xs : List D} {k : Int} : opBin .mul (.lst xs) (.int k) Q = ((-(2 ^ 63) ≤ k ∧ k < 2 ^ 63 ∧ xs.length * k.toNat ≤ sizeLine) ∧ Q (.lst (List.replicate k.toNat xs).flatten)) := rfl
theorem q_fdiv {i j : Int} : opBin .fdiv (.int i) (.int j) Q = ((0 < j ∧ j.natAbs.log2 < 9000) ∧ Q (.int (i / j))) := rfl
theorem q_mod {i j : Int} : opBin .mod (.int i) (.int j) Q = (0 < j ∧ Q (.int (i % j))) := rfl
theorem q_pow {i j : Int} : opBin .pow (.int i) (.int j) Q = ((0 ≤ j ∧ j ≤ 1000000 ∧ i.natAbs < 2 ^ 64) ∧ Q (.int (i ^ j.toNat))) := rfl
theorem q_len1 {xs : List D} : opBi .len [.lst xs] Q = Q (.int xs.length) := rfl
theorem q_len2 {xs : List D} : opBi .len [.tup xs] Q = Q (.int xs.length) := rfl
theorem q_len3 {ns : List Int} : opBi .len [.scr ns] Q = Q (.int ns.length) := rfl
theorem q_len4 {s : Str} : opBi .len [.str s] Q = (s.length ≤ sizeLine ∧ Q (.int s.length)) := rfl
theorem q_len5 {kvs : List (Key × D)} : opBi .len [.dct kvs] Q = Q (.int kvs.length) := rfl
theorem q_int1 {i : Int} : opBi .int [.int i] Q = Q (.int i) := rfl
theorem q_int2 {b : Bool} : opBi .int [.bl b] Q = Q (.int (if b then 1 else 0)) := rfl
theorem q_abs {i : Int} : opBi .abs [.int i] Q = Q (.int (if i < 0 then -i else i)) := rfl
theorem q_min {i j : Int} : opBi .min [.int i, .int j] Q = Q (.int (if j < i then j else i)) := rfl
theorem q_max {i j : Int} : opBi .max [.int i, .int j] Q = Q (.int (if j > i then j else i)) := rfl
theorem q_list1 {xs : List D} : opBi .list [.lst xs] Q = Q (.lst xs) := rfl
theorem q_list2 {xs : List D} : opBi .list [.tup xs] Q = Q (.lst xs) := rfl
theorem q_list3 {kvs : List (Key × D)} : opBi .list [.dct kvs] Q = Q (.lst (kvs.map fun kv => ofKey kv.1)) := rfl
theorem q_tuple1 {xs : List D} : opBi .tuple [.lst xs] Q = Q (.tup xs) := rfl
theorem q_tuple2 {xs : List D} : opBi .tuple [.tup xs] Q = Q (.tup xs) := rfl
theorem q_sorted {ds : List D} : opBi .sorted ds Q = biSorted ds Q := rfl
theorem q_sum {ds : List D} : opBi .sum ds Q = biSum ds Q := rfl
theorem q_it1 {xs : List D} : opIter (.lst xs) L = L xs := rfl
theorem q_it2 {xs : List D} : opIter (.tup xs) L = L xs := rfl
theorem q_it3 {ns : List Int} : opIter (.scr ns) L = L (ns.map .int) := rfl
theorem q_it4 {s : Str} : opIter (.str s) L = L ((ls s).map fun c => .str ⟨#[c]⟩) := rfl
theorem q_sl1 {xs : List D} {lo hi : Option Int} : opSl (.lst xs) lo hi Q = Q (.lst (cutD xs lo hi)) := rfl
theorem q_sl2 {xs : List D} {lo hi : Option Int} : opSl (.tup xs) lo hi Q = Q (.tup (cutD xs lo hi)) := rfl
theorem q_sl3 {s : Str} {lo hi : Option Int} : opSl (.str s) lo hi Q = (s.length ≤ sizeLine ∧ Q (.str (cutS s lo hi))) := rfl
theorem q_k1 {i : Int} : toKey (.int i) = some (.inl i) := rfl
theorem q_k2 {s : Str} : toKey (.str s) = some (.inr s) := rfl
end
theorem wpFor_range {step : D → Env → (Env → Prop) → Prop} {nx : Env → Prop} {n : Nat} {env : Env} (I : Nat → Env → Prop) (h0 : I 0 env)
    (hs : ∀ i, i < n → ∀ env K, I i env → (∀ env', I (i + 1) env' → K env') → step (.int (i : Nat)) env K) (he : ∀ env, I n env → nx env) : wpFor step nx ((List.range n).map fun i => .int (i : Nat)) env := by
  refine wpFor_inv I h0 (fun i x env K hx hi hk => ?_) fun env h => he env (by rwa [List.length_map, List.length_range] at h)
  rw [List.getElem?_map] at hx
  cases e : (List.range n)[i]? with
  | none => rw [e] at hx; cases hx
  | some j =>
    rw [e] at hx
    cases hx
    have hl : i < n := by
      have := (List.getElem?_eq_some_iff.mp e).1
      rwa [List.length_range] at this
    rw [List.getElem?_range hl] at e
    cases e
    exact hs i hl env K hi hk
theorem lt_one {c d : Nat} : ls ⟨#[c]⟩ < ls ⟨#[d]⟩ ↔ c < d := by
  have h := (PyProof.Rows.ltCps_eq [c] [d])
  have e : PySem.Spec.ltCps [c] [d] = decide (c < d) := by
    show (decide (c < d) || (c == d && false)) = _
    rw [Bool.and_false, Bool.or_false]
  rw [e] at h
  exact (decide_eq_decide.mp h).symm
theorem putFD_lt {n : Nat} {k : Str} {d : D} : ∀ {fs : List (Str × D)}, fs.length < n → (putFD k d fs).length < n + 1
  | [], h => Nat.succ_lt_succ h
  | p :: r, h => by
    unfold putFD
    split
    · exact Nat.lt_succ_of_lt h
    · have h : r.length + 1 < n := h
      have := putFD_lt (n := n - 1) (k := k) (d := d) (fs := r) (by omega)
      show (putFD k d r).length + 1 < n + 1
      omega
theorem eq_strs {s t : Str} {B : Bool → Prop} (hs : ∀ c ∈ ls s, c < 1114112) (ht : ∀ c ∈ ls t, c < 1114112) (h : B (decide (s = t))) : opCmp .eq (.str s) (.str t) B :=
  op_eq (n := 0) (m := 0) (fine_str hs) (fine_str ht) (Nat.zero_le _) (Nat.zero_le _) fun b hb => by
    have e : b = decide (s = t) := by
      rw [D.str.injEq] at hb
      cases b with
      | true => exact (decide_eq_true (hb.mp rfl)).symm
      | false => exact (decide_eq_false fun z => Bool.false_ne_true (hb.mpr z)).symm
    rw [e]; exact h
theorem ne_strs {s t : Str} {B : Bool → Prop} (hs : ∀ c ∈ ls s, c < 1114112) (ht : ∀ c ∈ ls t, c < 1114112) (h : B (!decide (s = t))) : opCmp .ne (.str s) (.str t) B :=
  op_ne (n := 0) (m := 0) (fine_str hs) (fine_str ht) (Nat.zero_le _) (Nat.zero_le _) fun b hb => by
    have e : b = !decide (s = t) := by
      rw [ne_eq, D.str.injEq] at hb
      cases b with
      | true => rw [decide_eq_false (hb.mp rfl)]; rfl
      | false => rw [decide_eq_true (Classical.byContradiction fun z => Bool.false_ne_true (hb.mpr z))]; rfl
    rw [e]; exact h
/-- other data by values -/
theorem eq_fine {n : Nat} {x y : D} {B : Bool → Prop} (hx : fineD n x = true) (hy : fineD n y = true) (hn : n ≤ 64) (h : ∀ b : Bool, (b = true ↔ x = y) → B b) : opCmp .eq x y B := op_eq hx hy hn hn h
theorem ne_fine {n : Nat} {x y : D} {B : Bool → Prop} (hx : fineD n x = true) (hy : fineD n y = true) (hn : n ≤ 64) (h : ∀ b : Bool, (b = true ↔ x ≠ y) → B b) : opCmp .ne x y B := op_ne hx hy hn hn h
/-! ## dicts by a list of keys -/
def fD (ks : List Str) (f : Str → D) : List (Key × D) := ks.map fun k => (.inr k, f k)
theorem fD_any (ks : List Str) (f : Str → D) (s : Str) : ((fD ks f).any fun kv => decide (kv.1 = (.inr s : Key))) = decide (s ∈ ks) := by
  unfold fD
  rw [List.any_map]
  induction ks with
  | nil => rfl
  | cons k r ih =>
    rw [List.any_cons, ih]
    by_cases h : s = k
    · subst h; simp
    · have : ¬ k = s := fun z => h z.symm
      simp [h, this]
theorem dput_f (ks : List Str) (f : Str → D) (s : Str) (d : D) : dput (fD ks f) (.inr s) d = fD (addS ks s) (fun k => if k = s then d else f k) := by
  unfold dput addS
  rw [fD_any]
  by_cases h : s ∈ ks
  · rw [if_pos (decide_eq_true h), if_pos h]
    unfold fD
    rw [List.map_map]
    apply List.map_congr_left
    intro k _
    show (if (Sum.inr k : Key) = Sum.inr s then ((Sum.inr k : Key), d) else (Sum.inr k, f k)) = ((Sum.inr k : Key), if k = s then d else f k)
    by_cases e : k = s
    · rw [if_pos (by rw [e]), if_pos e]
    · rw [if_neg (fun z => e (Sum.inr.inj z)), if_neg e]
  · rw [if_neg (by rw [decide_eq_false h]; exact Bool.false_ne_true), if_neg h]
    unfold fD
    rw [List.map_append, List.map_cons, List.map_nil]
    show _ = _ ++ [((Sum.inr s : Key), if s = s then d else f s)]
    rw [if_pos rfl]
    congr 1
    apply List.map_congr_left
    intro k hk
    show _ = ((Sum.inr k : Key), if k = s then d else f k)
    rw [if_neg fun z : k = s => h (z ▸ hk)]
theorem dlook_f (ks : List Str) (f : Str → D) (s : Str) : dlook (fD ks f) (.inr s) = if s ∈ ks then some (f s) else none := by
  unfold dlook fD
  induction ks with
  | nil => rfl
  | cons k r ih =>
    rw [List.map_cons, List.find?_cons]
    by_cases h : k = s
    · subst h
      rw [show decide ((Sum.inr k : Key) = Sum.inr k) = true from decide_eq_true rfl, if_pos List.mem_cons_self]; rfl
    · rw [show decide ((Sum.inr k : Key) = Sum.inr s) = false from decide_eq_false fun z => h (Sum.inr.inj z)]
      show Option.map _ (List.find? _ _) = _
      rw [ih]
      by_cases q : s ∈ r
      · rw [if_pos q, if_pos (List.mem_cons_of_mem _ q)]
      · rw [if_neg q, if_neg fun z => (List.mem_cons.mp z).elim (fun e => h e.symm) q]
theorem fD_keys (ks : List Str) (f : Str → D) : (fD ks f).map (fun kv => ofKey kv.1) = ks.map D.str := by unfold fD; rw [List.map_map]; rfl
theorem fD_len (ks : List Str) (f : Str → D) : (fD ks f).length = ks.length := List.length_map _
theorem uniq_len {ss : List Str} : (uniq ss).length = (dd ss).length := (srt_perm _).length_eq
theorem szl : sizeLine = 16777216 := sizeLine_eq
end Lp
namespace K9
open PySem L2 PyProof.Rows Lp
def top (i : Nat) : Stmt := PySem.Challenge.pw_oneleftout_k09_rows_seen.main.body.getD i (.Pass ⟨0, 0, 0, 0⟩)
/-! is_answers: 0 answers, 1 index -/
abbrev s_is_answers : Stmt := top 17
abbrev N_is_answers : List Str := ["answers", "index"]
theorem sc_is_answers : FnScope N_is_answers ["answers"] (defScope s_is_answers) := ⟨rfl, rfl, rfl, by decide +kernel, rfl, by decide +kernel, by decide +kernel⟩
def b_is_answers : Ss := (.cons (.if_ (.or_ (.cmp .lt (.bi .len (.cons (.var 0) .nil)) (.int 2)) (.cmp .gt (.bi .len (.cons (.var 0) .nil)) (.int 4))) (.cons (.ret (.bl false)) .nil) .nil) (.cons (.for_ (.nm 1) (.rng (.bi .len (.cons (.var 0) .nil))) (.cons (.if_ (.or_ (.cmp .lt (.ix (.var 0) (.var 1)) (.str "a")) (.cmp .gt (.ix (.var 0) (.var 1)) (.str "z"))) (.cons (.ret (.bl false)) .nil) .nil) (.cons (.if_ (.and_ (.cmp .gt (.var 1) (.int 0)) (.cmp .ge (.ix (.var 0) (.bin .sub (.var 1) (.int 1))) (.ix (.var 0) (.var 1)))) (.cons (.ret (.bl false)) .nil) .nil) .nil))) (.cons (.ret (.bl true)) .nil)))
theorem k_is_answers : chkSs N_is_answers b_is_answers (defScope s_is_answers).names (defBody s_is_answers) = true := by decide +kernel
/-! is_row: 0 answers, 1 length, 2 row, 3 answer -/
abbrev s_is_row : Stmt := top 18
abbrev N_is_row : List Str := ["answers", "length", "row", "answer"]
theorem sc_is_row : FnScope N_is_row ["answers", "length", "row"] (defScope s_is_row) := ⟨rfl, rfl, rfl, by decide +kernel, rfl, by decide +kernel, by decide +kernel⟩
def b_is_row : Ss := (.cons (.if_ (.cmp .ne (.bi .len (.cons (.var 2) .nil)) (.var 1)) (.cons (.ret (.bl false)) .nil) .nil) (.cons (.for_ (.nm 3) (.seq (.var 2)) (.cons (.if_ (.cmp .notin (.var 3) (.var 0)) (.cons (.ret (.bl false)) .nil) .nil) .nil)) (.cons (.ret (.bl true)) .nil)))
theorem k_is_row : chkSs N_is_row b_is_row (defScope s_is_row).names (defBody s_is_row) = true := by decide +kernel
/-! different: 0 strings, 1 known, 2 string -/
abbrev s_different : Stmt := top 19
abbrev N_different : List Str := ["strings", "known", "string"]
theorem sc_different : FnScope N_different ["strings"] (defScope s_different) := ⟨rfl, rfl, rfl, by decide +kernel, rfl, by decide +kernel, by decide +kernel⟩
def b_different : Ss := (.cons (.setO 1 .dnew) (.cons (.for_ (.nm 2) (.seq (.var 0)) (.cons (.stx 1 (.var 2) (.bl true)) .nil)) (.cons (.ret (.bi .tuple (.cons (.bi .sorted (.cons (.bi .list (.cons (.bv 1) .nil)) .nil)) .nil))) .nil)))
theorem k_different : chkSs N_different b_different (defScope s_different).names (defBody s_different) = true := by decide +kernel
/-! RuleClass.__init__: 0 self, 1 answers, 2 width, 3 rules, 4 index, 5 told -/
abbrev s_RuleClass___init__ : Stmt := inClass (top 20) 0
abbrev N_RuleClass___init__ : List Str := ["self", "answers", "width", "rules", "index", "told"]
theorem sc_RuleClass___init__ : FnScope N_RuleClass___init__ ["self", "answers", "width", "rules"] (defScope s_RuleClass___init__) := ⟨rfl, rfl, rfl, by decide +kernel, rfl, by decide +kernel, by decide +kernel⟩
def b_RuleClass___init__ : Ss := (.cons (.if_ (.not_ (.call "is_answers" (.cons (.var 1) .nil))) (.cons (.raise "BadAnswers" (.cons (.var 1) .nil)) .nil) .nil) (.cons (.if_ (.or_ (.cmp .lt (.var 2) (.int 1)) (.cmp .gt (.var 2) (.glb "MOST_WIDTH"))) (.cons (.raise "BadWidth" (.cons (.var 2) .nil)) .nil) .nil) (.cons (.if_ (.cmp .eq (.bi .len (.cons (.var 3) .nil)) (.int 0)) (.cons .dead .nil) .nil) (.cons (.for_ (.nm 4) (.rng (.bi .len (.cons (.var 3) .nil))) (.cons (.if_ (.not_ (.call "is_row" (.cons (.var 1) (.cons (.var 2) (.cons (.ix (.var 3) (.var 4)) .nil))))) (.cons (.raise "BadRule" (.cons (.var 4) .nil)) .nil) .nil) .nil)) (.cons (.set 5 (.call "different" (.cons (.var 3) .nil))) (.cons (.if_ (.cmp .gt (.bi .len (.cons (.var 5) .nil)) (.glb "MOST_RULES")) (.cons .dead .nil) .nil) (.cons (.fset "answers" (.var 1)) (.cons (.fset "width" (.var 2)) (.cons (.fset "rules" (.var 5)) .nil)))))))))
theorem k_RuleClass___init__ : chkSs N_RuleClass___init__ b_RuleClass___init__ (defScope s_RuleClass___init__).names (defBody s_RuleClass___init__) = true := by decide +kernel
/-! is_bag: 0 width, 1 bag, 2 place -/
abbrev s_is_bag : Stmt := top 24
abbrev N_is_bag : List Str := ["width", "bag", "place"]
theorem sc_is_bag : FnScope N_is_bag ["width", "bag"] (defScope s_is_bag) := ⟨rfl, rfl, rfl, by decide +kernel, rfl, by decide +kernel, by decide +kernel⟩
def b_is_bag : Ss := (.cons (.if_ (.or_ (.cmp .lt (.bi .len (.cons (.var 1) .nil)) (.int 1)) (.cmp .gt (.bi .len (.cons (.var 1) .nil)) (.glb "MOST_PLACES"))) (.cons (.ret (.bl false)) .nil) .nil) (.cons (.for_ (.nm 2) (.rng (.bi .len (.cons (.var 1) .nil))) (.cons (.if_ (.or_ (.cmp .lt (.ix (.var 1) (.var 2)) (.int 0)) (.cmp .ge (.ix (.var 1) (.var 2)) (.var 0))) (.cons (.ret (.bl false)) .nil) .nil) (.cons (.if_ (.and_ (.cmp .gt (.var 2) (.int 0)) (.cmp .gt (.ix (.var 1) (.bin .sub (.var 2) (.int 1))) (.ix (.var 1) (.var 2)))) (.cons (.ret (.bl false)) .nil) .nil) .nil))) (.cons (.ret (.bl true)) .nil)))
theorem k_is_bag : chkSs N_is_bag b_is_bag (defScope s_is_bag).names (defBody s_is_bag) = true := by decide +kernel
/-! row_of: 0 rule, 1 bag, 2 question -/
abbrev s_row_of : Stmt := top 25
abbrev N_row_of : List Str := ["rule", "bag", "question"]
theorem sc_row_of : FnScope N_row_of ["rule", "bag"] (defScope s_row_of) := ⟨rfl, rfl, rfl, by decide +kernel, rfl, by decide +kernel, by decide +kernel⟩
def b_row_of : Ss := (.cons (.ret (.join (.str "") (.lc [2] (.nm 2) (.seq (.var 1)) (.bl true) (.ix (.var 0) (.var 2))))) .nil)
theorem k_row_of : chkSs N_row_of b_row_of (defScope s_row_of).names (defBody s_row_of) = true := by decide +kernel
/-! rows_seen: 0 klass, 1 bag, 2 rule -/
abbrev s_rows_seen : Stmt := top 26
abbrev N_rows_seen : List Str := ["klass", "bag", "rule"]
theorem sc_rows_seen : FnScope N_rows_seen ["klass", "bag"] (defScope s_rows_seen) := ⟨rfl, rfl, rfl, by decide +kernel, rfl, by decide +kernel, by decide +kernel⟩
def b_rows_seen : Ss := (.cons (.if_ (.not_ (.call "is_bag" (.cons (.fld (.var 0) "width") (.cons (.var 1) .nil)))) (.cons (.raise "BadBag" (.cons (.var 1) .nil)) .nil) .nil) (.cons (.ret (.call "different" (.cons (.lc [2] (.nm 2) (.seq (.fld (.var 0) "rules")) (.bl true) (.call "row_of" (.cons (.var 2) (.cons (.var 1) .nil)))) .nil))) .nil))
theorem k_rows_seen : chkSs N_rows_seen b_rows_seen (defScope s_rows_seen).names (defBody s_rows_seen) = true := by decide +kernel
/-! givers: 0 klass, 1 bag, 2 row, 3 rule -/
abbrev s_givers : Stmt := top 27
abbrev N_givers : List Str := ["klass", "bag", "row", "rule"]
theorem sc_givers : FnScope N_givers ["klass", "bag", "row"] (defScope s_givers) := ⟨rfl, rfl, rfl, by decide +kernel, rfl, by decide +kernel, by decide +kernel⟩
def b_givers : Ss := (.cons (.if_ (.not_ (.call "is_bag" (.cons (.fld (.var 0) "width") (.cons (.var 1) .nil)))) (.cons (.raise "BadBag" (.cons (.var 1) .nil)) .nil) .nil) (.cons (.ret (.bi .tuple (.cons (.lc [3] (.nm 3) (.seq (.fld (.var 0) "rules")) (.cmp .eq (.call "row_of" (.cons (.var 3) (.cons (.var 1) .nil))) (.var 2)) (.var 3)) .nil))) .nil))
theorem k_givers : chkSs N_givers b_givers (defScope s_givers).names (defBody s_givers) = true := by decide +kernel
/-! narrowed: 0 klass, 1 questions, 2 told, 3 rule, 4 question -/
abbrev s_narrowed : Stmt := top 29
abbrev N_narrowed : List Str := ["klass", "questions", "told", "rule", "question"]
theorem sc_narrowed : FnScope N_narrowed ["klass", "questions"] (defScope s_narrowed) := ⟨rfl, rfl, rfl, by decide +kernel, rfl, by decide +kernel, by decide +kernel⟩
def b_narrowed : Ss := (.cons (.set 2 (.bi .tuple (.cons (.lc [3] (.nm 3) (.seq (.fld (.var 0) "rules")) (.bl true) (.join (.str "") (.lc [4] (.nm 4) (.seq (.var 1)) (.bl true) (.ix (.var 3) (.var 4))))) .nil))) (.cons (.ret (.mk "RuleClass" (.cons (.fld (.var 0) "answers") (.cons (.bi .len (.cons (.var 1) .nil)) (.cons (.var 2) .nil))))) .nil))
theorem k_narrowed : chkSs N_narrowed b_narrowed (defScope s_narrowed).names (defBody s_narrowed) = true := by decide +kernel
/-! Web.__init__: 0 self, 1 answers, 2 rows, 3 places, 4 index, 5 told -/
abbrev s_Web___init__ : Stmt := inClass (top 32) 0
abbrev N_Web___init__ : List Str := ["self", "answers", "rows", "places", "index", "told"]
theorem sc_Web___init__ : FnScope N_Web___init__ ["self", "answers", "rows"] (defScope s_Web___init__) := ⟨rfl, rfl, rfl, by decide +kernel, rfl, by decide +kernel, by decide +kernel⟩
def b_Web___init__ : Ss := (.cons (.if_ (.not_ (.call "is_answers" (.cons (.var 1) .nil))) (.cons (.raise "BadAnswers" (.cons (.var 1) .nil)) .nil) .nil) (.cons (.if_ (.cmp .eq (.bi .len (.cons (.var 2) .nil)) (.int 0)) (.cons .dead .nil) .nil) (.cons (.set 3 (.bi .len (.cons (.ix (.var 2) (.int 0)) .nil))) (.cons (.for_ (.nm 4) (.rng (.bi .len (.cons (.var 2) .nil))) (.cons (.if_ (.or_ (.cmp .lt (.var 3) (.int 1)) (.or_ (.cmp .gt (.var 3) (.glb "MOST_PLACES")) (.not_ (.call "is_row" (.cons (.var 1) (.cons (.var 3) (.cons (.ix (.var 2) (.var 4)) .nil))))))) (.cons (.raise "BadRow" (.cons (.var 4) .nil)) .nil) .nil) .nil)) (.cons (.set 5 (.call "different" (.cons (.var 2) .nil))) (.cons (.if_ (.cmp .gt (.bi .len (.cons (.var 5) .nil)) (.glb "MOST_ROWS")) (.cons .dead .nil) .nil) (.cons (.fset "answers" (.var 1)) (.cons (.fset "places" (.var 3)) (.cons (.fset "rows" (.var 5)) (.cons (.fset "knots" (.call "knots_of" (.cons (.var 5) .nil))) .nil))))))))))
theorem k_Web___init__ : chkSs N_Web___init__ b_Web___init__ (defScope s_Web___init__).names (defBody s_Web___init__) = true := by decide +kernel
/-! knots_of: 0 rows, 1 knots, 2 place, 3 groups, 4 index, 5 rest -/
abbrev s_knots_of : Stmt := top 33
abbrev N_knots_of : List Str := ["rows", "knots", "place", "groups", "index", "rest"]
theorem sc_knots_of : FnScope N_knots_of ["rows"] (defScope s_knots_of) := ⟨rfl, rfl, rfl, by decide +kernel, rfl, by decide +kernel, by decide +kernel⟩
def b_knots_of : Ss := (.cons (.setO 1 (.lst .nil)) (.cons (.for_ (.nm 2) (.rng (.bi .len (.cons (.ix (.var 0) (.int 0)) .nil))) (.cons (.setO 3 .dnew) (.cons (.for_ (.nm 4) (.rng (.bi .len (.cons (.var 0) .nil))) (.cons (.set 5 (.bin .add (.slu (.ix (.var 0) (.var 4)) (.var 2)) (.sll (.ix (.var 0) (.var 4)) (.bin .add (.var 2) (.int 1))))) (.cons (.stx 3 (.var 5) (.bin .add (.dget (.bv 3) (.var 5) (.tup .nil)) (.tup (.cons (.var 4) .nil)))) .nil))) (.cons (.for_ (.nm 5) (.seq (.bi .sorted (.cons (.bi .list (.cons (.bv 3) .nil)) .nil))) (.cons (.app 1 (.tup (.cons (.var 2) (.cons (.var 5) (.cons (.dix (.bv 3) (.var 5)) .nil))))) .nil)) .nil)))) (.cons (.ret (.bi .tuple (.cons (.bv 1) .nil))) .nil)))
theorem k_knots_of : chkSs N_knots_of b_knots_of (defScope s_knots_of).names (defBody s_knots_of) = true := by decide +kernel
/-! web_of: 0 klass, 1 bag -/
abbrev s_web_of : Stmt := top 34
abbrev N_web_of : List Str := ["klass", "bag"]
theorem sc_web_of : FnScope N_web_of ["klass", "bag"] (defScope s_web_of) := ⟨rfl, rfl, rfl, by decide +kernel, rfl, by decide +kernel, by decide +kernel⟩
def b_web_of : Ss := (.cons (.ret (.mk "Web" (.cons (.fld (.var 0) "answers") (.cons (.call "rows_seen" (.cons (.var 0) (.cons (.var 1) .nil))) .nil)))) .nil)
theorem k_web_of : chkSs N_web_of b_web_of (defScope s_web_of).names (defBody s_web_of) = true := by decide +kernel
/-! _law_cell: 0 script, 1 k, 2 seed, 3 cell -/
abbrev s__law_cell : Stmt := top 36
abbrev N__law_cell : List Str := ["script", "k", "seed", "cell"]
theorem sc__law_cell : FnScope N__law_cell ["script", "k"] (defScope s__law_cell) := ⟨rfl, rfl, rfl, by decide +kernel, rfl, by decide +kernel, by decide +kernel⟩
def b__law_cell : Ss := (.cons (.if_ (.cmp .lt (.var 1) (.bi .len (.cons (.var 0) .nil))) (.cons (.ret (.bi .int (.cons (.ix (.var 0) (.var 1)) .nil))) .nil) .nil) (.cons (.set 2 (.int 17)) (.cons (.for_ (.nm 3) (.seq (.var 0)) (.cons (.set 2 (.bin .mod (.bi .int (.cons (.bin .add (.bin .mul (.var 2) (.int 31)) (.bin .mod (.bi .int (.cons (.var 3) .nil)) (.int 1000003))) .nil)) (.int 1000003))) .nil)) (.cons (.ret (.bin .mod (.bi .int (.cons (.bin .mul (.bin .mul (.bin .add (.var 2) (.int 7)) (.bin .add (.var 1) (.int 3))) (.int 69621)) .nil)) (.int 2147483647))) .nil))))
theorem k__law_cell : chkSs N__law_cell b__law_cell (defScope s__law_cell).names (defBody s__law_cell) = true := by decide +kernel
/-! _law_digits: 0 cell, 1 sizes, 2 row, 3 rest, 4 size, 5 seed, 6 k, 7 twice -/
abbrev s__law_digits : Stmt := top 37
abbrev N__law_digits : List Str := ["cell", "sizes", "row", "rest", "size", "seed", "k", "twice"]
theorem sc__law_digits : FnScope N__law_digits ["cell", "sizes"] (defScope s__law_digits) := ⟨rfl, rfl, rfl, by decide +kernel, rfl, by decide +kernel, by decide +kernel⟩
def b__law_digits : Ss := (.cons (.setO 2 (.lst .nil)) (.cons (.set 3 (.bi .int (.cons (.var 0) .nil))) (.cons (.if_ (.cmp .ge (.var 3) (.bin .pow (.int 10) (.int 18))) (.cons (.set 3 (.bin .sub (.var 3) (.bin .pow (.int 10) (.int 18)))) (.cons (.for_ (.nm 4) (.seq (.var 1)) (.cons (.app 2 (.bin .mod (.bi .int (.cons (.var 3) .nil)) (.var 4))) (.cons (.set 3 (.bin .fdiv (.bi .int (.cons (.var 3) .nil)) (.var 4))) .nil))) (.cons (.frz 2) (.cons (.ret (.var 2)) .nil)))) .nil) (.cons (.set 5 (.bin .mod (.bi .int (.cons (.var 3) .nil)) (.int 2147483629))) (.cons (.for_ (.nm 6) (.rng (.bi .len (.cons (.var 1) .nil))) (.cons (.set 5 (.bin .mod (.bi .int (.cons (.bin .add (.bin .add (.bin .mul (.var 5) (.int 48271)) (.bin .mul (.int 974711) (.var 6))) (.int 12345)) .nil)) (.int 2147483647))) (.cons (.set 7 (.bin .mod (.bi .int (.cons (.bin .mul (.var 5) (.bin .add (.bin .fdiv (.var 5) (.int 65537)) (.int 3))) .nil)) (.int 2147483629))) (.cons (.app 2 (.bin .mod (.bin .fdiv (.var 7) (.int 19)) (.ix (.var 1) (.var 6)))) .nil)))) (.cons (.frz 2) (.cons (.ret (.var 2)) .nil)))))))
theorem k__law_digits : chkSs N__law_digits b__law_digits (defScope s__law_digits).names (defBody s__law_digits) = true := by decide +kernel
/-! _law_all_rows: 0 answers, 1 places, 2 found, 3 k, 4 grown, 5 row, 6 letter -/
abbrev s__law_all_rows : Stmt := top 38
abbrev N__law_all_rows : List Str := ["answers", "places", "found", "k", "grown", "row", "letter"]
theorem sc__law_all_rows : FnScope N__law_all_rows ["answers", "places"] (defScope s__law_all_rows) := ⟨rfl, rfl, rfl, by decide +kernel, rfl, by decide +kernel, by decide +kernel⟩
def b__law_all_rows : Ss := (.cons (.set 2 (.lst (.cons (.str "") .nil))) (.cons (.for_ (.nm 3) (.rng (.var 1)) (.cons (.setO 4 (.lst .nil)) (.cons (.for_ (.nm 5) (.seq (.var 2)) (.cons (.for_ (.nm 6) (.seq (.var 0)) (.cons (.app 4 (.bin .add (.var 5) (.var 6))) .nil)) .nil)) (.cons (.set 2 (.bi .list (.cons (.bv 4) .nil))) .nil)))) (.cons (.ret (.var 2)) .nil)))
theorem k__law_all_rows : chkSs N__law_all_rows b__law_all_rows (defScope s__law_all_rows).names (defBody s__law_all_rows) = true := by decide +kernel
/-! _law_class: 0 script, 1 at, 2 shape, 3 answers, 4 width, 5 every, 6 draws, 7 taken, 8 k, 9 row -/
abbrev s__law_class : Stmt := top 39
abbrev N__law_class : List Str := ["script", "at", "shape", "answers", "width", "every", "draws", "taken", "k", "row"]
theorem sc__law_class : FnScope N__law_class ["script", "at"] (defScope s__law_class) := ⟨rfl, rfl, rfl, by decide +kernel, rfl, by decide +kernel, by decide +kernel⟩
def b__law_class : Ss := (.cons (.set 2 (.call "_law_digits" (.cons (.call "_law_cell" (.cons (.var 0) (.cons (.var 1) .nil))) (.cons (.lst (.cons (.int 5) (.cons (.int 6) (.cons (.int 6) (.cons (.int 8) .nil))))) .nil)))) (.cons (.set 3 (.ix (.lst (.cons (.str "ny") (.cons (.str "ab") (.cons (.str "abc") (.cons (.str "ny") (.cons (.str "xyz") .nil)))))) (.ix (.var 2) (.int 0)))) (.cons (.set 4 (.ix (.lst (.cons (.int 2) (.cons (.int 3) (.cons (.int 2) (.cons (.int 1) (.cons (.int 3) (.cons (.int 4) .nil))))))) (.ix (.var 2) (.int 1)))) (.cons (.set 5 (.call "_law_all_rows" (.cons (.var 3) (.cons (.var 4) .nil)))) (.cons (.set 6 (.call "_law_digits" (.cons (.call "_law_cell" (.cons (.var 0) (.cons (.bin .add (.var 1) (.int 1)) .nil))) (.cons (.bin .mul (.lst (.cons (.bi .len (.cons (.var 5) .nil)) .nil)) (.int 10)) .nil)))) (.cons (.setO 7 (.lst .nil)) (.cons (.if_ (.cmp .eq (.ix (.var 2) (.int 2)) (.int 1)) (.cons (.setO 7 (.sluL (.lc [9] (.nm 9) (.seq (.var 5)) (.cmp .eq (.bi .len (.cons (.lc [8] (.nm 8) (.rng (.bin .sub (.var 4) (.int 1))) (.cmp .lt (.ix (.var 9) (.var 8)) (.ix (.var 9) (.bin .add (.var 8) (.int 1)))) (.var 8)) .nil)) (.int 0)) (.var 9)) (.int 8))) .nil) .nil) (.cons (.if_ (.cmp .eq (.ix (.var 2) (.int 2)) (.int 2)) (.cons (.setO 7 (.sluL (.lc [9] (.nm 9) (.seq (.var 5)) (.cmp .le (.bi .len (.cons (.lc [8] (.nm 8) (.rng (.var 4)) (.cmp .ne (.ix (.var 9) (.var 8)) (.ix (.var 3) (.int 0))) (.var 8)) .nil)) (.int 1)) (.var 9)) (.int 8))) .nil) .nil) (.cons (.if_ (.and_ (.cmp .eq (.ix (.var 2) (.int 2)) (.int 3)) (.cmp .le (.bi .len (.cons (.var 5) .nil)) (.int 8))) (.cons (.setO 7 (.bi .list (.cons (.var 5) .nil))) .nil) .nil) (.cons (.for_ (.nm 8) (.rng (.bin .add (.int 1) (.ix (.var 2) (.int 3)))) (.cons (.if_ (.and_ (.cmp .notin (.ix (.var 5) (.ix (.var 6) (.var 8))) (.bv 7)) (.cmp .lt (.bi .len (.cons (.bv 7) .nil)) (.int 8))) (.cons (.app 7 (.ix (.var 5) (.ix (.var 6) (.var 8)))) .nil) .nil) .nil)) (.cons (.ret (.lst (.cons (.var 3) (.cons (.var 4) (.cons (.bi .sorted (.cons (.bv 7) .nil)) .nil))))) .nil)))))))))))
theorem k__law_class : chkSs N__law_class b__law_class (defScope s__law_class).names (defBody s__law_class) = true := by decide +kernel
/-! _law_rows_on: 0 told, 1 bag, 2 known, 3 rule, 4 question -/
abbrev s__law_rows_on : Stmt := top 40
abbrev N__law_rows_on : List Str := ["told", "bag", "known", "rule", "question"]
theorem sc__law_rows_on : FnScope N__law_rows_on ["told", "bag"] (defScope s__law_rows_on) := ⟨rfl, rfl, rfl, by decide +kernel, rfl, by decide +kernel, by decide +kernel⟩
def b__law_rows_on : Ss := (.cons (.setO 2 .dnew) (.cons (.for_ (.nm 3) (.seq (.var 0)) (.cons (.stx 2 (.join (.str "") (.lc [4] (.nm 4) (.seq (.var 1)) (.bl true) (.ix (.var 3) (.var 4)))) (.bl true)) .nil)) (.cons (.ret (.bi .sorted (.cons (.bi .list (.cons (.bv 2) .nil)) .nil))) .nil)))
theorem k__law_rows_on : chkSs N__law_rows_on b__law_rows_on (defScope s__law_rows_on).names (defBody s__law_rows_on) = true := by decide +kernel
/-! _law_wrong_bags: 0 width, 1 bag, 2 wrong, 3 k -/
abbrev s__law_wrong_bags : Stmt := top 41
abbrev N__law_wrong_bags : List Str := ["width", "bag", "wrong", "k"]
theorem sc__law_wrong_bags : FnScope N__law_wrong_bags ["width", "bag"] (defScope s__law_wrong_bags) := ⟨rfl, rfl, rfl, by decide +kernel, rfl, by decide +kernel, by decide +kernel⟩
def b__law_wrong_bags : Ss := (.cons (.setO 2 (.lst (.cons (.tup .nil) (.cons (.bin .add (.var 1) (.tup (.cons (.var 0) .nil))) (.cons (.bin .add (.tup (.cons (.neg (.int 1)) .nil)) (.var 1)) (.cons (.bi .tuple (.cons (.lc [3] (.nm 3) (.rng (.int 7)) (.bl true) (.int 0)) .nil)) .nil)))))) (.cons (.if_ (.and_ (.cmp .gt (.bi .len (.cons (.var 1) .nil)) (.int 1)) (.cmp .ne (.ix (.var 1) (.int 0)) (.ix (.var 1) (.neg (.int 1))))) (.cons (.app 2 (.rev (.var 1))) .nil) .nil) (.cons (.frz 2) (.cons (.ret (.var 2)) .nil))))
theorem k__law_wrong_bags : chkSs N__law_wrong_bags b__law_wrong_bags (defScope s__law_wrong_bags).names (defBody s__law_wrong_bags) = true := by decide +kernel
/-! _law_bad_bag: 0 klass, 1 bag, 2 door, 3 e -/
abbrev s__law_bad_bag : Stmt := top 42
abbrev N__law_bad_bag : List Str := ["klass", "bag", "door", "e"]
theorem sc__law_bad_bag : FnScope N__law_bad_bag ["klass", "bag", "door"] (defScope s__law_bad_bag) := ⟨rfl, rfl, rfl, by decide +kernel, rfl, by decide +kernel, by decide +kernel⟩
def b__law_bad_bag : Ss := (.cons (.try_ (.cons (.if_ (.cmp .eq (.var 2) (.int 0)) (.cons (.ex (.call "rows_seen" (.cons (.var 0) (.cons (.var 1) .nil)))) .nil) .nil) (.cons (.if_ (.cmp .eq (.var 2) (.int 1)) (.cons (.ex (.call "givers" (.cons (.var 0) (.cons (.var 1) (.cons (.ix (.fld (.var 0) "rules") (.int 0)) .nil))))) .nil) .nil) (.cons (.if_ (.cmp .eq (.var 2) (.int 2)) (.cons (.ex (.call "web_of" (.cons (.var 0) (.cons (.var 1) .nil)))) .nil) .nil) .nil))) "BadBag" 3 (.isRet "SchoolError" "bag")) (.cons (.ret .non) .nil))
theorem k__law_bad_bag : chkSs N__law_bad_bag b__law_bad_bag (defScope s__law_bad_bag).names (defBody s__law_bad_bag) = true := by decide +kernel
/-! law: 0 script, 1 built, 2 shape, 3 every, 4 answers, 5 width, 6 told, 7 klass, 8 draws, 9 bag, 10 due, 11 seen, 12 rule, 13 row, 14 givers_due, 15 wrong, 16 door, 17 k, 18 question -/
abbrev s_law : Stmt := top 43
abbrev N_law : List Str := ["script", "built", "shape", "every", "answers", "width", "told", "klass", "draws", "bag", "due", "seen", "rule", "row", "givers_due", "wrong", "door", "k", "question"]
theorem sc_law : FnScope N_law ["script"] (defScope s_law) := ⟨rfl, rfl, rfl, by decide +kernel, rfl, by decide +kernel, by decide +kernel⟩
def b_law : Ss := (.cons (.set 1 (.call "_law_class" (.cons (.var 0) (.cons (.int 0) .nil)))) (.cons (.set 2 (.call "_law_digits" (.cons (.call "_law_cell" (.cons (.var 0) (.cons (.int 2) .nil))) (.cons (.lst (.cons (.int 8) (.cons (.int 6) (.cons (.int 60) (.cons (.int 2) (.cons (.int 60) .nil)))))) .nil)))) (.cons (.if_ (.cmp .eq (.ix (.var 2) (.int 0)) (.int 0)) (.cons (.set 3 (.call "_law_all_rows" (.cons (.str "ny") (.cons (.bin .add (.int 5) (.ix (.var 2) (.int 3))) .nil)))) (.cons (.set 1 (.lst (.cons (.str "ny") (.cons (.bin .add (.int 5) (.ix (.var 2) (.int 3))) (.cons (.lc [17] (.nm 17) (.rng (.int 32)) (.bl true) (.ix (.var 3) (.bin .mod (.bin .add (.bin .mul (.var 17) (.int 7)) (.ix (.var 2) (.int 4))) (.bi .len (.cons (.var 3) .nil))))) .nil))))) .nil)) .nil) (.cons (.set 4 (.ix (.var 1) (.int 0))) (.cons (.set 5 (.ix (.var 1) (.int 1))) (.cons (.set 6 (.bi .sorted (.cons (.bi .list (.cons (.ix (.var 1) (.int 2)) .nil)) .nil))) (.cons (.set 7 (.mk "RuleClass" (.cons (.var 4) (.cons (.var 5) (.cons (.bi .tuple (.cons (.var 6) .nil)) .nil))))) (.cons (.set 8 (.call "_law_digits" (.cons (.call "_law_cell" (.cons (.var 0) (.cons (.int 3) .nil))) (.cons (.bin .mul (.lst (.cons (.var 5) .nil)) (.int 6)) .nil)))) (.cons (.set 9 (.bi .tuple (.cons (.bi .sorted (.cons (.slu (.var 8) (.bin .add (.int 1) (.ix (.var 2) (.int 1)))) .nil)) .nil))) (.cons (.set 10 (.call "_law_rows_on" (.cons (.var 6) (.cons (.var 9) .nil)))) (.cons (.set 11 (.call "rows_seen" (.cons (.var 7) (.cons (.var 9) .nil)))) (.cons (.if_ (.or_ (.not_ (.isi (.var 11) .tuple)) (.or_ (.cmp .ne (.var 11) (.bi .tuple (.cons (.var 10) .nil))) (.or_ (.cmp .ne (.fld (.call "web_of" (.cons (.var 7) (.cons (.var 9) .nil))) "rows") (.var 11)) (.cmp .ne (.fld (.call "web_of" (.cons (.var 7) (.cons (.var 9) .nil))) "answers") (.var 4))))) (.cons (.ret (.bl false)) .nil) .nil) (.cons (.if_ (.or_ (.cmp .ne (.fld (.call "narrowed" (.cons (.var 7) (.cons (.var 9) .nil))) "rules") (.var 11)) (.cmp .ne (.fld (.call "narrowed" (.cons (.var 7) (.cons (.var 9) .nil))) "width") (.bi .len (.cons (.var 9) .nil)))) (.cons (.ret (.bl false)) .nil) .nil) (.cons (.for_ (.nm 12) (.seq (.var 6)) (.cons (.if_ (.cmp .ne (.call "row_of" (.cons (.var 12) (.cons (.var 9) .nil))) (.join (.str "") (.lc [18] (.nm 18) (.seq (.var 9)) (.bl true) (.ix (.var 12) (.var 18))))) (.cons (.ret (.bl false)) .nil) .nil) .nil)) (.cons (.for_ (.nm 13) (.seq (.bin .add (.var 10) (.lst (.cons (.str "") (.cons (.bin .mul (.ix (.var 4) (.int 0)) (.int 7)) (.cons (.bin .add (.str "?") (.sll (.ix (.var 10) (.int 0)) (.int 1))) (.cons (.bin .add (.ix (.var 10) (.int 0)) (.ix (.var 4) (.int 0))) .nil))))))) (.cons (.set 14 (.bi .tuple (.cons (.lc [12] (.nm 12) (.seq (.var 6)) (.cmp .eq (.join (.str "") (.lc [18] (.nm 18) (.seq (.var 9)) (.bl true) (.ix (.var 12) (.var 18)))) (.var 13)) (.var 12)) .nil))) (.cons (.if_ (.cmp .ne (.call "givers" (.cons (.var 7) (.cons (.var 9) (.cons (.var 13) .nil)))) (.var 14)) (.cons (.ret (.bl false)) .nil) .nil) .nil))) (.cons (.if_ (.cmp .eq (.bi .len (.cons (.call "givers" (.cons (.var 7) (.cons (.var 9) (.cons (.ix (.var 10) (.bin .mod (.ix (.var 2) (.int 2)) (.bi .len (.cons (.var 10) .nil)))) .nil)))) .nil)) (.int 0)) (.cons (.ret (.bl false)) .nil) .nil) (.cons (.for_ (.nm 15) (.seq (.call "_law_wrong_bags" (.cons (.var 5) (.cons (.var 9) .nil)))) (.cons (.for_ (.nm 16) (.rng (.int 3)) (.cons (.if_ (.cmp .ne (.call "_law_bad_bag" (.cons (.var 7) (.cons (.var 15) (.cons (.var 16) .nil)))) (.var 15)) (.cons (.ret (.bl false)) .nil) .nil) .nil)) .nil)) (.cons (.ret (.bl true)) .nil))))))))))))))))))
theorem k_law : chkSs N_law b_law (defScope s_law).names (defBody s_law) = true := by decide +kernel
/-! BadBag.__init__: 0 self, 1 bag -/
abbrev s_BadBag___init__ : Stmt := inClass (top 9) 0
abbrev N_BadBag___init__ : List Str := ["self", "bag"]
theorem sc_BadBag___init__ : FnScope N_BadBag___init__ ["self", "bag"] (defScope s_BadBag___init__) := ⟨rfl, rfl, rfl, by decide +kernel, rfl, by decide +kernel, by decide +kernel⟩
def b_BadBag___init__ : Ss := (.cons (.fset "bag" (.var 1)) .nil)
theorem k_BadBag___init__ : chkSs N_BadBag___init__ b_BadBag___init__ (defScope s_BadBag___init__).names (defBody s_BadBag___init__) = true := by decide +kernel
end K9
namespace K9
open PySem L2 Lp
def ansOk (a : Str) : Prop := 2 ≤ (ls a).length ∧ (ls a).length ≤ 4 ∧ (∀ c ∈ ls a, 97 ≤ c ∧ c ≤ 122) ∧ ∀ i x y, (ls a)[i]? = some x → (ls a)[i + 1]? = some y → x < y
def c_is_answers : Ct := ct (fun a : Str => [.str a]) (fun a => (ls a).length ≤ 1000) (fun a d => ∃ b : Bool, d = .bl b ∧ (b = true ↔ ansOk a)) fun _ _ => False
theorem r_is_answers {T : Tab} : ∀ ds Q X, c_is_answers.run ds Q X → wpSs T b_is_answers (env0 N_is_answers ds) { nx := fun _ => Q .non, rt := Q, bk := fun _ => False, ct := fun _ => False, ex := fun _ => X } := by
  rintro ds Q X ⟨a, rfl, hp, hq, -⟩
  show wpSs T b_is_answers [some (false, .str a), none] _
  unfold b_is_answers
  try simp only [Lp.wpSs, Lp.wpS, Lp.wpE, Lp.wpEs, Lp.wpSrc, Lp.wpH, Lp.bindT, Lp.bindTs, Lp.wipeE, Lp.q_ix1, Lp.q_ix2, Lp.q_ix3, Lp.q_ix4, Lp.q_lt, Lp.q_le, Lp.q_gt, Lp.q_ge, Lp.q_slt, Lp.q_sle, Lp.q_sgt, Lp.q_sge, Lp.q_in1, Lp.q_ni1, Lp.q_in2, Lp.q_ni2, Lp.q_in3, Lp.q_ni3, Lp.q_in4, Lp.q_ni4, Lp.q_in5, Lp.q_ni5, Lp.q_eqi, Lp.q_nei, Lp.q_addi, Lp.q_adds, Lp.q_addl, Lp.q_addt, Lp.q_subi, Lp.q_muli, Lp.q_muls, Lp.q_mull, Lp.q_fdiv, Lp.q_mod, Lp.q_pow, Lp.q_len1, Lp.q_len2, Lp.q_len3, Lp.q_len4, Lp.q_len5, Lp.q_int1, Lp.q_int2, Lp.q_abs, Lp.q_min, Lp.q_max, Lp.q_list1, Lp.q_list2, Lp.q_list3, Lp.q_tuple1, Lp.q_tuple2, Lp.q_sorted, Lp.q_sum, Lp.q_it1, Lp.q_it2, Lp.q_it3, Lp.q_it4, Lp.q_sl1, Lp.q_sl2, Lp.q_sl3, Lp.q_k1, Lp.q_k2, List.getElem?_cons_zero, List.getElem?_cons_succ, Option.some.injEq, Prod.mk.injEq, D.bl.injEq, D.lst.injEq, true_and, and_true, exists_eq_left', exists_eq_left, List.set_cons_zero, List.set_cons_succ, List.length_map, false_and, reduceCtorEq, exists_false, exists_const, Int.toNat_natCast, Bool.not_true, Bool.not_false, decide_true, decide_false, Lp.len_ls]
  have sz : (ls a).length ≤ sizeLine := by rw [szl]; omega
  refine ⟨sz, if_p (fun h => hq _ ⟨false, rfl, ⟨fun z => (by cases z), fun z => (by have := z.1; omega)⟩⟩) fun h => ⟨sz, if_p (fun h' => hq _ ⟨false, rfl, ⟨fun z => (by cases z), fun z => (by have := z.2.1; omega)⟩⟩) fun h' => ⟨sz, by omega, ?_⟩⟩⟩
  refine wpFor_range (fun i env => (∃ v, env = [some (false, .str a), v]) ∧ (∀ j x, j < i → (ls a)[j]? = some x → 97 ≤ x ∧ x ≤ 122) ∧ ∀ j x y, j + 1 < i → (ls a)[j]? = some x → (ls a)[j + 1]? = some y → x < y)
    ⟨⟨_, rfl⟩, fun j x hj => absurd hj (Nat.not_lt_zero _), fun j x y hj => absurd hj (Nat.not_lt_zero _)⟩ (fun i hi env K hI hK => ?_) fun env hI => ?_
  · obtain ⟨⟨v, rfl⟩, h1, h2⟩ := hI
    obtain ⟨c, hc⟩ : ∃ c, (ls a)[i]? = some c := ⟨_, List.getElem?_eq_getElem hi⟩
    have no : ¬ (97 ≤ c ∧ c ≤ 122) → ∀ b, b = false → Q (.bl b) := fun h b e => hq _ ⟨b, rfl, by rw [e]; exact ⟨fun z => (by cases z), fun z => absurd (z.2.2.1 c (List.mem_of_getElem? hc)) h⟩⟩
    try simp only [Lp.wpSs, Lp.wpS, Lp.wpE, Lp.wpEs, Lp.wpSrc, Lp.wpH, Lp.bindT, Lp.bindTs, Lp.wipeE, Lp.q_ix1, Lp.q_ix2, Lp.q_ix3, Lp.q_ix4, Lp.q_lt, Lp.q_le, Lp.q_gt, Lp.q_ge, Lp.q_slt, Lp.q_sle, Lp.q_sgt, Lp.q_sge, Lp.q_in1, Lp.q_ni1, Lp.q_in2, Lp.q_ni2, Lp.q_in3, Lp.q_ni3, Lp.q_in4, Lp.q_ni4, Lp.q_in5, Lp.q_ni5, Lp.q_eqi, Lp.q_nei, Lp.q_addi, Lp.q_adds, Lp.q_addl, Lp.q_addt, Lp.q_subi, Lp.q_muli, Lp.q_muls, Lp.q_mull, Lp.q_fdiv, Lp.q_mod, Lp.q_pow, Lp.q_len1, Lp.q_len2, Lp.q_len3, Lp.q_len4, Lp.q_len5, Lp.q_int1, Lp.q_int2, Lp.q_abs, Lp.q_min, Lp.q_max, Lp.q_list1, Lp.q_list2, Lp.q_list3, Lp.q_tuple1, Lp.q_tuple2, Lp.q_sorted, Lp.q_sum, Lp.q_it1, Lp.q_it2, Lp.q_it3, Lp.q_it4, Lp.q_sl1, Lp.q_sl2, Lp.q_sl3, Lp.q_k1, Lp.q_k2, List.getElem?_cons_zero, List.getElem?_cons_succ, Option.some.injEq, Prod.mk.injEq, D.bl.injEq, D.lst.injEq, true_and, and_true, exists_eq_left', exists_eq_left, List.set_cons_zero, List.set_cons_succ, List.length_map, false_and, reduceCtorEq, exists_false, exists_const, Int.toNat_natCast, Bool.not_true, Bool.not_false, decide_true, decide_false, Lp.len_ls]
    have ea : (Str.ofString "a") = ⟨#[97]⟩ := by decide +kernel
    have ez : (Str.ofString "z") = ⟨#[122]⟩ := by decide +kernel
    have at_i := at_nat hc
    refine ⟨c, sz, at_i, ?_⟩
    rw [ea, ez]
    refine if_p (fun h => no (by rw [lt_one] at h; omega) _ rfl) fun h3 => ⟨c, sz, at_i, if_p (fun h => no (by rw [lt_one] at h; omega) _ rfl) fun h4 => ?_⟩
    rw [lt_one] at h3 h4
    have step : (∀ k d, k + 1 = i → (ls a)[k]? = some d → d < c) → K [some (false, D.str a), some (false, D.int (i : Nat))] := fun hd => hK _ ⟨⟨_, rfl⟩, fun j x hj e => (by
      by_cases q : j = i
      · subst q; rw [hc] at e; cases e; omega
      · exact h1 j x (by omega) e), fun j x y hj e1 e2 => (by
      by_cases q : j + 1 = i
      · rw [q, hc] at e2; cases e2; exact hd j x q e1
      · exact h2 j x y (by omega) e1 e2)⟩
    refine if_p (fun h0 => ?_) fun h0 => step fun k d hk => by omega
    obtain ⟨c', hc'⟩ : ∃ c', (ls a)[i - 1]? = some c' := ⟨_, List.getElem?_eq_getElem (by omega)⟩
    refine ⟨c', sz, at_int (by omega) (by rw [show ((i : Int) - 1).toNat = i - 1 by omega]; exact hc'), c, sz, at_i, if_np (fun h5 => ?_) fun h5 => ?_⟩
    · rw [lt_one] at h5
      exact hq _ ⟨false, rfl, ⟨fun z => (by cases z), fun z => absurd (z.2.2.2 (i - 1) c' c hc' (by rw [show i - 1 + 1 = i by omega]; exact hc)) h5⟩⟩
    · rw [lt_one] at h5
      exact step fun k d hk e => by rw [show i - 1 = k by omega, e] at hc'; cases hc'; exact h5
  · refine hq _ ⟨true, rfl, ⟨fun _ => ⟨by omega, by omega, fun c hc => ?_, fun i x y e1 e2 => hI.2.2 i x y (by have := (List.getElem?_eq_some_iff.mp e2).1; exact this) e1 e2⟩, fun _ => rfl⟩⟩
    obtain ⟨i, hi⟩ := List.getElem?_of_mem hc
    exact hI.2.1 i c (List.getElem?_eq_some_iff.mp hi).1 hi
/-! is_row -/
def rowOk (a : Str) (n : Int) (r : Str) : Prop := ((ls r).length : Int) = n ∧ ∀ c ∈ ls r, c ∈ ls a
def c_is_row : Ct := ct (fun p : Str × Int × Str => [.str p.1, .int p.2.1, .str p.2.2]) (fun p => (ls p.1).length ≤ 1000 ∧ (ls p.2.2).length ≤ 1000) (fun p d => ∃ b : Bool, d = .bl b ∧ (b = true ↔ rowOk p.1 p.2.1 p.2.2)) fun _ _ => False
theorem r_is_row {T : Tab} : ∀ ds Q X, c_is_row.run ds Q X → wpSs T b_is_row (env0 N_is_row ds) { nx := fun _ => Q .non, rt := Q, bk := fun _ => False, ct := fun _ => False, ex := fun _ => X } := by
  rintro ds Q X ⟨⟨a, n, r⟩, rfl, hp, hq, -⟩
  show wpSs T b_is_row [some (false, .str a), some (false, .int n), some (false, .str r), none] _
  have hp1 : (ls a).length ≤ 1000 := hp.1
  have hp2 : (ls r).length ≤ 1000 := hp.2
  have sz : (ls r).length ≤ sizeLine := by rw [szl]; omega
  have no : ∀ b, b = false → ¬ rowOk a n r → Q (.bl b) := fun b e h => hq _ ⟨b, rfl, by rw [e]; exact ⟨fun z => (by cases z), fun z => absurd z h⟩⟩
  unfold b_is_row
  try simp only [Lp.wpSs, Lp.wpS, Lp.wpE, Lp.wpEs, Lp.wpSrc, Lp.wpH, Lp.bindT, Lp.bindTs, Lp.wipeE, Lp.q_ix1, Lp.q_ix2, Lp.q_ix3, Lp.q_ix4, Lp.q_lt, Lp.q_le, Lp.q_gt, Lp.q_ge, Lp.q_slt, Lp.q_sle, Lp.q_sgt, Lp.q_sge, Lp.q_in1, Lp.q_ni1, Lp.q_in2, Lp.q_ni2, Lp.q_in3, Lp.q_ni3, Lp.q_in4, Lp.q_ni4, Lp.q_in5, Lp.q_ni5, Lp.q_eqi, Lp.q_nei, Lp.q_addi, Lp.q_adds, Lp.q_addl, Lp.q_addt, Lp.q_subi, Lp.q_muli, Lp.q_muls, Lp.q_mull, Lp.q_fdiv, Lp.q_mod, Lp.q_pow, Lp.q_len1, Lp.q_len2, Lp.q_len3, Lp.q_len4, Lp.q_len5, Lp.q_int1, Lp.q_int2, Lp.q_abs, Lp.q_min, Lp.q_max, Lp.q_list1, Lp.q_list2, Lp.q_list3, Lp.q_tuple1, Lp.q_tuple2, Lp.q_sorted, Lp.q_sum, Lp.q_it1, Lp.q_it2, Lp.q_it3, Lp.q_it4, Lp.q_sl1, Lp.q_sl2, Lp.q_sl3, Lp.q_k1, Lp.q_k2, List.getElem?_cons_zero, List.getElem?_cons_succ, Option.some.injEq, Prod.mk.injEq, D.bl.injEq, D.lst.injEq, true_and, and_true, exists_eq_left', exists_eq_left, List.set_cons_zero, List.set_cons_succ, List.length_map, false_and, reduceCtorEq, exists_false, exists_const, Int.toNat_natCast, Bool.not_true, Bool.not_false, decide_true, decide_false, Lp.len_ls]
  refine ⟨sz, if_np (fun h => no _ rfl fun z => h z.1) fun h => ?_⟩
  refine wpFor_map (g := fun c => D.str ⟨#[c]⟩) (fun pre env => (∃ v, env = [some (false, .str a), some (false, .int n), some (false, .str r), v]) ∧ ∀ c ∈ pre, c ∈ ls a) ⟨⟨_, rfl⟩, fun c hc => by cases hc⟩ (fun pre c post env K hx hI hK => ?_) fun env hI => ?_
  · obtain ⟨⟨v, rfl⟩, h1⟩ := hI
    try simp only [Lp.wpSs, Lp.wpS, Lp.wpE, Lp.wpEs, Lp.wpSrc, Lp.wpH, Lp.bindT, Lp.bindTs, Lp.wipeE, Lp.q_ix1, Lp.q_ix2, Lp.q_ix3, Lp.q_ix4, Lp.q_lt, Lp.q_le, Lp.q_gt, Lp.q_ge, Lp.q_slt, Lp.q_sle, Lp.q_sgt, Lp.q_sge, Lp.q_in1, Lp.q_ni1, Lp.q_in2, Lp.q_ni2, Lp.q_in3, Lp.q_ni3, Lp.q_in4, Lp.q_ni4, Lp.q_in5, Lp.q_ni5, Lp.q_eqi, Lp.q_nei, Lp.q_addi, Lp.q_adds, Lp.q_addl, Lp.q_addt, Lp.q_subi, Lp.q_muli, Lp.q_muls, Lp.q_mull, Lp.q_fdiv, Lp.q_mod, Lp.q_pow, Lp.q_len1, Lp.q_len2, Lp.q_len3, Lp.q_len4, Lp.q_len5, Lp.q_int1, Lp.q_int2, Lp.q_abs, Lp.q_min, Lp.q_max, Lp.q_list1, Lp.q_list2, Lp.q_list3, Lp.q_tuple1, Lp.q_tuple2, Lp.q_sorted, Lp.q_sum, Lp.q_it1, Lp.q_it2, Lp.q_it3, Lp.q_it4, Lp.q_sl1, Lp.q_sl2, Lp.q_sl3, Lp.q_k1, Lp.q_k2, List.getElem?_cons_zero, List.getElem?_cons_succ, Option.some.injEq, Prod.mk.injEq, D.bl.injEq, D.lst.injEq, true_and, and_true, exists_eq_left', exists_eq_left, List.set_cons_zero, List.set_cons_succ, List.length_map, false_and, reduceCtorEq, exists_false, exists_const, Int.toNat_natCast, Bool.not_true, Bool.not_false, decide_true, decide_false, Lp.len_ls]
    refine if_np (fun h2 => no _ rfl fun z => h2 (z.2 c (by rw [hx]; simp))) fun h2 => hK _ ⟨⟨_, rfl⟩, fun d hd => ?_⟩
    rcases List.mem_append.mp hd with hd | hd
    · exact h1 d hd
    · rw [List.mem_singleton] at hd; rw [hd]; exact h2
  · exact hq _ ⟨true, rfl, ⟨fun _ => ⟨h, hI.2⟩, fun _ => rfl⟩⟩
/-! different -/
def c_different : Ct := ctF (fun p : Bool × List Str => [if p.1 = true then .lst (p.2.map .str) else .tup (p.2.map .str)]) (fun p => (dd p.2).length < 64) fun p => .tup ((uniq p.2).map .str)
theorem r_different {T : Tab} : ∀ ds Q X, c_different.run ds Q X → wpSs T b_different (env0 N_different ds) { nx := fun _ => Q .non, rt := Q, bk := fun _ => False, ct := fun _ => False, ex := fun _ => X } := by
  rintro ds Q X ⟨⟨k, ss⟩, rfl, hp, hq⟩
  have hp : (dd ss).length < 64 := hp
  have hq : Q (.tup ((uniq ss).map .str)) := hq
  show wpSs T b_different [some (false, if k = true then .lst (ss.map .str) else .tup (ss.map .str)), none, none] _
  generalize hco : (if k = true then D.lst (ss.map .str) else .tup (ss.map .str)) = co
  have hit : ∀ L : List D → Prop, L (ss.map .str) → opIter co L := fun L h => by
    rw [← hco]
    cases k with
    | true => rw [if_pos rfl]; exact h
    | false => rw [if_neg Bool.false_ne_true]; exact h
  unfold b_different
  try simp only [Lp.wpSs, Lp.wpS, Lp.wpE, Lp.wpEs, Lp.wpSrc, Lp.wpH, Lp.bindT, Lp.bindTs, Lp.wipeE, Lp.q_ix1, Lp.q_ix2, Lp.q_ix3, Lp.q_ix4, Lp.q_lt, Lp.q_le, Lp.q_gt, Lp.q_ge, Lp.q_slt, Lp.q_sle, Lp.q_sgt, Lp.q_sge, Lp.q_in1, Lp.q_ni1, Lp.q_in2, Lp.q_ni2, Lp.q_in3, Lp.q_ni3, Lp.q_in4, Lp.q_ni4, Lp.q_in5, Lp.q_ni5, Lp.q_eqi, Lp.q_nei, Lp.q_addi, Lp.q_adds, Lp.q_addl, Lp.q_addt, Lp.q_subi, Lp.q_muli, Lp.q_muls, Lp.q_mull, Lp.q_fdiv, Lp.q_mod, Lp.q_pow, Lp.q_len1, Lp.q_len2, Lp.q_len3, Lp.q_len4, Lp.q_len5, Lp.q_int1, Lp.q_int2, Lp.q_abs, Lp.q_min, Lp.q_max, Lp.q_list1, Lp.q_list2, Lp.q_list3, Lp.q_tuple1, Lp.q_tuple2, Lp.q_sorted, Lp.q_sum, Lp.q_it1, Lp.q_it2, Lp.q_it3, Lp.q_it4, Lp.q_sl1, Lp.q_sl2, Lp.q_sl3, Lp.q_k1, Lp.q_k2, List.getElem?_cons_zero, List.getElem?_cons_succ, Option.some.injEq, Prod.mk.injEq, D.bl.injEq, D.lst.injEq, true_and, and_true, exists_eq_left', exists_eq_left, List.set_cons_zero, List.set_cons_succ, List.length_map, false_and, reduceCtorEq, exists_false, exists_const, Int.toNat_natCast, Bool.not_true, Bool.not_false, decide_true, decide_false, Lp.len_ls]
  refine hit _ ?_
  refine wpFor_map (fun pre env => ∃ v, env = [some (false, co), some (true, .dct (setD (dd pre))), v]) ⟨_, rfl⟩ (fun pre s post env K hx hI hK => ?_) fun env hI => ?_
  · obtain ⟨v, rfl⟩ := hI
    try simp only [Lp.wpSs, Lp.wpS, Lp.wpE, Lp.wpEs, Lp.wpSrc, Lp.wpH, Lp.bindT, Lp.bindTs, Lp.wipeE, Lp.q_ix1, Lp.q_ix2, Lp.q_ix3, Lp.q_ix4, Lp.q_lt, Lp.q_le, Lp.q_gt, Lp.q_ge, Lp.q_slt, Lp.q_sle, Lp.q_sgt, Lp.q_sge, Lp.q_in1, Lp.q_ni1, Lp.q_in2, Lp.q_ni2, Lp.q_in3, Lp.q_ni3, Lp.q_in4, Lp.q_ni4, Lp.q_in5, Lp.q_ni5, Lp.q_eqi, Lp.q_nei, Lp.q_addi, Lp.q_adds, Lp.q_addl, Lp.q_addt, Lp.q_subi, Lp.q_muli, Lp.q_muls, Lp.q_mull, Lp.q_fdiv, Lp.q_mod, Lp.q_pow, Lp.q_len1, Lp.q_len2, Lp.q_len3, Lp.q_len4, Lp.q_len5, Lp.q_int1, Lp.q_int2, Lp.q_abs, Lp.q_min, Lp.q_max, Lp.q_list1, Lp.q_list2, Lp.q_list3, Lp.q_tuple1, Lp.q_tuple2, Lp.q_sorted, Lp.q_sum, Lp.q_it1, Lp.q_it2, Lp.q_it3, Lp.q_it4, Lp.q_sl1, Lp.q_sl2, Lp.q_sl3, Lp.q_k1, Lp.q_k2, List.getElem?_cons_zero, List.getElem?_cons_succ, Option.some.injEq, Prod.mk.injEq, D.bl.injEq, D.lst.injEq, true_and, and_true, exists_eq_left', exists_eq_left, List.set_cons_zero, List.set_cons_succ, List.length_map, false_and, reduceCtorEq, exists_false, exists_const, Int.toNat_natCast, Bool.not_true, Bool.not_false, decide_true, decide_false, Lp.len_ls]
    refine ⟨?_, hK _ ⟨some (false, .str s), ?_⟩⟩
    · have := dd_pre (pre := pre) (post := s :: post)
      rw [setD_len, szl]
      rw [← hx] at this; omega
    · rw [dput_set, dd_snoc]
  · obtain ⟨v, rfl⟩ := hI
    try simp only [Lp.wpSs, Lp.wpS, Lp.wpE, Lp.wpEs, Lp.wpSrc, Lp.wpH, Lp.bindT, Lp.bindTs, Lp.wipeE, Lp.q_ix1, Lp.q_ix2, Lp.q_ix3, Lp.q_ix4, Lp.q_lt, Lp.q_le, Lp.q_gt, Lp.q_ge, Lp.q_slt, Lp.q_sle, Lp.q_sgt, Lp.q_sge, Lp.q_in1, Lp.q_ni1, Lp.q_in2, Lp.q_ni2, Lp.q_in3, Lp.q_ni3, Lp.q_in4, Lp.q_ni4, Lp.q_in5, Lp.q_ni5, Lp.q_eqi, Lp.q_nei, Lp.q_addi, Lp.q_adds, Lp.q_addl, Lp.q_addt, Lp.q_subi, Lp.q_muli, Lp.q_muls, Lp.q_mull, Lp.q_fdiv, Lp.q_mod, Lp.q_pow, Lp.q_len1, Lp.q_len2, Lp.q_len3, Lp.q_len4, Lp.q_len5, Lp.q_int1, Lp.q_int2, Lp.q_abs, Lp.q_min, Lp.q_max, Lp.q_list1, Lp.q_list2, Lp.q_list3, Lp.q_tuple1, Lp.q_tuple2, Lp.q_sorted, Lp.q_sum, Lp.q_it1, Lp.q_it2, Lp.q_it3, Lp.q_it4, Lp.q_sl1, Lp.q_sl2, Lp.q_sl3, Lp.q_k1, Lp.q_k2, List.getElem?_cons_zero, List.getElem?_cons_succ, Option.some.injEq, Prod.mk.injEq, D.bl.injEq, D.lst.injEq, true_and, and_true, exists_eq_left', exists_eq_left, List.set_cons_zero, List.set_cons_succ, List.length_map, false_and, reduceCtorEq, exists_false, exists_const, Int.toNat_natCast, Bool.not_true, Bool.not_false, decide_true, decide_false, Lp.len_ls]
    rw [setD_keys]
    refine sort_strs hp ?_
    try simp only [Lp.wpSs, Lp.wpS, Lp.wpE, Lp.wpEs, Lp.wpSrc, Lp.wpH, Lp.bindT, Lp.bindTs, Lp.wipeE, Lp.q_ix1, Lp.q_ix2, Lp.q_ix3, Lp.q_ix4, Lp.q_lt, Lp.q_le, Lp.q_gt, Lp.q_ge, Lp.q_slt, Lp.q_sle, Lp.q_sgt, Lp.q_sge, Lp.q_in1, Lp.q_ni1, Lp.q_in2, Lp.q_ni2, Lp.q_in3, Lp.q_ni3, Lp.q_in4, Lp.q_ni4, Lp.q_in5, Lp.q_ni5, Lp.q_eqi, Lp.q_nei, Lp.q_addi, Lp.q_adds, Lp.q_addl, Lp.q_addt, Lp.q_subi, Lp.q_muli, Lp.q_muls, Lp.q_mull, Lp.q_fdiv, Lp.q_mod, Lp.q_pow, Lp.q_len1, Lp.q_len2, Lp.q_len3, Lp.q_len4, Lp.q_len5, Lp.q_int1, Lp.q_int2, Lp.q_abs, Lp.q_min, Lp.q_max, Lp.q_list1, Lp.q_list2, Lp.q_list3, Lp.q_tuple1, Lp.q_tuple2, Lp.q_sorted, Lp.q_sum, Lp.q_it1, Lp.q_it2, Lp.q_it3, Lp.q_it4, Lp.q_sl1, Lp.q_sl2, Lp.q_sl3, Lp.q_k1, Lp.q_k2, List.getElem?_cons_zero, List.getElem?_cons_succ, Option.some.injEq, Prod.mk.injEq, D.bl.injEq, D.lst.injEq, true_and, and_true, exists_eq_left', exists_eq_left, List.set_cons_zero, List.set_cons_succ, List.length_map, false_and, reduceCtorEq, exists_false, exists_const, Int.toNat_natCast, Bool.not_true, Bool.not_false, decide_true, decide_false, Lp.len_ls]
    exact hq
/-! is_bag -/
def bagOk (w : Int) (bag : List Int) : Prop := 1 ≤ bag.length ∧ bag.length ≤ 6 ∧ (∀ q ∈ bag, 0 ≤ q ∧ q < w) ∧ ∀ i x y, bag[i]? = some x → bag[i + 1]? = some y → x ≤ y
def c_is_bag : Ct := ct (fun p : Int × List Int => [.int p.1, .tup (p.2.map .int)]) (fun _ => True) (fun p d => ∃ b : Bool, d = .bl b ∧ (b = true ↔ bagOk p.1 p.2)) fun _ _ => False
theorem r_is_bag {T : Tab} (g1 : T.glb "MOST_PLACES" = some 6) : ∀ ds Q X, c_is_bag.run ds Q X → wpSs T b_is_bag (env0 N_is_bag ds) { nx := fun _ => Q .non, rt := Q, bk := fun _ => False, ct := fun _ => False, ex := fun _ => X } := by
  rintro ds Q X ⟨⟨w, bag⟩, rfl, -, hq, -⟩
  show wpSs T b_is_bag [some (false, .int w), some (false, .tup (bag.map .int)), none] _
  have no : ∀ b, b = false → ¬ bagOk w bag → Q (.bl b) := fun b e h => hq _ ⟨b, rfl, by rw [e]; exact ⟨fun z => (by cases z), fun z => absurd z h⟩⟩
  unfold b_is_bag
  try simp only [Lp.wpSs, Lp.wpS, Lp.wpE, Lp.wpEs, Lp.wpSrc, Lp.wpH, Lp.bindT, Lp.bindTs, Lp.wipeE, Lp.q_ix1, Lp.q_ix2, Lp.q_ix3, Lp.q_ix4, Lp.q_lt, Lp.q_le, Lp.q_gt, Lp.q_ge, Lp.q_slt, Lp.q_sle, Lp.q_sgt, Lp.q_sge, Lp.q_in1, Lp.q_ni1, Lp.q_in2, Lp.q_ni2, Lp.q_in3, Lp.q_ni3, Lp.q_in4, Lp.q_ni4, Lp.q_in5, Lp.q_ni5, Lp.q_eqi, Lp.q_nei, Lp.q_addi, Lp.q_adds, Lp.q_addl, Lp.q_addt, Lp.q_subi, Lp.q_muli, Lp.q_muls, Lp.q_mull, Lp.q_fdiv, Lp.q_mod, Lp.q_pow, Lp.q_len1, Lp.q_len2, Lp.q_len3, Lp.q_len4, Lp.q_len5, Lp.q_int1, Lp.q_int2, Lp.q_abs, Lp.q_min, Lp.q_max, Lp.q_list1, Lp.q_list2, Lp.q_list3, Lp.q_tuple1, Lp.q_tuple2, Lp.q_sorted, Lp.q_sum, Lp.q_it1, Lp.q_it2, Lp.q_it3, Lp.q_it4, Lp.q_sl1, Lp.q_sl2, Lp.q_sl3, Lp.q_k1, Lp.q_k2, List.getElem?_cons_zero, List.getElem?_cons_succ, Option.some.injEq, Prod.mk.injEq, D.bl.injEq, D.lst.injEq, true_and, and_true, exists_eq_left', exists_eq_left, List.set_cons_zero, List.set_cons_succ, List.length_map, false_and, reduceCtorEq, exists_false, exists_const, Int.toNat_natCast, Bool.not_true, Bool.not_false, decide_true, decide_false, Lp.len_ls, g1]
  refine if_p (fun h => no _ rfl fun z => by have := z.1; omega) fun h => if_p (fun h' => no _ rfl fun z => by have := z.2.1; omega) fun h' => ⟨by omega, ?_⟩
  refine wpFor_range (fun i env => (∃ v, env = [some (false, .int w), some (false, .tup (bag.map .int)), v]) ∧ (∀ j x, j < i → bag[j]? = some x → 0 ≤ x ∧ x < w) ∧ ∀ j x y, j + 1 < i → bag[j]? = some x → bag[j + 1]? = some y → x ≤ y)
    ⟨⟨_, rfl⟩, fun j x hj => absurd hj (Nat.not_lt_zero _), fun j x y hj => absurd hj (Nat.not_lt_zero _)⟩ (fun i hi env K hI hK => ?_) fun env hI => ?_
  · obtain ⟨⟨v, rfl⟩, h1, h2⟩ := hI
    obtain ⟨c, hc⟩ : ∃ c, bag[i]? = some c := ⟨_, List.getElem?_eq_getElem hi⟩
    have at_i := at_map D.int (at_nat hc)
    try simp only [Lp.wpSs, Lp.wpS, Lp.wpE, Lp.wpEs, Lp.wpSrc, Lp.wpH, Lp.bindT, Lp.bindTs, Lp.wipeE, Lp.q_ix1, Lp.q_ix2, Lp.q_ix3, Lp.q_ix4, Lp.q_lt, Lp.q_le, Lp.q_gt, Lp.q_ge, Lp.q_slt, Lp.q_sle, Lp.q_sgt, Lp.q_sge, Lp.q_in1, Lp.q_ni1, Lp.q_in2, Lp.q_ni2, Lp.q_in3, Lp.q_ni3, Lp.q_in4, Lp.q_ni4, Lp.q_in5, Lp.q_ni5, Lp.q_eqi, Lp.q_nei, Lp.q_addi, Lp.q_adds, Lp.q_addl, Lp.q_addt, Lp.q_subi, Lp.q_muli, Lp.q_muls, Lp.q_mull, Lp.q_fdiv, Lp.q_mod, Lp.q_pow, Lp.q_len1, Lp.q_len2, Lp.q_len3, Lp.q_len4, Lp.q_len5, Lp.q_int1, Lp.q_int2, Lp.q_abs, Lp.q_min, Lp.q_max, Lp.q_list1, Lp.q_list2, Lp.q_list3, Lp.q_tuple1, Lp.q_tuple2, Lp.q_sorted, Lp.q_sum, Lp.q_it1, Lp.q_it2, Lp.q_it3, Lp.q_it4, Lp.q_sl1, Lp.q_sl2, Lp.q_sl3, Lp.q_k1, Lp.q_k2, List.getElem?_cons_zero, List.getElem?_cons_succ, Option.some.injEq, Prod.mk.injEq, D.bl.injEq, D.lst.injEq, true_and, and_true, exists_eq_left', exists_eq_left, List.set_cons_zero, List.set_cons_succ, List.length_map, false_and, reduceCtorEq, exists_false, exists_const, Int.toNat_natCast, Bool.not_true, Bool.not_false, decide_true, decide_false, Lp.len_ls]
    refine ⟨_, at_i, ?_⟩
    try simp only [Lp.wpSs, Lp.wpS, Lp.wpE, Lp.wpEs, Lp.wpSrc, Lp.wpH, Lp.bindT, Lp.bindTs, Lp.wipeE, Lp.q_ix1, Lp.q_ix2, Lp.q_ix3, Lp.q_ix4, Lp.q_lt, Lp.q_le, Lp.q_gt, Lp.q_ge, Lp.q_slt, Lp.q_sle, Lp.q_sgt, Lp.q_sge, Lp.q_in1, Lp.q_ni1, Lp.q_in2, Lp.q_ni2, Lp.q_in3, Lp.q_ni3, Lp.q_in4, Lp.q_ni4, Lp.q_in5, Lp.q_ni5, Lp.q_eqi, Lp.q_nei, Lp.q_addi, Lp.q_adds, Lp.q_addl, Lp.q_addt, Lp.q_subi, Lp.q_muli, Lp.q_muls, Lp.q_mull, Lp.q_fdiv, Lp.q_mod, Lp.q_pow, Lp.q_len1, Lp.q_len2, Lp.q_len3, Lp.q_len4, Lp.q_len5, Lp.q_int1, Lp.q_int2, Lp.q_abs, Lp.q_min, Lp.q_max, Lp.q_list1, Lp.q_list2, Lp.q_list3, Lp.q_tuple1, Lp.q_tuple2, Lp.q_sorted, Lp.q_sum, Lp.q_it1, Lp.q_it2, Lp.q_it3, Lp.q_it4, Lp.q_sl1, Lp.q_sl2, Lp.q_sl3, Lp.q_k1, Lp.q_k2, List.getElem?_cons_zero, List.getElem?_cons_succ, Option.some.injEq, Prod.mk.injEq, D.bl.injEq, D.lst.injEq, true_and, and_true, exists_eq_left', exists_eq_left, List.set_cons_zero, List.set_cons_succ, List.length_map, false_and, reduceCtorEq, exists_false, exists_const, Int.toNat_natCast, Bool.not_true, Bool.not_false, decide_true, decide_false, Lp.len_ls]
    refine if_p (fun h => no _ rfl fun z => by have := z.2.2.1 c (List.mem_of_getElem? hc); omega) fun h3 => ⟨_, at_i, ?_⟩
    try simp only [Lp.wpSs, Lp.wpS, Lp.wpE, Lp.wpEs, Lp.wpSrc, Lp.wpH, Lp.bindT, Lp.bindTs, Lp.wipeE, Lp.q_ix1, Lp.q_ix2, Lp.q_ix3, Lp.q_ix4, Lp.q_lt, Lp.q_le, Lp.q_gt, Lp.q_ge, Lp.q_slt, Lp.q_sle, Lp.q_sgt, Lp.q_sge, Lp.q_in1, Lp.q_ni1, Lp.q_in2, Lp.q_ni2, Lp.q_in3, Lp.q_ni3, Lp.q_in4, Lp.q_ni4, Lp.q_in5, Lp.q_ni5, Lp.q_eqi, Lp.q_nei, Lp.q_addi, Lp.q_adds, Lp.q_addl, Lp.q_addt, Lp.q_subi, Lp.q_muli, Lp.q_muls, Lp.q_mull, Lp.q_fdiv, Lp.q_mod, Lp.q_pow, Lp.q_len1, Lp.q_len2, Lp.q_len3, Lp.q_len4, Lp.q_len5, Lp.q_int1, Lp.q_int2, Lp.q_abs, Lp.q_min, Lp.q_max, Lp.q_list1, Lp.q_list2, Lp.q_list3, Lp.q_tuple1, Lp.q_tuple2, Lp.q_sorted, Lp.q_sum, Lp.q_it1, Lp.q_it2, Lp.q_it3, Lp.q_it4, Lp.q_sl1, Lp.q_sl2, Lp.q_sl3, Lp.q_k1, Lp.q_k2, List.getElem?_cons_zero, List.getElem?_cons_succ, Option.some.injEq, Prod.mk.injEq, D.bl.injEq, D.lst.injEq, true_and, and_true, exists_eq_left', exists_eq_left, List.set_cons_zero, List.set_cons_succ, List.length_map, false_and, reduceCtorEq, exists_false, exists_const, Int.toNat_natCast, Bool.not_true, Bool.not_false, decide_true, decide_false, Lp.len_ls]
    refine if_p (fun h => no _ rfl fun z => by have := z.2.2.1 c (List.mem_of_getElem? hc); omega) fun h4 => ?_
    have step : (∀ k d, k + 1 = i → bag[k]? = some d → d ≤ c) → K [some (false, .int w), some (false, .tup (bag.map .int)), some (false, D.int (i : Nat))] := fun hd => hK _ ⟨⟨_, rfl⟩, fun j x hj e => (by
      by_cases q : j = i
      · subst q; rw [hc] at e; cases e; omega
      · exact h1 j x (by omega) e), fun j x y hj e1 e2 => (by
      by_cases q : j + 1 = i
      · rw [q, hc] at e2; cases e2; exact hd j x q e1
      · exact h2 j x y (by omega) e1 e2)⟩
    refine if_p (fun h0 => ?_) fun h0 => step fun k d hk => by omega
    obtain ⟨c', hc'⟩ : ∃ c', bag[i - 1]? = some c' := ⟨_, List.getElem?_eq_getElem (by omega)⟩
    refine ⟨_, at_map D.int (at_int (by omega) (by rw [show ((i : Int) - 1).toNat = i - 1 by omega]; exact hc')), _, at_i, ?_⟩
    try simp only [Lp.wpSs, Lp.wpS, Lp.wpE, Lp.wpEs, Lp.wpSrc, Lp.wpH, Lp.bindT, Lp.bindTs, Lp.wipeE, Lp.q_ix1, Lp.q_ix2, Lp.q_ix3, Lp.q_ix4, Lp.q_lt, Lp.q_le, Lp.q_gt, Lp.q_ge, Lp.q_slt, Lp.q_sle, Lp.q_sgt, Lp.q_sge, Lp.q_in1, Lp.q_ni1, Lp.q_in2, Lp.q_ni2, Lp.q_in3, Lp.q_ni3, Lp.q_in4, Lp.q_ni4, Lp.q_in5, Lp.q_ni5, Lp.q_eqi, Lp.q_nei, Lp.q_addi, Lp.q_adds, Lp.q_addl, Lp.q_addt, Lp.q_subi, Lp.q_muli, Lp.q_muls, Lp.q_mull, Lp.q_fdiv, Lp.q_mod, Lp.q_pow, Lp.q_len1, Lp.q_len2, Lp.q_len3, Lp.q_len4, Lp.q_len5, Lp.q_int1, Lp.q_int2, Lp.q_abs, Lp.q_min, Lp.q_max, Lp.q_list1, Lp.q_list2, Lp.q_list3, Lp.q_tuple1, Lp.q_tuple2, Lp.q_sorted, Lp.q_sum, Lp.q_it1, Lp.q_it2, Lp.q_it3, Lp.q_it4, Lp.q_sl1, Lp.q_sl2, Lp.q_sl3, Lp.q_k1, Lp.q_k2, List.getElem?_cons_zero, List.getElem?_cons_succ, Option.some.injEq, Prod.mk.injEq, D.bl.injEq, D.lst.injEq, true_and, and_true, exists_eq_left', exists_eq_left, List.set_cons_zero, List.set_cons_succ, List.length_map, false_and, reduceCtorEq, exists_false, exists_const, Int.toNat_natCast, Bool.not_true, Bool.not_false, decide_true, decide_false, Lp.len_ls]
    refine if_p (fun h5 => no _ rfl fun z => ?_) fun h5 => step fun k d hk e => by rw [show i - 1 = k by omega, e] at hc'; cases hc'; omega
    have := z.2.2.2 (i - 1) c' c hc' (by rw [show i - 1 + 1 = i by omega]; exact hc)
    omega
  · refine hq _ ⟨true, rfl, ⟨fun _ => ⟨by show 1 ≤ bag.length; omega, by show bag.length ≤ 6; omega, fun c hc => ?_, fun i x y e1 e2 => hI.2.2 i x y (by have := (List.getElem?_eq_some_iff.mp e2).1; exact this) e1 e2⟩, fun _ => rfl⟩⟩
    obtain ⟨i, hi⟩ := List.getElem?_of_mem hc
    exact hI.2.1 i c (List.getElem?_eq_some_iff.mp hi).1 hi
/-! row_of -/
def rowOf (r : Str) (bag : List Int) : Str := sm (bag.map fun q => (ls r).getD q.toNat 0)
def c_row_of : Ct := ctF (fun p : Str × List Int => [.str p.1, .tup (p.2.map .int)]) (fun p => (ls p.1).length ≤ 1000 ∧ p.2.length ≤ 1000 ∧ ∀ q ∈ p.2, 0 ≤ q ∧ q < (ls p.1).length) fun p => .str (rowOf p.1 p.2)
theorem join_row {r : Str} {bag : List Int} : Txt.join (Str.ofString "") (bag.map fun q => (⟨#[(ls r).getD q.toNat 0]⟩ : Str)) = rowOf r bag := by
  rw [show (Str.ofString "") = (⟨#[]⟩ : Str) by decide +kernel, join_nil, List.map_map]
  unfold rowOf
  congr 1
  induction bag with
  | nil => rfl
  | cons q t ih => rw [List.map_cons, List.map_cons, List.flatten_cons, ih]; rfl
theorem row_len {r : Str} {bag : List Int} : (List.map (fun x => (ls x).length) (bag.map fun q => (⟨#[(ls r).getD q.toNat 0]⟩ : Str))).sum = bag.length := by
  induction bag with
  | nil => rfl
  | cons q t ih => rw [List.map_cons, List.map_cons, List.sum_cons, ih, List.length_cons]; show 1 + t.length = t.length + 1; omega
/-- the step of [rule[q] for q in bag] -/
theorem at_row {r : Str} {q : Int} (h : 0 ≤ q ∧ q < (ls r).length) : atI (ls r) q = some ((ls r).getD q.toNat 0) := at_int h.1 (by rw [List.getD_eq_getElem?_getD, List.getElem?_eq_getElem (by omega)]; rfl)
theorem r_row_of {T : Tab} : ∀ ds Q X, c_row_of.run ds Q X → wpSs T b_row_of (env0 N_row_of ds) { nx := fun _ => Q .non, rt := Q, bk := fun _ => False, ct := fun _ => False, ex := fun _ => X } := by
  rintro ds Q X ⟨⟨r, bag⟩, rfl, ⟨p1, p2, p3⟩, hq⟩
  have p1 : (ls r).length ≤ 1000 := p1
  have p2 : bag.length ≤ 1000 := p2
  show wpSs T b_row_of [some (false, .str r), some (false, .tup (bag.map .int)), none] _
  unfold b_row_of
  try simp only [Lp.wpSs, Lp.wpS, Lp.wpE, Lp.wpEs, Lp.wpSrc, Lp.wpH, Lp.bindT, Lp.bindTs, Lp.wipeE, Lp.q_ix1, Lp.q_ix2, Lp.q_ix3, Lp.q_ix4, Lp.q_lt, Lp.q_le, Lp.q_gt, Lp.q_ge, Lp.q_slt, Lp.q_sle, Lp.q_sgt, Lp.q_sge, Lp.q_in1, Lp.q_ni1, Lp.q_in2, Lp.q_ni2, Lp.q_in3, Lp.q_ni3, Lp.q_in4, Lp.q_ni4, Lp.q_in5, Lp.q_ni5, Lp.q_eqi, Lp.q_nei, Lp.q_addi, Lp.q_adds, Lp.q_addl, Lp.q_addt, Lp.q_subi, Lp.q_muli, Lp.q_muls, Lp.q_mull, Lp.q_fdiv, Lp.q_mod, Lp.q_pow, Lp.q_len1, Lp.q_len2, Lp.q_len3, Lp.q_len4, Lp.q_len5, Lp.q_int1, Lp.q_int2, Lp.q_abs, Lp.q_min, Lp.q_max, Lp.q_list1, Lp.q_list2, Lp.q_list3, Lp.q_tuple1, Lp.q_tuple2, Lp.q_sorted, Lp.q_sum, Lp.q_it1, Lp.q_it2, Lp.q_it3, Lp.q_it4, Lp.q_sl1, Lp.q_sl2, Lp.q_sl3, Lp.q_k1, Lp.q_k2, List.getElem?_cons_zero, List.getElem?_cons_succ, Option.some.injEq, Prod.mk.injEq, D.bl.injEq, D.lst.injEq, true_and, and_true, exists_eq_left', exists_eq_left, List.set_cons_zero, List.set_cons_succ, List.length_map, false_and, reduceCtorEq, exists_false, exists_const, Int.toNat_natCast, Bool.not_true, Bool.not_false, decide_true, decide_false, Lp.len_ls]
  refine lc_all (fun q => D.str ⟨#[(ls r).getD q.toNat 0]⟩) D.int (by rw [szl]; omega) (fun q hq acc K ha hK => ?_) ⟨bag.map fun q => ⟨#[(ls r).getD q.toNat 0]⟩, .inl (by rw [List.map_map]; rfl), ?_, ?_⟩
  · try simp only [Lp.wpSs, Lp.wpS, Lp.wpE, Lp.wpEs, Lp.wpSrc, Lp.wpH, Lp.bindT, Lp.bindTs, Lp.wipeE, Lp.q_ix1, Lp.q_ix2, Lp.q_ix3, Lp.q_ix4, Lp.q_lt, Lp.q_le, Lp.q_gt, Lp.q_ge, Lp.q_slt, Lp.q_sle, Lp.q_sgt, Lp.q_sge, Lp.q_in1, Lp.q_ni1, Lp.q_in2, Lp.q_ni2, Lp.q_in3, Lp.q_ni3, Lp.q_in4, Lp.q_ni4, Lp.q_in5, Lp.q_ni5, Lp.q_eqi, Lp.q_nei, Lp.q_addi, Lp.q_adds, Lp.q_addl, Lp.q_addt, Lp.q_subi, Lp.q_muli, Lp.q_muls, Lp.q_mull, Lp.q_fdiv, Lp.q_mod, Lp.q_pow, Lp.q_len1, Lp.q_len2, Lp.q_len3, Lp.q_len4, Lp.q_len5, Lp.q_int1, Lp.q_int2, Lp.q_abs, Lp.q_min, Lp.q_max, Lp.q_list1, Lp.q_list2, Lp.q_list3, Lp.q_tuple1, Lp.q_tuple2, Lp.q_sorted, Lp.q_sum, Lp.q_it1, Lp.q_it2, Lp.q_it3, Lp.q_it4, Lp.q_sl1, Lp.q_sl2, Lp.q_sl3, Lp.q_k1, Lp.q_k2, List.getElem?_cons_zero, List.getElem?_cons_succ, Option.some.injEq, Prod.mk.injEq, D.bl.injEq, D.lst.injEq, true_and, and_true, exists_eq_left', exists_eq_left, List.set_cons_zero, List.set_cons_succ, List.length_map, false_and, reduceCtorEq, exists_false, exists_const, Int.toNat_natCast, Bool.not_true, Bool.not_false, decide_true, decide_false, Lp.len_ls]
    exact ⟨_, by rw [szl]; omega, at_row (p3 q hq), ha, hK⟩
  · rw [row_len, show (ls (Str.ofString "")).length = 0 by decide +kernel]; omega
  · rw [join_row]; exact hq
end K9
namespace K9
open PySem L2 Lp
/-- the constants of the table -/
structure Cs (T : Tab) : Prop where
  rules : T.glb "MOST_RULES" = some 32
  width : T.glb "MOST_WIDTH" = some 6
  places : T.glb "MOST_PLACES" = some 6
  rows : T.glb "MOST_ROWS" = some 32
  kA : T.fld "RuleClass" "answers" = true
  kW : T.fld "RuleClass" "width" = true
  kR : T.fld "RuleClass" "rules" = true
  wA : T.fld "Web" "answers" = true
  wP : T.fld "Web" "places" = true
  wR : T.fld "Web" "rows" = true
  wK : T.fld "Web" "knots" = true
  bag : T.exc "BadBag" = some [("bag" : Str)]
  sb : T.isx "BadBag" "BadBag" = some true
  ss : T.isx "BadBag" "SchoolError" = some true
  xb : T.xfl "BadBag" "bag" = true
/-! RuleClass -/
def kf (a : Str) (w : Int) (rs : List Str) : List (Str × D) := [("answers", .str a), ("width", .int w), ("rules", .tup (rs.map .str))]
def klass (a : Str) (w : Int) (rs : List Str) : D := .ins "RuleClass" (kf a w rs)
theorem kf_a {a : Str} {w : Int} {rs : List Str} : (kf a w rs).lookup ("answers" : Str) = some (.str a) := by first | rfl | simp [kf]
theorem kf_w {a : Str} {w : Int} {rs : List Str} : (kf a w rs).lookup ("width" : Str) = some (.int w) := by first | rfl | simp [kf]
theorem kf_r {a : Str} {w : Int} {rs : List Str} : (kf a w rs).lookup ("rules" : Str) = some (.tup (rs.map .str)) := by first | rfl | simp [kf]
theorem kf_put {a : Str} {w : Int} {rs : List Str} : putFD "rules" (.tup (rs.map .str)) (putFD "width" (.int w) (putFD "answers" (.str a) [])) = kf a w rs := by rfl
structure ClsOk (p : Str × Int × List Str) : Prop where
  ans : ansOk p.1
  w1 : 1 ≤ p.2.1
  w6 : p.2.1 ≤ 6
  ne : p.2.2 ≠ []
  row : ∀ r ∈ p.2.2, rowOk p.1 p.2.1 r
  few : (dd p.2.2).length ≤ 32
def c_RuleClass : Ct := ctF (fun p : Str × Int × List Str => [.str p.1, .int p.2.1, .tup (p.2.2.map .str)]) (fun p => ClsOk p ∧ p.2.2.length ≤ 1000) fun p => klass p.1 p.2.1 (uniq p.2.2)
theorem r_RuleClass {T : Tab} (t : Cs T) (h1 : T.fn "is_answers" = some c_is_answers) (h2 : T.fn "is_row" = some c_is_row) (h3 : T.fn "different" = some c_different) :
    ∀ ds Q X, c_RuleClass.run ds Q X → wpSs T b_RuleClass___init__ ((env0 N_RuleClass___init__ (.non :: ds)).set 0 (some (true, .ins "RuleClass" []))) { nx := fun env => ∃ d, env[0]? = some (some (true, d)) ∧ Q d, rt := fun _ => False, bk := fun _ => False, ct := fun _ => False, ex := fun env y => (∃ d, env[0]? = some (some (true, d))) ∧ X y } := by
  rintro ds Q X ⟨⟨a, w, rs⟩, rfl, ⟨ok, lr⟩, hq⟩
  have lr : rs.length ≤ 1000 := lr
  have hq : Q (klass a w (uniq rs)) := hq
  have la : (ls a).length ≤ 1000 := by have : (ls a).length ≤ 4 := ok.ans.2.1; omega
  have w1 : 1 ≤ w := ok.w1
  have w6 : w ≤ 6 := ok.w6
  have ne : rs.length ≠ 0 := fun e => ok.ne (List.length_eq_zero_iff.mp e)
  show wpSs T b_RuleClass___init__ [some (true, .ins "RuleClass" []), some (false, .str a), some (false, .int w), some (false, .tup (rs.map .str)), none, none] _
  unfold b_RuleClass___init__
  try simp only [Lp.wpSs, Lp.wpS, Lp.wpE, Lp.wpEs, Lp.wpSrc, Lp.wpH, Lp.bindT, Lp.bindTs, Lp.wipeE, Lp.q_ix1, Lp.q_ix2, Lp.q_ix3, Lp.q_ix4, Lp.q_lt, Lp.q_le, Lp.q_gt, Lp.q_ge, Lp.q_slt, Lp.q_sle, Lp.q_sgt, Lp.q_sge, Lp.q_in1, Lp.q_ni1, Lp.q_in2, Lp.q_ni2, Lp.q_in3, Lp.q_ni3, Lp.q_in4, Lp.q_ni4, Lp.q_in5, Lp.q_ni5, Lp.q_eqi, Lp.q_nei, Lp.q_addi, Lp.q_adds, Lp.q_addl, Lp.q_addt, Lp.q_subi, Lp.q_muli, Lp.q_muls, Lp.q_mull, Lp.q_fdiv, Lp.q_mod, Lp.q_pow, Lp.q_len1, Lp.q_len2, Lp.q_len3, Lp.q_len4, Lp.q_len5, Lp.q_int1, Lp.q_int2, Lp.q_abs, Lp.q_min, Lp.q_max, Lp.q_list1, Lp.q_list2, Lp.q_list3, Lp.q_tuple1, Lp.q_tuple2, Lp.q_sorted, Lp.q_sum, Lp.q_it1, Lp.q_it2, Lp.q_it3, Lp.q_it4, Lp.q_sl1, Lp.q_sl2, Lp.q_sl3, Lp.q_k1, Lp.q_k2, List.getElem?_cons_zero, List.getElem?_cons_succ, Option.some.injEq, Prod.mk.injEq, D.bl.injEq, D.lst.injEq, true_and, and_true, exists_eq_left', exists_eq_left, List.set_cons_zero, List.set_cons_succ, List.length_map, false_and, reduceCtorEq, exists_false, exists_const, Int.toNat_natCast, Bool.not_true, Bool.not_false, decide_true, decide_false, Lp.len_ls, h1, t.width, t.rules]
  refine ct_run a rfl la (fun d hd => ?_) (fun x hx => hx.elim)
  obtain ⟨b, rfl, hb⟩ := hd
  obtain rfl : b = true := hb.mpr ok.ans
  try simp only [Lp.wpSs, Lp.wpS, Lp.wpE, Lp.wpEs, Lp.wpSrc, Lp.wpH, Lp.bindT, Lp.bindTs, Lp.wipeE, Lp.q_ix1, Lp.q_ix2, Lp.q_ix3, Lp.q_ix4, Lp.q_lt, Lp.q_le, Lp.q_gt, Lp.q_ge, Lp.q_slt, Lp.q_sle, Lp.q_sgt, Lp.q_sge, Lp.q_in1, Lp.q_ni1, Lp.q_in2, Lp.q_ni2, Lp.q_in3, Lp.q_ni3, Lp.q_in4, Lp.q_ni4, Lp.q_in5, Lp.q_ni5, Lp.q_eqi, Lp.q_nei, Lp.q_addi, Lp.q_adds, Lp.q_addl, Lp.q_addt, Lp.q_subi, Lp.q_muli, Lp.q_muls, Lp.q_mull, Lp.q_fdiv, Lp.q_mod, Lp.q_pow, Lp.q_len1, Lp.q_len2, Lp.q_len3, Lp.q_len4, Lp.q_len5, Lp.q_int1, Lp.q_int2, Lp.q_abs, Lp.q_min, Lp.q_max, Lp.q_list1, Lp.q_list2, Lp.q_list3, Lp.q_tuple1, Lp.q_tuple2, Lp.q_sorted, Lp.q_sum, Lp.q_it1, Lp.q_it2, Lp.q_it3, Lp.q_it4, Lp.q_sl1, Lp.q_sl2, Lp.q_sl3, Lp.q_k1, Lp.q_k2, List.getElem?_cons_zero, List.getElem?_cons_succ, Option.some.injEq, Prod.mk.injEq, D.bl.injEq, D.lst.injEq, true_and, and_true, exists_eq_left', exists_eq_left, List.set_cons_zero, List.set_cons_succ, List.length_map, false_and, reduceCtorEq, exists_false, exists_const, Int.toNat_natCast, Bool.not_true, Bool.not_false, decide_true, decide_false, Lp.len_ls]
  refine if_p (fun h => by omega) fun h => if_p (fun h => by omega) fun h => if_p (fun h => by omega) fun h => ⟨by omega, ?_⟩
  refine wpFor_range (fun i env => ∃ v, env = [some (true, .ins "RuleClass" []), some (false, .str a), some (false, .int w), some (false, .tup (rs.map .str)), v, none]) ⟨_, rfl⟩ (fun i hi env K hI hK => ?_) fun env hI => ?_
  · obtain ⟨v, rfl⟩ := hI
    obtain ⟨r, hr⟩ : ∃ c, rs[i]? = some c := ⟨_, List.getElem?_eq_getElem hi⟩
    have hm := List.mem_of_getElem? hr
    have okr : rowOk a w r := ok.row r hm
    have at_i := at_map D.str (at_nat hr)
    try simp only [Lp.wpSs, Lp.wpS, Lp.wpE, Lp.wpEs, Lp.wpSrc, Lp.wpH, Lp.bindT, Lp.bindTs, Lp.wipeE, Lp.q_ix1, Lp.q_ix2, Lp.q_ix3, Lp.q_ix4, Lp.q_lt, Lp.q_le, Lp.q_gt, Lp.q_ge, Lp.q_slt, Lp.q_sle, Lp.q_sgt, Lp.q_sge, Lp.q_in1, Lp.q_ni1, Lp.q_in2, Lp.q_ni2, Lp.q_in3, Lp.q_ni3, Lp.q_in4, Lp.q_ni4, Lp.q_in5, Lp.q_ni5, Lp.q_eqi, Lp.q_nei, Lp.q_addi, Lp.q_adds, Lp.q_addl, Lp.q_addt, Lp.q_subi, Lp.q_muli, Lp.q_muls, Lp.q_mull, Lp.q_fdiv, Lp.q_mod, Lp.q_pow, Lp.q_len1, Lp.q_len2, Lp.q_len3, Lp.q_len4, Lp.q_len5, Lp.q_int1, Lp.q_int2, Lp.q_abs, Lp.q_min, Lp.q_max, Lp.q_list1, Lp.q_list2, Lp.q_list3, Lp.q_tuple1, Lp.q_tuple2, Lp.q_sorted, Lp.q_sum, Lp.q_it1, Lp.q_it2, Lp.q_it3, Lp.q_it4, Lp.q_sl1, Lp.q_sl2, Lp.q_sl3, Lp.q_k1, Lp.q_k2, List.getElem?_cons_zero, List.getElem?_cons_succ, Option.some.injEq, Prod.mk.injEq, D.bl.injEq, D.lst.injEq, true_and, and_true, exists_eq_left', exists_eq_left, List.set_cons_zero, List.set_cons_succ, List.length_map, false_and, reduceCtorEq, exists_false, exists_const, Int.toNat_natCast, Bool.not_true, Bool.not_false, decide_true, decide_false, Lp.len_ls, h2]
    refine ⟨_, at_i, ct_run (a, w, r) rfl ⟨la, ?_⟩ (fun d hd => ?_) (fun x hx => hx.elim)⟩
    · show (ls r).length ≤ 1000
      have : ((ls r).length : Int) = w := okr.1
      omega
    obtain ⟨b, rfl, hb⟩ := hd
    obtain rfl : b = true := hb.mpr okr
    try simp only [Lp.wpSs, Lp.wpS, Lp.wpE, Lp.wpEs, Lp.wpSrc, Lp.wpH, Lp.bindT, Lp.bindTs, Lp.wipeE, Lp.q_ix1, Lp.q_ix2, Lp.q_ix3, Lp.q_ix4, Lp.q_lt, Lp.q_le, Lp.q_gt, Lp.q_ge, Lp.q_slt, Lp.q_sle, Lp.q_sgt, Lp.q_sge, Lp.q_in1, Lp.q_ni1, Lp.q_in2, Lp.q_ni2, Lp.q_in3, Lp.q_ni3, Lp.q_in4, Lp.q_ni4, Lp.q_in5, Lp.q_ni5, Lp.q_eqi, Lp.q_nei, Lp.q_addi, Lp.q_adds, Lp.q_addl, Lp.q_addt, Lp.q_subi, Lp.q_muli, Lp.q_muls, Lp.q_mull, Lp.q_fdiv, Lp.q_mod, Lp.q_pow, Lp.q_len1, Lp.q_len2, Lp.q_len3, Lp.q_len4, Lp.q_len5, Lp.q_int1, Lp.q_int2, Lp.q_abs, Lp.q_min, Lp.q_max, Lp.q_list1, Lp.q_list2, Lp.q_list3, Lp.q_tuple1, Lp.q_tuple2, Lp.q_sorted, Lp.q_sum, Lp.q_it1, Lp.q_it2, Lp.q_it3, Lp.q_it4, Lp.q_sl1, Lp.q_sl2, Lp.q_sl3, Lp.q_k1, Lp.q_k2, List.getElem?_cons_zero, List.getElem?_cons_succ, Option.some.injEq, Prod.mk.injEq, D.bl.injEq, D.lst.injEq, true_and, and_true, exists_eq_left', exists_eq_left, List.set_cons_zero, List.set_cons_succ, List.length_map, false_and, reduceCtorEq, exists_false, exists_const, Int.toNat_natCast, Bool.not_true, Bool.not_false, decide_true, decide_false, Lp.len_ls]
    exact hK _ ⟨_, rfl⟩
  · obtain ⟨v, rfl⟩ := hI
    try simp only [Lp.wpSs, Lp.wpS, Lp.wpE, Lp.wpEs, Lp.wpSrc, Lp.wpH, Lp.bindT, Lp.bindTs, Lp.wipeE, Lp.q_ix1, Lp.q_ix2, Lp.q_ix3, Lp.q_ix4, Lp.q_lt, Lp.q_le, Lp.q_gt, Lp.q_ge, Lp.q_slt, Lp.q_sle, Lp.q_sgt, Lp.q_sge, Lp.q_in1, Lp.q_ni1, Lp.q_in2, Lp.q_ni2, Lp.q_in3, Lp.q_ni3, Lp.q_in4, Lp.q_ni4, Lp.q_in5, Lp.q_ni5, Lp.q_eqi, Lp.q_nei, Lp.q_addi, Lp.q_adds, Lp.q_addl, Lp.q_addt, Lp.q_subi, Lp.q_muli, Lp.q_muls, Lp.q_mull, Lp.q_fdiv, Lp.q_mod, Lp.q_pow, Lp.q_len1, Lp.q_len2, Lp.q_len3, Lp.q_len4, Lp.q_len5, Lp.q_int1, Lp.q_int2, Lp.q_abs, Lp.q_min, Lp.q_max, Lp.q_list1, Lp.q_list2, Lp.q_list3, Lp.q_tuple1, Lp.q_tuple2, Lp.q_sorted, Lp.q_sum, Lp.q_it1, Lp.q_it2, Lp.q_it3, Lp.q_it4, Lp.q_sl1, Lp.q_sl2, Lp.q_sl3, Lp.q_k1, Lp.q_k2, List.getElem?_cons_zero, List.getElem?_cons_succ, Option.some.injEq, Prod.mk.injEq, D.bl.injEq, D.lst.injEq, true_and, and_true, exists_eq_left', exists_eq_left, List.set_cons_zero, List.set_cons_succ, List.length_map, false_and, reduceCtorEq, exists_false, exists_const, Int.toNat_natCast, Bool.not_true, Bool.not_false, decide_true, decide_false, Lp.len_ls, h3]
    refine ctF_run (false, rs) rfl (by have : (dd rs).length ≤ 32 := ok.few; show (dd rs).length < 64; omega) ?_
    try simp only [Lp.wpSs, Lp.wpS, Lp.wpE, Lp.wpEs, Lp.wpSrc, Lp.wpH, Lp.bindT, Lp.bindTs, Lp.wipeE, Lp.q_ix1, Lp.q_ix2, Lp.q_ix3, Lp.q_ix4, Lp.q_lt, Lp.q_le, Lp.q_gt, Lp.q_ge, Lp.q_slt, Lp.q_sle, Lp.q_sgt, Lp.q_sge, Lp.q_in1, Lp.q_ni1, Lp.q_in2, Lp.q_ni2, Lp.q_in3, Lp.q_ni3, Lp.q_in4, Lp.q_ni4, Lp.q_in5, Lp.q_ni5, Lp.q_eqi, Lp.q_nei, Lp.q_addi, Lp.q_adds, Lp.q_addl, Lp.q_addt, Lp.q_subi, Lp.q_muli, Lp.q_muls, Lp.q_mull, Lp.q_fdiv, Lp.q_mod, Lp.q_pow, Lp.q_len1, Lp.q_len2, Lp.q_len3, Lp.q_len4, Lp.q_len5, Lp.q_int1, Lp.q_int2, Lp.q_abs, Lp.q_min, Lp.q_max, Lp.q_list1, Lp.q_list2, Lp.q_list3, Lp.q_tuple1, Lp.q_tuple2, Lp.q_sorted, Lp.q_sum, Lp.q_it1, Lp.q_it2, Lp.q_it3, Lp.q_it4, Lp.q_sl1, Lp.q_sl2, Lp.q_sl3, Lp.q_k1, Lp.q_k2, List.getElem?_cons_zero, List.getElem?_cons_succ, Option.some.injEq, Prod.mk.injEq, D.bl.injEq, D.lst.injEq, true_and, and_true, exists_eq_left', exists_eq_left, List.set_cons_zero, List.set_cons_succ, List.length_map, false_and, reduceCtorEq, exists_false, exists_const, Int.toNat_natCast, Bool.not_true, Bool.not_false, decide_true, decide_false, Lp.len_ls, t.rules]
    refine if_p (fun h => ?_) fun h => ?_
    · rw [uniq_len] at h
      have : (dd rs).length ≤ 32 := ok.few
      omega
    refine ⟨_, _, t.kA, rfl, by decide, ?_⟩
    try try simp only [Lp.wpSs, Lp.wpS, Lp.wpE, Lp.wpEs, Lp.wpSrc, Lp.wpH, Lp.bindT, Lp.bindTs, Lp.wipeE, Lp.q_ix1, Lp.q_ix2, Lp.q_ix3, Lp.q_ix4, Lp.q_lt, Lp.q_le, Lp.q_gt, Lp.q_ge, Lp.q_slt, Lp.q_sle, Lp.q_sgt, Lp.q_sge, Lp.q_in1, Lp.q_ni1, Lp.q_in2, Lp.q_ni2, Lp.q_in3, Lp.q_ni3, Lp.q_in4, Lp.q_ni4, Lp.q_in5, Lp.q_ni5, Lp.q_eqi, Lp.q_nei, Lp.q_addi, Lp.q_adds, Lp.q_addl, Lp.q_addt, Lp.q_subi, Lp.q_muli, Lp.q_muls, Lp.q_mull, Lp.q_fdiv, Lp.q_mod, Lp.q_pow, Lp.q_len1, Lp.q_len2, Lp.q_len3, Lp.q_len4, Lp.q_len5, Lp.q_int1, Lp.q_int2, Lp.q_abs, Lp.q_min, Lp.q_max, Lp.q_list1, Lp.q_list2, Lp.q_list3, Lp.q_tuple1, Lp.q_tuple2, Lp.q_sorted, Lp.q_sum, Lp.q_it1, Lp.q_it2, Lp.q_it3, Lp.q_it4, Lp.q_sl1, Lp.q_sl2, Lp.q_sl3, Lp.q_k1, Lp.q_k2, List.getElem?_cons_zero, List.getElem?_cons_succ, Option.some.injEq, Prod.mk.injEq, D.bl.injEq, D.lst.injEq, true_and, and_true, exists_eq_left', exists_eq_left, List.set_cons_zero, List.set_cons_succ, List.length_map, false_and, reduceCtorEq, exists_false, exists_const, Int.toNat_natCast, Bool.not_true, Bool.not_false, decide_true, decide_false, Lp.len_ls]
    refine ⟨_, _, t.kW, rfl, putFD_lt (n := 899) (by decide), ?_⟩
    try try simp only [Lp.wpSs, Lp.wpS, Lp.wpE, Lp.wpEs, Lp.wpSrc, Lp.wpH, Lp.bindT, Lp.bindTs, Lp.wipeE, Lp.q_ix1, Lp.q_ix2, Lp.q_ix3, Lp.q_ix4, Lp.q_lt, Lp.q_le, Lp.q_gt, Lp.q_ge, Lp.q_slt, Lp.q_sle, Lp.q_sgt, Lp.q_sge, Lp.q_in1, Lp.q_ni1, Lp.q_in2, Lp.q_ni2, Lp.q_in3, Lp.q_ni3, Lp.q_in4, Lp.q_ni4, Lp.q_in5, Lp.q_ni5, Lp.q_eqi, Lp.q_nei, Lp.q_addi, Lp.q_adds, Lp.q_addl, Lp.q_addt, Lp.q_subi, Lp.q_muli, Lp.q_muls, Lp.q_mull, Lp.q_fdiv, Lp.q_mod, Lp.q_pow, Lp.q_len1, Lp.q_len2, Lp.q_len3, Lp.q_len4, Lp.q_len5, Lp.q_int1, Lp.q_int2, Lp.q_abs, Lp.q_min, Lp.q_max, Lp.q_list1, Lp.q_list2, Lp.q_list3, Lp.q_tuple1, Lp.q_tuple2, Lp.q_sorted, Lp.q_sum, Lp.q_it1, Lp.q_it2, Lp.q_it3, Lp.q_it4, Lp.q_sl1, Lp.q_sl2, Lp.q_sl3, Lp.q_k1, Lp.q_k2, List.getElem?_cons_zero, List.getElem?_cons_succ, Option.some.injEq, Prod.mk.injEq, D.bl.injEq, D.lst.injEq, true_and, and_true, exists_eq_left', exists_eq_left, List.set_cons_zero, List.set_cons_succ, List.length_map, false_and, reduceCtorEq, exists_false, exists_const, Int.toNat_natCast, Bool.not_true, Bool.not_false, decide_true, decide_false, Lp.len_ls]
    refine ⟨_, _, t.kR, rfl, putFD_lt (n := 899) (putFD_lt (n := 898) (by decide)), ?_⟩
    try try simp only [Lp.wpSs, Lp.wpS, Lp.wpE, Lp.wpEs, Lp.wpSrc, Lp.wpH, Lp.bindT, Lp.bindTs, Lp.wipeE, Lp.q_ix1, Lp.q_ix2, Lp.q_ix3, Lp.q_ix4, Lp.q_lt, Lp.q_le, Lp.q_gt, Lp.q_ge, Lp.q_slt, Lp.q_sle, Lp.q_sgt, Lp.q_sge, Lp.q_in1, Lp.q_ni1, Lp.q_in2, Lp.q_ni2, Lp.q_in3, Lp.q_ni3, Lp.q_in4, Lp.q_ni4, Lp.q_in5, Lp.q_ni5, Lp.q_eqi, Lp.q_nei, Lp.q_addi, Lp.q_adds, Lp.q_addl, Lp.q_addt, Lp.q_subi, Lp.q_muli, Lp.q_muls, Lp.q_mull, Lp.q_fdiv, Lp.q_mod, Lp.q_pow, Lp.q_len1, Lp.q_len2, Lp.q_len3, Lp.q_len4, Lp.q_len5, Lp.q_int1, Lp.q_int2, Lp.q_abs, Lp.q_min, Lp.q_max, Lp.q_list1, Lp.q_list2, Lp.q_list3, Lp.q_tuple1, Lp.q_tuple2, Lp.q_sorted, Lp.q_sum, Lp.q_it1, Lp.q_it2, Lp.q_it3, Lp.q_it4, Lp.q_sl1, Lp.q_sl2, Lp.q_sl3, Lp.q_k1, Lp.q_k2, List.getElem?_cons_zero, List.getElem?_cons_succ, Option.some.injEq, Prod.mk.injEq, D.bl.injEq, D.lst.injEq, true_and, and_true, exists_eq_left', exists_eq_left, List.set_cons_zero, List.set_cons_succ, List.length_map, false_and, reduceCtorEq, exists_false, exists_const, Int.toNat_natCast, Bool.not_true, Bool.not_false, decide_true, decide_false, Lp.len_ls]
    rw [kf_put]; exact hq
end K9
namespace K9
open PySem L2 Lp
structure KOk (p : Str × Int × List Str) : Prop where
  cls : ClsOk p
  len : p.2.2.length ≤ 32
theorem ans_letter {a : Str} (h : ansOk a) : ∀ c ∈ ls a, c < 1114112 := fun c hc => by have := h.2.2.1 c hc; omega
theorem row_letter {a : Str} {n : Int} {r : Str} (h : ansOk a) (o : rowOk a n r) : ∀ c ∈ ls r, c < 1114112 := fun c hc => ans_letter h c (o.2 c hc)
/-- questions that stand in rules -/
def qsOk (w : Int) (qs : List Int) : Prop := 1 ≤ qs.length ∧ qs.length ≤ 6 ∧ ∀ q ∈ qs, 0 ≤ q ∧ q < w
theorem bagOk.qs {w : Int} {bag : List Int} (h : bagOk w bag) : qsOk w bag := ⟨h.1, h.2.1, h.2.2.1⟩
theorem rowOf_ok {a : Str} {w : Int} {r : Str} {qs : List Int} (o : rowOk a w r) (h : qsOk w qs) : rowOk a qs.length (rowOf r qs) := by
  refine ⟨?_, fun c hc => ?_⟩
  · show ((List.map _ qs).length : Int) = _
    rw [List.length_map]
  · obtain ⟨q, hq, rfl⟩ := List.mem_map.mp (show c ∈ List.map _ qs from hc)
    have := h.2.2 q hq
    have hl : ((ls r).length : Int) = w := o.1
    have hi : q.toNat < (ls r).length := by omega
    rw [List.getD_eq_getElem?_getD, List.getElem?_eq_getElem hi]
    exact o.2 _ (List.getElem_mem hi)
theorem row_pre {a : Str} {w : Int} {r : Str} {qs : List Int} (o : rowOk a w r) (w6 : w ≤ 6) (h : qsOk w qs) : (ls r).length ≤ 1000 ∧ qs.length ≤ 1000 ∧ ∀ q ∈ qs, 0 ≤ q ∧ q < ((ls r).length : Int) := by
  have hl : ((ls r).length : Int) = w := o.1
  refine ⟨by omega, by have := h.2.1; omega, fun q hq => ?_⟩
  rw [hl]; exact h.2.2 q hq
def badBag (bag : List Int) : Exn := ⟨"BadBag", [("bag", .tup (bag.map .int))]⟩
def c_rows_seen : Ct := ct (fun p : (Str × Int × List Str) × List Int => [klass p.1.1 p.1.2.1 p.1.2.2, .tup (p.2.map .int)]) (fun p => KOk p.1)
  (fun p d => bagOk p.1.2.1 p.2 ∧ d = .tup ((uniq (p.1.2.2.map fun r => rowOf r p.2)).map .str)) fun p x => ¬ bagOk p.1.2.1 p.2 ∧ x = badBag p.2
theorem r_rows_seen {T : Tab} (t : Cs T) (h1 : T.fn "is_bag" = some c_is_bag) (h2 : T.fn "row_of" = some c_row_of) (h3 : T.fn "different" = some c_different) :
    ∀ ds Q X, c_rows_seen.run ds Q X → wpSs T b_rows_seen (env0 N_rows_seen ds) { nx := fun _ => Q .non, rt := Q, bk := fun _ => False, ct := fun _ => False, ex := fun _ => X } := by
  rintro ds Q X ⟨⟨⟨a, w, rs⟩, bag⟩, rfl, ok, hq, hx⟩
  have ok : KOk (a, w, rs) := ok
  have lr : rs.length ≤ 32 := ok.len
  have w6 : w ≤ 6 := ok.cls.w6
  show wpSs T b_rows_seen [some (false, .ins "RuleClass" (kf a w rs)), some (false, .tup (bag.map .int)), none] _
  unfold b_rows_seen
  try simp only [Lp.wpSs, Lp.wpS, Lp.wpE, Lp.wpEs, Lp.wpSrc, Lp.wpH, Lp.bindT, Lp.bindTs, Lp.wipeE, Lp.q_ix1, Lp.q_ix2, Lp.q_ix3, Lp.q_ix4, Lp.q_lt, Lp.q_le, Lp.q_gt, Lp.q_ge, Lp.q_slt, Lp.q_sle, Lp.q_sgt, Lp.q_sge, Lp.q_in1, Lp.q_ni1, Lp.q_in2, Lp.q_ni2, Lp.q_in3, Lp.q_ni3, Lp.q_in4, Lp.q_ni4, Lp.q_in5, Lp.q_ni5, Lp.q_eqi, Lp.q_nei, Lp.q_addi, Lp.q_adds, Lp.q_addl, Lp.q_addt, Lp.q_subi, Lp.q_muli, Lp.q_muls, Lp.q_mull, Lp.q_fdiv, Lp.q_mod, Lp.q_pow, Lp.q_len1, Lp.q_len2, Lp.q_len3, Lp.q_len4, Lp.q_len5, Lp.q_int1, Lp.q_int2, Lp.q_abs, Lp.q_min, Lp.q_max, Lp.q_list1, Lp.q_list2, Lp.q_list3, Lp.q_tuple1, Lp.q_tuple2, Lp.q_sorted, Lp.q_sum, Lp.q_it1, Lp.q_it2, Lp.q_it3, Lp.q_it4, Lp.q_sl1, Lp.q_sl2, Lp.q_sl3, Lp.q_k1, Lp.q_k2, List.getElem?_cons_zero, List.getElem?_cons_succ, Option.some.injEq, Prod.mk.injEq, D.bl.injEq, D.lst.injEq, true_and, and_true, exists_eq_left', exists_eq_left, List.set_cons_zero, List.set_cons_succ, List.length_map, false_and, reduceCtorEq, exists_false, exists_const, Int.toNat_natCast, Bool.not_true, Bool.not_false, decide_true, decide_false, Lp.len_ls, h1, h3, t.kW, t.kR, t.bag, kf_w, kf_r]
  refine ct_run (w, bag) rfl trivial (fun d hd => ?_) (fun x hx => hx.elim)
  obtain ⟨b, rfl, hb⟩ := hd
  cases b with
  | false =>
    try simp only [Lp.wpSs, Lp.wpS, Lp.wpE, Lp.wpEs, Lp.wpSrc, Lp.wpH, Lp.bindT, Lp.bindTs, Lp.wipeE, Lp.q_ix1, Lp.q_ix2, Lp.q_ix3, Lp.q_ix4, Lp.q_lt, Lp.q_le, Lp.q_gt, Lp.q_ge, Lp.q_slt, Lp.q_sle, Lp.q_sgt, Lp.q_sge, Lp.q_in1, Lp.q_ni1, Lp.q_in2, Lp.q_ni2, Lp.q_in3, Lp.q_ni3, Lp.q_in4, Lp.q_ni4, Lp.q_in5, Lp.q_ni5, Lp.q_eqi, Lp.q_nei, Lp.q_addi, Lp.q_adds, Lp.q_addl, Lp.q_addt, Lp.q_subi, Lp.q_muli, Lp.q_muls, Lp.q_mull, Lp.q_fdiv, Lp.q_mod, Lp.q_pow, Lp.q_len1, Lp.q_len2, Lp.q_len3, Lp.q_len4, Lp.q_len5, Lp.q_int1, Lp.q_int2, Lp.q_abs, Lp.q_min, Lp.q_max, Lp.q_list1, Lp.q_list2, Lp.q_list3, Lp.q_tuple1, Lp.q_tuple2, Lp.q_sorted, Lp.q_sum, Lp.q_it1, Lp.q_it2, Lp.q_it3, Lp.q_it4, Lp.q_sl1, Lp.q_sl2, Lp.q_sl3, Lp.q_k1, Lp.q_k2, List.getElem?_cons_zero, List.getElem?_cons_succ, Option.some.injEq, Prod.mk.injEq, D.bl.injEq, D.lst.injEq, true_and, and_true, exists_eq_left', exists_eq_left, List.set_cons_zero, List.set_cons_succ, List.length_map, false_and, reduceCtorEq, exists_false, exists_const, Int.toNat_natCast, Bool.not_true, Bool.not_false, decide_true, decide_false, Lp.len_ls]
    exact ⟨rfl, hx _ ⟨fun z => Bool.false_ne_true (hb.mpr z), rfl⟩⟩
  | true =>
    have hb : bagOk w bag := hb.mp rfl
    try simp only [Lp.wpSs, Lp.wpS, Lp.wpE, Lp.wpEs, Lp.wpSrc, Lp.wpH, Lp.bindT, Lp.bindTs, Lp.wipeE, Lp.q_ix1, Lp.q_ix2, Lp.q_ix3, Lp.q_ix4, Lp.q_lt, Lp.q_le, Lp.q_gt, Lp.q_ge, Lp.q_slt, Lp.q_sle, Lp.q_sgt, Lp.q_sge, Lp.q_in1, Lp.q_ni1, Lp.q_in2, Lp.q_ni2, Lp.q_in3, Lp.q_ni3, Lp.q_in4, Lp.q_ni4, Lp.q_in5, Lp.q_ni5, Lp.q_eqi, Lp.q_nei, Lp.q_addi, Lp.q_adds, Lp.q_addl, Lp.q_addt, Lp.q_subi, Lp.q_muli, Lp.q_muls, Lp.q_mull, Lp.q_fdiv, Lp.q_mod, Lp.q_pow, Lp.q_len1, Lp.q_len2, Lp.q_len3, Lp.q_len4, Lp.q_len5, Lp.q_int1, Lp.q_int2, Lp.q_abs, Lp.q_min, Lp.q_max, Lp.q_list1, Lp.q_list2, Lp.q_list3, Lp.q_tuple1, Lp.q_tuple2, Lp.q_sorted, Lp.q_sum, Lp.q_it1, Lp.q_it2, Lp.q_it3, Lp.q_it4, Lp.q_sl1, Lp.q_sl2, Lp.q_sl3, Lp.q_k1, Lp.q_k2, List.getElem?_cons_zero, List.getElem?_cons_succ, Option.some.injEq, Prod.mk.injEq, D.bl.injEq, D.lst.injEq, true_and, and_true, exists_eq_left', exists_eq_left, List.set_cons_zero, List.set_cons_succ, List.length_map, false_and, reduceCtorEq, exists_false, exists_const, Int.toNat_natCast, Bool.not_true, Bool.not_false, decide_true, decide_false, Lp.len_ls]
    refine lc_all (fun r => D.str (rowOf r bag)) D.str (by rw [szl]; omega) (fun r hr acc K ha hK => ?_) ?_
    · try simp only [Lp.wpSs, Lp.wpS, Lp.wpE, Lp.wpEs, Lp.wpSrc, Lp.wpH, Lp.bindT, Lp.bindTs, Lp.wipeE, Lp.q_ix1, Lp.q_ix2, Lp.q_ix3, Lp.q_ix4, Lp.q_lt, Lp.q_le, Lp.q_gt, Lp.q_ge, Lp.q_slt, Lp.q_sle, Lp.q_sgt, Lp.q_sge, Lp.q_in1, Lp.q_ni1, Lp.q_in2, Lp.q_ni2, Lp.q_in3, Lp.q_ni3, Lp.q_in4, Lp.q_ni4, Lp.q_in5, Lp.q_ni5, Lp.q_eqi, Lp.q_nei, Lp.q_addi, Lp.q_adds, Lp.q_addl, Lp.q_addt, Lp.q_subi, Lp.q_muli, Lp.q_muls, Lp.q_mull, Lp.q_fdiv, Lp.q_mod, Lp.q_pow, Lp.q_len1, Lp.q_len2, Lp.q_len3, Lp.q_len4, Lp.q_len5, Lp.q_int1, Lp.q_int2, Lp.q_abs, Lp.q_min, Lp.q_max, Lp.q_list1, Lp.q_list2, Lp.q_list3, Lp.q_tuple1, Lp.q_tuple2, Lp.q_sorted, Lp.q_sum, Lp.q_it1, Lp.q_it2, Lp.q_it3, Lp.q_it4, Lp.q_sl1, Lp.q_sl2, Lp.q_sl3, Lp.q_k1, Lp.q_k2, List.getElem?_cons_zero, List.getElem?_cons_succ, Option.some.injEq, Prod.mk.injEq, D.bl.injEq, D.lst.injEq, true_and, and_true, exists_eq_left', exists_eq_left, List.set_cons_zero, List.set_cons_succ, List.length_map, false_and, reduceCtorEq, exists_false, exists_const, Int.toNat_natCast, Bool.not_true, Bool.not_false, decide_true, decide_false, Lp.len_ls, h2]
      exact ctF_run (r, bag) rfl (row_pre (ok.cls.row r hr) w6 hb.qs) ⟨ha, hK⟩
    · refine ctF_run (true, rs.map fun r => rowOf r bag) (by rw [if_pos rfl, List.map_map]; rfl) ?_ (hq _ ⟨hb, rfl⟩)
      have := dd_len_le (rs.map fun r => rowOf r bag)
      rw [List.length_map] at this
      show (dd (rs.map fun r => rowOf r bag)).length < 64
      omega
def c_givers : Ct := ct (fun p : (Str × Int × List Str) × List Int × Str => [klass p.1.1 p.1.2.1 p.1.2.2, .tup (p.2.1.map .int), .str p.2.2]) (fun p => KOk p.1 ∧ ∀ c ∈ ls p.2.2, c < 1114112)
  (fun p d => bagOk p.1.2.1 p.2.1 ∧ d = .tup ((p.1.2.2.filter fun r => decide (rowOf r p.2.1 = p.2.2)).map .str)) fun p x => ¬ bagOk p.1.2.1 p.2.1 ∧ x = badBag p.2.1
theorem r_givers {T : Tab} (t : Cs T) (h1 : T.fn "is_bag" = some c_is_bag) (h2 : T.fn "row_of" = some c_row_of) :
    ∀ ds Q X, c_givers.run ds Q X → wpSs T b_givers (env0 N_givers ds) { nx := fun _ => Q .non, rt := Q, bk := fun _ => False, ct := fun _ => False, ex := fun _ => X } := by
  rintro ds Q X ⟨⟨⟨a, w, rs⟩, bag, row⟩, rfl, ⟨ok, fr⟩, hq, hx⟩
  have ok : KOk (a, w, rs) := ok
  have lr : rs.length ≤ 32 := ok.len
  have w6 : w ≤ 6 := ok.cls.w6
  show wpSs T b_givers [some (false, .ins "RuleClass" (kf a w rs)), some (false, .tup (bag.map .int)), some (false, .str row), none] _
  unfold b_givers
  try simp only [Lp.wpSs, Lp.wpS, Lp.wpE, Lp.wpEs, Lp.wpSrc, Lp.wpH, Lp.bindT, Lp.bindTs, Lp.wipeE, Lp.q_ix1, Lp.q_ix2, Lp.q_ix3, Lp.q_ix4, Lp.q_lt, Lp.q_le, Lp.q_gt, Lp.q_ge, Lp.q_slt, Lp.q_sle, Lp.q_sgt, Lp.q_sge, Lp.q_in1, Lp.q_ni1, Lp.q_in2, Lp.q_ni2, Lp.q_in3, Lp.q_ni3, Lp.q_in4, Lp.q_ni4, Lp.q_in5, Lp.q_ni5, Lp.q_eqi, Lp.q_nei, Lp.q_addi, Lp.q_adds, Lp.q_addl, Lp.q_addt, Lp.q_subi, Lp.q_muli, Lp.q_muls, Lp.q_mull, Lp.q_fdiv, Lp.q_mod, Lp.q_pow, Lp.q_len1, Lp.q_len2, Lp.q_len3, Lp.q_len4, Lp.q_len5, Lp.q_int1, Lp.q_int2, Lp.q_abs, Lp.q_min, Lp.q_max, Lp.q_list1, Lp.q_list2, Lp.q_list3, Lp.q_tuple1, Lp.q_tuple2, Lp.q_sorted, Lp.q_sum, Lp.q_it1, Lp.q_it2, Lp.q_it3, Lp.q_it4, Lp.q_sl1, Lp.q_sl2, Lp.q_sl3, Lp.q_k1, Lp.q_k2, List.getElem?_cons_zero, List.getElem?_cons_succ, Option.some.injEq, Prod.mk.injEq, D.bl.injEq, D.lst.injEq, true_and, and_true, exists_eq_left', exists_eq_left, List.set_cons_zero, List.set_cons_succ, List.length_map, false_and, reduceCtorEq, exists_false, exists_const, Int.toNat_natCast, Bool.not_true, Bool.not_false, decide_true, decide_false, Lp.len_ls, h1, t.kW, t.kR, t.bag, kf_w, kf_r]
  refine ct_run (w, bag) rfl trivial (fun d hd => ?_) (fun x hx => hx.elim)
  obtain ⟨b, rfl, hb⟩ := hd
  cases b with
  | false =>
    try simp only [Lp.wpSs, Lp.wpS, Lp.wpE, Lp.wpEs, Lp.wpSrc, Lp.wpH, Lp.bindT, Lp.bindTs, Lp.wipeE, Lp.q_ix1, Lp.q_ix2, Lp.q_ix3, Lp.q_ix4, Lp.q_lt, Lp.q_le, Lp.q_gt, Lp.q_ge, Lp.q_slt, Lp.q_sle, Lp.q_sgt, Lp.q_sge, Lp.q_in1, Lp.q_ni1, Lp.q_in2, Lp.q_ni2, Lp.q_in3, Lp.q_ni3, Lp.q_in4, Lp.q_ni4, Lp.q_in5, Lp.q_ni5, Lp.q_eqi, Lp.q_nei, Lp.q_addi, Lp.q_adds, Lp.q_addl, Lp.q_addt, Lp.q_subi, Lp.q_muli, Lp.q_muls, Lp.q_mull, Lp.q_fdiv, Lp.q_mod, Lp.q_pow, Lp.q_len1, Lp.q_len2, Lp.q_len3, Lp.q_len4, Lp.q_len5, Lp.q_int1, Lp.q_int2, Lp.q_abs, Lp.q_min, Lp.q_max, Lp.q_list1, Lp.q_list2, Lp.q_list3, Lp.q_tuple1, Lp.q_tuple2, Lp.q_sorted, Lp.q_sum, Lp.q_it1, Lp.q_it2, Lp.q_it3, Lp.q_it4, Lp.q_sl1, Lp.q_sl2, Lp.q_sl3, Lp.q_k1, Lp.q_k2, List.getElem?_cons_zero, List.getElem?_cons_succ, Option.some.injEq, Prod.mk.injEq, D.bl.injEq, D.lst.injEq, true_and, and_true, exists_eq_left', exists_eq_left, List.set_cons_zero, List.set_cons_succ, List.length_map, false_and, reduceCtorEq, exists_false, exists_const, Int.toNat_natCast, Bool.not_true, Bool.not_false, decide_true, decide_false, Lp.len_ls]
    exact ⟨rfl, hx _ ⟨fun z => Bool.false_ne_true (hb.mpr z), rfl⟩⟩
  | true =>
    have hb : bagOk w bag := hb.mp rfl
    try simp only [Lp.wpSs, Lp.wpS, Lp.wpE, Lp.wpEs, Lp.wpSrc, Lp.wpH, Lp.bindT, Lp.bindTs, Lp.wipeE, Lp.q_ix1, Lp.q_ix2, Lp.q_ix3, Lp.q_ix4, Lp.q_lt, Lp.q_le, Lp.q_gt, Lp.q_ge, Lp.q_slt, Lp.q_sle, Lp.q_sgt, Lp.q_sge, Lp.q_in1, Lp.q_ni1, Lp.q_in2, Lp.q_ni2, Lp.q_in3, Lp.q_ni3, Lp.q_in4, Lp.q_ni4, Lp.q_in5, Lp.q_ni5, Lp.q_eqi, Lp.q_nei, Lp.q_addi, Lp.q_adds, Lp.q_addl, Lp.q_addt, Lp.q_subi, Lp.q_muli, Lp.q_muls, Lp.q_mull, Lp.q_fdiv, Lp.q_mod, Lp.q_pow, Lp.q_len1, Lp.q_len2, Lp.q_len3, Lp.q_len4, Lp.q_len5, Lp.q_int1, Lp.q_int2, Lp.q_abs, Lp.q_min, Lp.q_max, Lp.q_list1, Lp.q_list2, Lp.q_list3, Lp.q_tuple1, Lp.q_tuple2, Lp.q_sorted, Lp.q_sum, Lp.q_it1, Lp.q_it2, Lp.q_it3, Lp.q_it4, Lp.q_sl1, Lp.q_sl2, Lp.q_sl3, Lp.q_k1, Lp.q_k2, List.getElem?_cons_zero, List.getElem?_cons_succ, Option.some.injEq, Prod.mk.injEq, D.bl.injEq, D.lst.injEq, true_and, and_true, exists_eq_left', exists_eq_left, List.set_cons_zero, List.set_cons_succ, List.length_map, false_and, reduceCtorEq, exists_false, exists_const, Int.toNat_natCast, Bool.not_true, Bool.not_false, decide_true, decide_false, Lp.len_ls]
    refine lc_of (fun r => decide (rowOf r bag = row)) D.str D.str (by rw [szl]; omega) (fun r hr acc K ha hK1 hK2 => ?_) (hq _ ⟨hb, rfl⟩)
    try simp only [Lp.wpSs, Lp.wpS, Lp.wpE, Lp.wpEs, Lp.wpSrc, Lp.wpH, Lp.bindT, Lp.bindTs, Lp.wipeE, Lp.q_ix1, Lp.q_ix2, Lp.q_ix3, Lp.q_ix4, Lp.q_lt, Lp.q_le, Lp.q_gt, Lp.q_ge, Lp.q_slt, Lp.q_sle, Lp.q_sgt, Lp.q_sge, Lp.q_in1, Lp.q_ni1, Lp.q_in2, Lp.q_ni2, Lp.q_in3, Lp.q_ni3, Lp.q_in4, Lp.q_ni4, Lp.q_in5, Lp.q_ni5, Lp.q_eqi, Lp.q_nei, Lp.q_addi, Lp.q_adds, Lp.q_addl, Lp.q_addt, Lp.q_subi, Lp.q_muli, Lp.q_muls, Lp.q_mull, Lp.q_fdiv, Lp.q_mod, Lp.q_pow, Lp.q_len1, Lp.q_len2, Lp.q_len3, Lp.q_len4, Lp.q_len5, Lp.q_int1, Lp.q_int2, Lp.q_abs, Lp.q_min, Lp.q_max, Lp.q_list1, Lp.q_list2, Lp.q_list3, Lp.q_tuple1, Lp.q_tuple2, Lp.q_sorted, Lp.q_sum, Lp.q_it1, Lp.q_it2, Lp.q_it3, Lp.q_it4, Lp.q_sl1, Lp.q_sl2, Lp.q_sl3, Lp.q_k1, Lp.q_k2, List.getElem?_cons_zero, List.getElem?_cons_succ, Option.some.injEq, Prod.mk.injEq, D.bl.injEq, D.lst.injEq, true_and, and_true, exists_eq_left', exists_eq_left, List.set_cons_zero, List.set_cons_succ, List.length_map, false_and, reduceCtorEq, exists_false, exists_const, Int.toNat_natCast, Bool.not_true, Bool.not_false, decide_true, decide_false, Lp.len_ls, h2]
    have okr := ok.cls.row r hr
    refine ctF_run (r, bag) rfl (row_pre okr w6 hb.qs) (eq_strs (row_letter ok.cls.ans (rowOf_ok okr hb.qs)) fr (if_bl (fun e => ⟨ha, hK1 e⟩) fun e => hK2 e))
def c_narrowed : Ct := ctF (fun p : (Str × Int × List Str) × List Int => [klass p.1.1 p.1.2.1 p.1.2.2, .tup (p.2.map .int)]) (fun p => KOk p.1 ∧ qsOk p.1.2.1 p.2)
  fun p => klass p.1.1 p.2.length (uniq (p.1.2.2.map fun r => rowOf r p.2))
theorem r_narrowed {T : Tab} (t : Cs T) (h1 : T.cls "RuleClass" = some c_RuleClass) :
    ∀ ds Q X, c_narrowed.run ds Q X → wpSs T b_narrowed (env0 N_narrowed ds) { nx := fun _ => Q .non, rt := Q, bk := fun _ => False, ct := fun _ => False, ex := fun _ => X } := by
  rintro ds Q X ⟨⟨⟨a, w, rs⟩, qs⟩, rfl, ⟨ok, hb⟩, hq⟩
  have ok : KOk (a, w, rs) := ok
  have hb : qsOk w qs := hb
  have lr : rs.length ≤ 32 := ok.len
  have w6 : w ≤ 6 := ok.cls.w6
  have q6 : qs.length ≤ 6 := hb.2.1
  show wpSs T b_narrowed [some (false, .ins "RuleClass" (kf a w rs)), some (false, .tup (qs.map .int)), none, none, none] _
  unfold b_narrowed
  try simp only [Lp.wpSs, Lp.wpS, Lp.wpE, Lp.wpEs, Lp.wpSrc, Lp.wpH, Lp.bindT, Lp.bindTs, Lp.wipeE, Lp.q_ix1, Lp.q_ix2, Lp.q_ix3, Lp.q_ix4, Lp.q_lt, Lp.q_le, Lp.q_gt, Lp.q_ge, Lp.q_slt, Lp.q_sle, Lp.q_sgt, Lp.q_sge, Lp.q_in1, Lp.q_ni1, Lp.q_in2, Lp.q_ni2, Lp.q_in3, Lp.q_ni3, Lp.q_in4, Lp.q_ni4, Lp.q_in5, Lp.q_ni5, Lp.q_eqi, Lp.q_nei, Lp.q_addi, Lp.q_adds, Lp.q_addl, Lp.q_addt, Lp.q_subi, Lp.q_muli, Lp.q_muls, Lp.q_mull, Lp.q_fdiv, Lp.q_mod, Lp.q_pow, Lp.q_len1, Lp.q_len2, Lp.q_len3, Lp.q_len4, Lp.q_len5, Lp.q_int1, Lp.q_int2, Lp.q_abs, Lp.q_min, Lp.q_max, Lp.q_list1, Lp.q_list2, Lp.q_list3, Lp.q_tuple1, Lp.q_tuple2, Lp.q_sorted, Lp.q_sum, Lp.q_it1, Lp.q_it2, Lp.q_it3, Lp.q_it4, Lp.q_sl1, Lp.q_sl2, Lp.q_sl3, Lp.q_k1, Lp.q_k2, List.getElem?_cons_zero, List.getElem?_cons_succ, Option.some.injEq, Prod.mk.injEq, D.bl.injEq, D.lst.injEq, true_and, and_true, exists_eq_left', exists_eq_left, List.set_cons_zero, List.set_cons_succ, List.length_map, false_and, reduceCtorEq, exists_false, exists_const, Int.toNat_natCast, Bool.not_true, Bool.not_false, decide_true, decide_false, Lp.len_ls, h1, t.kA, t.kR, kf_a, kf_r]
  refine lc_all (fun r => D.str (rowOf r qs)) D.str (by rw [szl]; omega) (fun r hr acc K ha hK => ?_) ?_
  · have pr := row_pre (ok.cls.row r hr) w6 hb
    refine lc_all (fun q => D.str ⟨#[(ls r).getD q.toNat 0]⟩) D.int (by rw [szl]; omega) (fun q hq acc K ha hK => ?_) ⟨qs.map fun q => ⟨#[(ls r).getD q.toNat 0]⟩, .inl (by rw [List.map_map]; rfl), ?_, ha, ?_⟩
    · try simp only [Lp.wpSs, Lp.wpS, Lp.wpE, Lp.wpEs, Lp.wpSrc, Lp.wpH, Lp.bindT, Lp.bindTs, Lp.wipeE, Lp.q_ix1, Lp.q_ix2, Lp.q_ix3, Lp.q_ix4, Lp.q_lt, Lp.q_le, Lp.q_gt, Lp.q_ge, Lp.q_slt, Lp.q_sle, Lp.q_sgt, Lp.q_sge, Lp.q_in1, Lp.q_ni1, Lp.q_in2, Lp.q_ni2, Lp.q_in3, Lp.q_ni3, Lp.q_in4, Lp.q_ni4, Lp.q_in5, Lp.q_ni5, Lp.q_eqi, Lp.q_nei, Lp.q_addi, Lp.q_adds, Lp.q_addl, Lp.q_addt, Lp.q_subi, Lp.q_muli, Lp.q_muls, Lp.q_mull, Lp.q_fdiv, Lp.q_mod, Lp.q_pow, Lp.q_len1, Lp.q_len2, Lp.q_len3, Lp.q_len4, Lp.q_len5, Lp.q_int1, Lp.q_int2, Lp.q_abs, Lp.q_min, Lp.q_max, Lp.q_list1, Lp.q_list2, Lp.q_list3, Lp.q_tuple1, Lp.q_tuple2, Lp.q_sorted, Lp.q_sum, Lp.q_it1, Lp.q_it2, Lp.q_it3, Lp.q_it4, Lp.q_sl1, Lp.q_sl2, Lp.q_sl3, Lp.q_k1, Lp.q_k2, List.getElem?_cons_zero, List.getElem?_cons_succ, Option.some.injEq, Prod.mk.injEq, D.bl.injEq, D.lst.injEq, true_and, and_true, exists_eq_left', exists_eq_left, List.set_cons_zero, List.set_cons_succ, List.length_map, false_and, reduceCtorEq, exists_false, exists_const, Int.toNat_natCast, Bool.not_true, Bool.not_false, decide_true, decide_false, Lp.len_ls]
      exact ⟨_, by rw [szl]; omega, at_row (pr.2.2 q hq), ha, hK⟩
    · rw [row_len, show (ls (Str.ofString "")).length = 0 by decide +kernel]; omega
    · rw [join_row]; exact hK
  · refine ctF_run (a, qs.length, rs.map fun r => rowOf r qs) (by rw [List.map_map]; rfl) ⟨⟨ok.cls.ans, by show (1 : Int) ≤ qs.length; have := hb.1; omega, by show (qs.length : Int) ≤ 6; omega, fun e => ok.cls.ne (List.map_eq_nil_iff.mp e), fun r hr => ?_, ?_⟩, by show (List.map _ rs).length ≤ 1000; rw [List.length_map]; omega⟩ hq
    · obtain ⟨r0, h0, rfl⟩ := List.mem_map.mp hr
      exact rowOf_ok (ok.cls.row r0 h0) hb
    · have := dd_len_le (rs.map fun r => rowOf r qs)
      rw [List.length_map] at this
      show (dd (rs.map fun r => rowOf r qs)).length ≤ 32
      omega
end K9
namespace K9
open PySem L2 Lp
def restAt (r : Str) (p : Nat) : Str := sm ((ls r).take p ++ (ls r).drop (p + 1))
theorem rest_eq (r : Str) (p : Nat) : cutS r none (some (p : Int)) ++ cutS r (some ((p : Int) + 1)) none = restAt r p := by
  rw [cutS_hi, show cutS r (some ((p : Int) + 1)) none = _ from cutS_lo r (p + 1)]
  exact str_ext (by rw [ls_app]; rfl)
/-- which of the first i rows have this rest at p -/
def grp (rows : List Str) (p i : Nat) (rest : Str) : List Int := ((List.range i).filter fun j => decide (restAt (rows.getD j ⟨#[]⟩) p = rest)).map fun (j : Nat) => (j : Int)
def grpD (rows : List Str) (p i : Nat) (rest : Str) : D := .tup ((grp rows p i rest).map .int)
def rests (rows : List Str) (p : Nat) : List Str := rows.map fun r => restAt r p
def knD (rows : List Str) (p : Nat) (rest : Str) : D := .tup [.int p, .str rest, grpD rows p rows.length rest]
def knots (rows : List Str) (n : Nat) : List D := (List.range n).flatMap fun p => (uniq (rests rows p)).map (knD rows p)
structure RowsOk (n : Nat) (rows : List Str) : Prop where
  ne : rows ≠ []
  len : ∀ r ∈ rows, (ls r).length = n
  n6 : n ≤ 6
  few : rows.length ≤ 32
def c_knots_of : Ct := ctF (fun p : Nat × List Str => [.tup (p.2.map .str)]) (fun p => RowsOk p.1 p.2) fun p => .tup (knots p.2 p.1)
theorem grp_zero {rows p rest} : grp rows p 0 rest = [] := rfl
theorem grp_succ {rows : List Str} {p i : Nat} {r rest : Str} (h : rows[i]? = some r) : grp rows p (i + 1) rest = if restAt r p = rest then grp rows p i rest ++ [(i : Int)] else grp rows p i rest := by
  unfold grp
  rw [List.range_succ, List.filter_append, List.map_append, List.filter_cons, List.filter_nil]
  rw [List.getD_eq_getElem?_getD, h, Option.getD_some]
  by_cases e : restAt r p = rest
  · rw [if_pos (decide_eq_true e), if_pos e]; rfl
  · rw [if_neg (by rw [decide_eq_false e]; exact Bool.false_ne_true), if_neg e]
    show _ ++ [] = _
    rw [List.append_nil]
theorem grp_no {rows : List Str} {p i : Nat} {rest : Str} (h : rest ∉ rests (rows.take i) p) (hi : i ≤ rows.length) : grp rows p i rest = [] := by
  unfold grp
  rw [List.map_eq_nil_iff, List.filter_eq_nil_iff]
  intro j hj e
  have hj := List.mem_range.mp hj
  have e := of_decide_eq_true e
  refine h (List.mem_map.mpr ⟨rows[j]'(by omega), ?_, ?_⟩)
  · rw [List.mem_take_iff_getElem]
    exact ⟨j, by omega, rfl⟩
  · rw [List.getD_eq_getElem?_getD, List.getElem?_eq_getElem (by omega)] at e
    exact e
theorem grp_len {rows : List Str} {p i : Nat} {rest : Str} : (grp rows p i rest).length ≤ i := by
  unfold grp
  rw [List.length_map]
  exact Nat.le_trans (List.length_filter_le _ _) (by rw [List.length_range]; exact Nat.le_refl _)
/-- the value that groups.get tells -/
theorem grp_get {rows : List Str} {p i : Nat} {rest : Str} (hi : i ≤ rows.length) : (dlook (fD (dd (rests (rows.take i) p)) (grpD rows p i)) (.inr rest)).getD (.tup []) = .tup ((grp rows p i rest).map .int) := by
  rw [dlook_f]
  by_cases h : rest ∈ dd (rests (rows.take i) p)
  · rw [if_pos h]; rfl
  · rw [if_neg h, grp_no (fun z => h (mem_dd.mpr z)) hi]; rfl
theorem grp_put {rows : List Str} {p i : Nat} {r : Str} (h : rows[i]? = some r) : dput (fD (dd (rests (rows.take i) p)) (grpD rows p i)) (.inr (restAt r p)) (.tup ((grp rows p i (restAt r p)).map .int ++ [.int (i : Nat)])) = fD (dd (rests (rows.take (i + 1)) p)) (grpD rows p (i + 1)) := by
  have hl := (List.getElem?_eq_some_iff.mp h).1
  have er : rests (rows.take (i + 1)) p = rests (rows.take i) p ++ [restAt r p] := by
    unfold rests
    rw [List.take_succ_eq_append_getElem hl, List.map_append]
    rw [(List.getElem?_eq_some_iff.mp h).2]; rfl
  rw [dput_f, er, dd_snoc]
  unfold fD
  apply List.map_congr_left
  intro k _
  show ((Sum.inr k : Key), if k = restAt r p then _ else _) = ((Sum.inr k : Key), D.tup _)
  rw [grp_succ h]
  by_cases e : restAt r p = k
  · subst e
    rw [if_pos rfl, if_pos rfl, List.map_append]; rfl
  · rw [if_neg fun z => e z.symm, if_neg e]; rfl
theorem rests_few {rows : List Str} {p : Nat} : (dd (rests rows p)).length ≤ rows.length := by
  have := dd_len_le (rests rows p)
  unfold rests at this
  rwa [List.length_map] at this
theorem knots_succ {rows : List Str} {p : Nat} : knots rows (p + 1) = knots rows p ++ (uniq (rests rows p)).map (knD rows p) := by
  unfold knots
  rw [List.range_succ, List.flatMap_append]
  simp
theorem knots_len {rows : List Str} : ∀ {p : Nat}, (knots rows p).length ≤ p * rows.length
  | 0 => Nat.zero_le _
  | p + 1 => by
    rw [knots_succ, List.length_append, List.length_map, uniq_len, Nat.succ_mul]
    exact Nat.add_le_add knots_len rests_few
theorem r_knots_of {T : Tab} : ∀ ds Q X, c_knots_of.run ds Q X → wpSs T b_knots_of (env0 N_knots_of ds) { nx := fun _ => Q .non, rt := Q, bk := fun _ => False, ct := fun _ => False, ex := fun _ => X } := by
  rintro ds Q X ⟨⟨n, rows⟩, rfl, ok, hq⟩
  have ok : RowsOk n rows := ok
  have hq : Q (.tup (knots rows n)) := hq
  have n6 := ok.n6
  have few := ok.few
  obtain ⟨r0, h0⟩ : ∃ r, rows[0]? = some r := ⟨_, List.getElem?_eq_getElem (List.length_pos_iff.mpr ok.ne)⟩
  have l0 := ok.len r0 (List.mem_of_getElem? h0)
  show wpSs T b_knots_of [some (false, .tup (rows.map .str)), none, none, none, none, none] _
  unfold b_knots_of
  try simp only [Lp.wpSs, Lp.wpS, Lp.wpE, Lp.wpEs, Lp.wpSrc, Lp.wpH, Lp.bindT, Lp.bindTs, Lp.wipeE, Lp.q_ix1, Lp.q_ix2, Lp.q_ix3, Lp.q_ix4, Lp.q_lt, Lp.q_le, Lp.q_gt, Lp.q_ge, Lp.q_slt, Lp.q_sle, Lp.q_sgt, Lp.q_sge, Lp.q_in1, Lp.q_ni1, Lp.q_in2, Lp.q_ni2, Lp.q_in3, Lp.q_ni3, Lp.q_in4, Lp.q_ni4, Lp.q_in5, Lp.q_ni5, Lp.q_eqi, Lp.q_nei, Lp.q_addi, Lp.q_adds, Lp.q_addl, Lp.q_addt, Lp.q_subi, Lp.q_muli, Lp.q_muls, Lp.q_mull, Lp.q_fdiv, Lp.q_mod, Lp.q_pow, Lp.q_len1, Lp.q_len2, Lp.q_len3, Lp.q_len4, Lp.q_len5, Lp.q_int1, Lp.q_int2, Lp.q_abs, Lp.q_min, Lp.q_max, Lp.q_list1, Lp.q_list2, Lp.q_list3, Lp.q_tuple1, Lp.q_tuple2, Lp.q_sorted, Lp.q_sum, Lp.q_it1, Lp.q_it2, Lp.q_it3, Lp.q_it4, Lp.q_sl1, Lp.q_sl2, Lp.q_sl3, Lp.q_k1, Lp.q_k2, List.getElem?_cons_zero, List.getElem?_cons_succ, Option.some.injEq, Prod.mk.injEq, D.bl.injEq, D.lst.injEq, true_and, and_true, exists_eq_left', exists_eq_left, List.set_cons_zero, List.set_cons_succ, List.length_map, false_and, reduceCtorEq, exists_false, exists_const, Int.toNat_natCast, Bool.not_true, Bool.not_false, decide_true, decide_false, Lp.len_ls]
  refine ⟨Nat.zero_le _, _, at_map D.str (at_int (i := 0) (Int.le_refl _) h0), ?_⟩
  try simp only [Lp.wpSs, Lp.wpS, Lp.wpE, Lp.wpEs, Lp.wpSrc, Lp.wpH, Lp.bindT, Lp.bindTs, Lp.wipeE, Lp.q_ix1, Lp.q_ix2, Lp.q_ix3, Lp.q_ix4, Lp.q_lt, Lp.q_le, Lp.q_gt, Lp.q_ge, Lp.q_slt, Lp.q_sle, Lp.q_sgt, Lp.q_sge, Lp.q_in1, Lp.q_ni1, Lp.q_in2, Lp.q_ni2, Lp.q_in3, Lp.q_ni3, Lp.q_in4, Lp.q_ni4, Lp.q_in5, Lp.q_ni5, Lp.q_eqi, Lp.q_nei, Lp.q_addi, Lp.q_adds, Lp.q_addl, Lp.q_addt, Lp.q_subi, Lp.q_muli, Lp.q_muls, Lp.q_mull, Lp.q_fdiv, Lp.q_mod, Lp.q_pow, Lp.q_len1, Lp.q_len2, Lp.q_len3, Lp.q_len4, Lp.q_len5, Lp.q_int1, Lp.q_int2, Lp.q_abs, Lp.q_min, Lp.q_max, Lp.q_list1, Lp.q_list2, Lp.q_list3, Lp.q_tuple1, Lp.q_tuple2, Lp.q_sorted, Lp.q_sum, Lp.q_it1, Lp.q_it2, Lp.q_it3, Lp.q_it4, Lp.q_sl1, Lp.q_sl2, Lp.q_sl3, Lp.q_k1, Lp.q_k2, List.getElem?_cons_zero, List.getElem?_cons_succ, Option.some.injEq, Prod.mk.injEq, D.bl.injEq, D.lst.injEq, true_and, and_true, exists_eq_left', exists_eq_left, List.set_cons_zero, List.set_cons_succ, List.length_map, false_and, reduceCtorEq, exists_false, exists_const, Int.toNat_natCast, Bool.not_true, Bool.not_false, decide_true, decide_false, Lp.len_ls]
  rw [l0]
  refine ⟨by rw [szl]; omega, by omega, ?_⟩
  try simp only [Lp.wpSs, Lp.wpS, Lp.wpE, Lp.wpEs, Lp.wpSrc, Lp.wpH, Lp.bindT, Lp.bindTs, Lp.wipeE, Lp.q_ix1, Lp.q_ix2, Lp.q_ix3, Lp.q_ix4, Lp.q_lt, Lp.q_le, Lp.q_gt, Lp.q_ge, Lp.q_slt, Lp.q_sle, Lp.q_sgt, Lp.q_sge, Lp.q_in1, Lp.q_ni1, Lp.q_in2, Lp.q_ni2, Lp.q_in3, Lp.q_ni3, Lp.q_in4, Lp.q_ni4, Lp.q_in5, Lp.q_ni5, Lp.q_eqi, Lp.q_nei, Lp.q_addi, Lp.q_adds, Lp.q_addl, Lp.q_addt, Lp.q_subi, Lp.q_muli, Lp.q_muls, Lp.q_mull, Lp.q_fdiv, Lp.q_mod, Lp.q_pow, Lp.q_len1, Lp.q_len2, Lp.q_len3, Lp.q_len4, Lp.q_len5, Lp.q_int1, Lp.q_int2, Lp.q_abs, Lp.q_min, Lp.q_max, Lp.q_list1, Lp.q_list2, Lp.q_list3, Lp.q_tuple1, Lp.q_tuple2, Lp.q_sorted, Lp.q_sum, Lp.q_it1, Lp.q_it2, Lp.q_it3, Lp.q_it4, Lp.q_sl1, Lp.q_sl2, Lp.q_sl3, Lp.q_k1, Lp.q_k2, List.getElem?_cons_zero, List.getElem?_cons_succ, Option.some.injEq, Prod.mk.injEq, D.bl.injEq, D.lst.injEq, true_and, and_true, exists_eq_left', exists_eq_left, List.set_cons_zero, List.set_cons_succ, List.length_map, false_and, reduceCtorEq, exists_false, exists_const, Int.toNat_natCast, Bool.not_true, Bool.not_false, decide_true, decide_false, Lp.len_ls]
  refine wpFor_range (fun p env => ∃ v2 v3 v4 v5, env = [some (false, .tup (rows.map .str)), some (true, .lst (knots rows p)), v2, v3, v4, v5]) ⟨_, _, _, _, rfl⟩ (fun p hp env K hI hK => ?_) fun env hI => ?_
  · obtain ⟨v2, v3, v4, v5, rfl⟩ := hI
    try simp only [Lp.wpSs, Lp.wpS, Lp.wpE, Lp.wpEs, Lp.wpSrc, Lp.wpH, Lp.bindT, Lp.bindTs, Lp.wipeE, Lp.q_ix1, Lp.q_ix2, Lp.q_ix3, Lp.q_ix4, Lp.q_lt, Lp.q_le, Lp.q_gt, Lp.q_ge, Lp.q_slt, Lp.q_sle, Lp.q_sgt, Lp.q_sge, Lp.q_in1, Lp.q_ni1, Lp.q_in2, Lp.q_ni2, Lp.q_in3, Lp.q_ni3, Lp.q_in4, Lp.q_ni4, Lp.q_in5, Lp.q_ni5, Lp.q_eqi, Lp.q_nei, Lp.q_addi, Lp.q_adds, Lp.q_addl, Lp.q_addt, Lp.q_subi, Lp.q_muli, Lp.q_muls, Lp.q_mull, Lp.q_fdiv, Lp.q_mod, Lp.q_pow, Lp.q_len1, Lp.q_len2, Lp.q_len3, Lp.q_len4, Lp.q_len5, Lp.q_int1, Lp.q_int2, Lp.q_abs, Lp.q_min, Lp.q_max, Lp.q_list1, Lp.q_list2, Lp.q_list3, Lp.q_tuple1, Lp.q_tuple2, Lp.q_sorted, Lp.q_sum, Lp.q_it1, Lp.q_it2, Lp.q_it3, Lp.q_it4, Lp.q_sl1, Lp.q_sl2, Lp.q_sl3, Lp.q_k1, Lp.q_k2, List.getElem?_cons_zero, List.getElem?_cons_succ, Option.some.injEq, Prod.mk.injEq, D.bl.injEq, D.lst.injEq, true_and, and_true, exists_eq_left', exists_eq_left, List.set_cons_zero, List.set_cons_succ, List.length_map, false_and, reduceCtorEq, exists_false, exists_const, Int.toNat_natCast, Bool.not_true, Bool.not_false, decide_true, decide_false, Lp.len_ls]
    refine ⟨by omega, ?_⟩
    refine wpFor_range (fun i env => ∃ v4 v5, env = [some (false, .tup (rows.map .str)), some (true, .lst (knots rows p)), some (false, .int (p : Nat)), some (true, .dct (fD (dd (rests (rows.take i) p)) (grpD rows p i))), v4, v5]) ⟨_, _, rfl⟩ (fun i hi env K hI hK => ?_) fun env hI => ?_
    · obtain ⟨v4, v5, rfl⟩ := hI
      obtain ⟨r, hr⟩ : ∃ c, rows[i]? = some c := ⟨_, List.getElem?_eq_getElem hi⟩
      have lr := ok.len r (List.mem_of_getElem? hr)
      have at_i := at_map D.str (at_nat hr)
      try simp only [Lp.wpSs, Lp.wpS, Lp.wpE, Lp.wpEs, Lp.wpSrc, Lp.wpH, Lp.bindT, Lp.bindTs, Lp.wipeE, Lp.q_ix1, Lp.q_ix2, Lp.q_ix3, Lp.q_ix4, Lp.q_lt, Lp.q_le, Lp.q_gt, Lp.q_ge, Lp.q_slt, Lp.q_sle, Lp.q_sgt, Lp.q_sge, Lp.q_in1, Lp.q_ni1, Lp.q_in2, Lp.q_ni2, Lp.q_in3, Lp.q_ni3, Lp.q_in4, Lp.q_ni4, Lp.q_in5, Lp.q_ni5, Lp.q_eqi, Lp.q_nei, Lp.q_addi, Lp.q_adds, Lp.q_addl, Lp.q_addt, Lp.q_subi, Lp.q_muli, Lp.q_muls, Lp.q_mull, Lp.q_fdiv, Lp.q_mod, Lp.q_pow, Lp.q_len1, Lp.q_len2, Lp.q_len3, Lp.q_len4, Lp.q_len5, Lp.q_int1, Lp.q_int2, Lp.q_abs, Lp.q_min, Lp.q_max, Lp.q_list1, Lp.q_list2, Lp.q_list3, Lp.q_tuple1, Lp.q_tuple2, Lp.q_sorted, Lp.q_sum, Lp.q_it1, Lp.q_it2, Lp.q_it3, Lp.q_it4, Lp.q_sl1, Lp.q_sl2, Lp.q_sl3, Lp.q_k1, Lp.q_k2, List.getElem?_cons_zero, List.getElem?_cons_succ, Option.some.injEq, Prod.mk.injEq, D.bl.injEq, D.lst.injEq, true_and, and_true, exists_eq_left', exists_eq_left, List.set_cons_zero, List.set_cons_succ, List.length_map, false_and, reduceCtorEq, exists_false, exists_const, Int.toNat_natCast, Bool.not_true, Bool.not_false, decide_true, decide_false, Lp.len_ls]
      refine ⟨_, at_i, ?_⟩
      try simp only [Lp.wpSs, Lp.wpS, Lp.wpE, Lp.wpEs, Lp.wpSrc, Lp.wpH, Lp.bindT, Lp.bindTs, Lp.wipeE, Lp.q_ix1, Lp.q_ix2, Lp.q_ix3, Lp.q_ix4, Lp.q_lt, Lp.q_le, Lp.q_gt, Lp.q_ge, Lp.q_slt, Lp.q_sle, Lp.q_sgt, Lp.q_sge, Lp.q_in1, Lp.q_ni1, Lp.q_in2, Lp.q_ni2, Lp.q_in3, Lp.q_ni3, Lp.q_in4, Lp.q_ni4, Lp.q_in5, Lp.q_ni5, Lp.q_eqi, Lp.q_nei, Lp.q_addi, Lp.q_adds, Lp.q_addl, Lp.q_addt, Lp.q_subi, Lp.q_muli, Lp.q_muls, Lp.q_mull, Lp.q_fdiv, Lp.q_mod, Lp.q_pow, Lp.q_len1, Lp.q_len2, Lp.q_len3, Lp.q_len4, Lp.q_len5, Lp.q_int1, Lp.q_int2, Lp.q_abs, Lp.q_min, Lp.q_max, Lp.q_list1, Lp.q_list2, Lp.q_list3, Lp.q_tuple1, Lp.q_tuple2, Lp.q_sorted, Lp.q_sum, Lp.q_it1, Lp.q_it2, Lp.q_it3, Lp.q_it4, Lp.q_sl1, Lp.q_sl2, Lp.q_sl3, Lp.q_k1, Lp.q_k2, List.getElem?_cons_zero, List.getElem?_cons_succ, Option.some.injEq, Prod.mk.injEq, D.bl.injEq, D.lst.injEq, true_and, and_true, exists_eq_left', exists_eq_left, List.set_cons_zero, List.set_cons_succ, List.length_map, false_and, reduceCtorEq, exists_false, exists_const, Int.toNat_natCast, Bool.not_true, Bool.not_false, decide_true, decide_false, Lp.len_ls]
      refine ⟨by rw [szl]; omega, _, at_i, ?_⟩
      try simp only [Lp.wpSs, Lp.wpS, Lp.wpE, Lp.wpEs, Lp.wpSrc, Lp.wpH, Lp.bindT, Lp.bindTs, Lp.wipeE, Lp.q_ix1, Lp.q_ix2, Lp.q_ix3, Lp.q_ix4, Lp.q_lt, Lp.q_le, Lp.q_gt, Lp.q_ge, Lp.q_slt, Lp.q_sle, Lp.q_sgt, Lp.q_sge, Lp.q_in1, Lp.q_ni1, Lp.q_in2, Lp.q_ni2, Lp.q_in3, Lp.q_ni3, Lp.q_in4, Lp.q_ni4, Lp.q_in5, Lp.q_ni5, Lp.q_eqi, Lp.q_nei, Lp.q_addi, Lp.q_adds, Lp.q_addl, Lp.q_addt, Lp.q_subi, Lp.q_muli, Lp.q_muls, Lp.q_mull, Lp.q_fdiv, Lp.q_mod, Lp.q_pow, Lp.q_len1, Lp.q_len2, Lp.q_len3, Lp.q_len4, Lp.q_len5, Lp.q_int1, Lp.q_int2, Lp.q_abs, Lp.q_min, Lp.q_max, Lp.q_list1, Lp.q_list2, Lp.q_list3, Lp.q_tuple1, Lp.q_tuple2, Lp.q_sorted, Lp.q_sum, Lp.q_it1, Lp.q_it2, Lp.q_it3, Lp.q_it4, Lp.q_sl1, Lp.q_sl2, Lp.q_sl3, Lp.q_k1, Lp.q_k2, List.getElem?_cons_zero, List.getElem?_cons_succ, Option.some.injEq, Prod.mk.injEq, D.bl.injEq, D.lst.injEq, true_and, and_true, exists_eq_left', exists_eq_left, List.set_cons_zero, List.set_cons_succ, List.length_map, false_and, reduceCtorEq, exists_false, exists_const, Int.toNat_natCast, Bool.not_true, Bool.not_false, decide_true, decide_false, Lp.len_ls]
      refine ⟨by rw [szl]; omega, ?_, ?_⟩
      · rw [cutS_hi, show cutS r (some ((p : Int) + 1)) none = _ from cutS_lo r (p + 1)]
        show (List.take p (ls r)).length + (List.drop (p + 1) (ls r)).length ≤ _
        rw [List.length_take, List.length_drop, szl]; omega
      rw [rest_eq, grp_get (by omega)]
      try simp only [Lp.wpSs, Lp.wpS, Lp.wpE, Lp.wpEs, Lp.wpSrc, Lp.wpH, Lp.bindT, Lp.bindTs, Lp.wipeE, Lp.q_ix1, Lp.q_ix2, Lp.q_ix3, Lp.q_ix4, Lp.q_lt, Lp.q_le, Lp.q_gt, Lp.q_ge, Lp.q_slt, Lp.q_sle, Lp.q_sgt, Lp.q_sge, Lp.q_in1, Lp.q_ni1, Lp.q_in2, Lp.q_ni2, Lp.q_in3, Lp.q_ni3, Lp.q_in4, Lp.q_ni4, Lp.q_in5, Lp.q_ni5, Lp.q_eqi, Lp.q_nei, Lp.q_addi, Lp.q_adds, Lp.q_addl, Lp.q_addt, Lp.q_subi, Lp.q_muli, Lp.q_muls, Lp.q_mull, Lp.q_fdiv, Lp.q_mod, Lp.q_pow, Lp.q_len1, Lp.q_len2, Lp.q_len3, Lp.q_len4, Lp.q_len5, Lp.q_int1, Lp.q_int2, Lp.q_abs, Lp.q_min, Lp.q_max, Lp.q_list1, Lp.q_list2, Lp.q_list3, Lp.q_tuple1, Lp.q_tuple2, Lp.q_sorted, Lp.q_sum, Lp.q_it1, Lp.q_it2, Lp.q_it3, Lp.q_it4, Lp.q_sl1, Lp.q_sl2, Lp.q_sl3, Lp.q_k1, Lp.q_k2, List.getElem?_cons_zero, List.getElem?_cons_succ, Option.some.injEq, Prod.mk.injEq, D.bl.injEq, D.lst.injEq, true_and, and_true, exists_eq_left', exists_eq_left, List.set_cons_zero, List.set_cons_succ, List.length_map, false_and, reduceCtorEq, exists_false, exists_const, Int.toNat_natCast, Bool.not_true, Bool.not_false, decide_true, decide_false, Lp.len_ls]
      refine ⟨by show 0 ≤ _; omega, by show 1 ≤ sizeLine; rw [szl]; omega, ?_, ?_, ?_⟩
      · have := grp_len (rows := rows) (p := p) (i := i) (rest := restAt r p)
        show _ + 1 ≤ _
        rw [szl]; omega
      · rw [fD_len, szl]
        have := rests_few (rows := rows.take i) (p := p)
        rw [List.length_take] at this
        omega
      rw [grp_put hr]
      exact hK _ ⟨_, _, rfl⟩
    · obtain ⟨v4, v5, rfl⟩ := hI
      try simp only [Lp.wpSs, Lp.wpS, Lp.wpE, Lp.wpEs, Lp.wpSrc, Lp.wpH, Lp.bindT, Lp.bindTs, Lp.wipeE, Lp.q_ix1, Lp.q_ix2, Lp.q_ix3, Lp.q_ix4, Lp.q_lt, Lp.q_le, Lp.q_gt, Lp.q_ge, Lp.q_slt, Lp.q_sle, Lp.q_sgt, Lp.q_sge, Lp.q_in1, Lp.q_ni1, Lp.q_in2, Lp.q_ni2, Lp.q_in3, Lp.q_ni3, Lp.q_in4, Lp.q_ni4, Lp.q_in5, Lp.q_ni5, Lp.q_eqi, Lp.q_nei, Lp.q_addi, Lp.q_adds, Lp.q_addl, Lp.q_addt, Lp.q_subi, Lp.q_muli, Lp.q_muls, Lp.q_mull, Lp.q_fdiv, Lp.q_mod, Lp.q_pow, Lp.q_len1, Lp.q_len2, Lp.q_len3, Lp.q_len4, Lp.q_len5, Lp.q_int1, Lp.q_int2, Lp.q_abs, Lp.q_min, Lp.q_max, Lp.q_list1, Lp.q_list2, Lp.q_list3, Lp.q_tuple1, Lp.q_tuple2, Lp.q_sorted, Lp.q_sum, Lp.q_it1, Lp.q_it2, Lp.q_it3, Lp.q_it4, Lp.q_sl1, Lp.q_sl2, Lp.q_sl3, Lp.q_k1, Lp.q_k2, List.getElem?_cons_zero, List.getElem?_cons_succ, Option.some.injEq, Prod.mk.injEq, D.bl.injEq, D.lst.injEq, true_and, and_true, exists_eq_left', exists_eq_left, List.set_cons_zero, List.set_cons_succ, List.length_map, false_and, reduceCtorEq, exists_false, exists_const, Int.toNat_natCast, Bool.not_true, Bool.not_false, decide_true, decide_false, Lp.len_ls]
      rw [fD_keys, List.take_length]
      have fw := rests_few (rows := rows) (p := p)
      refine sort_strs (by omega) ?_
      try simp only [Lp.wpSs, Lp.wpS, Lp.wpE, Lp.wpEs, Lp.wpSrc, Lp.wpH, Lp.bindT, Lp.bindTs, Lp.wipeE, Lp.q_ix1, Lp.q_ix2, Lp.q_ix3, Lp.q_ix4, Lp.q_lt, Lp.q_le, Lp.q_gt, Lp.q_ge, Lp.q_slt, Lp.q_sle, Lp.q_sgt, Lp.q_sge, Lp.q_in1, Lp.q_ni1, Lp.q_in2, Lp.q_ni2, Lp.q_in3, Lp.q_ni3, Lp.q_in4, Lp.q_ni4, Lp.q_in5, Lp.q_ni5, Lp.q_eqi, Lp.q_nei, Lp.q_addi, Lp.q_adds, Lp.q_addl, Lp.q_addt, Lp.q_subi, Lp.q_muli, Lp.q_muls, Lp.q_mull, Lp.q_fdiv, Lp.q_mod, Lp.q_pow, Lp.q_len1, Lp.q_len2, Lp.q_len3, Lp.q_len4, Lp.q_len5, Lp.q_int1, Lp.q_int2, Lp.q_abs, Lp.q_min, Lp.q_max, Lp.q_list1, Lp.q_list2, Lp.q_list3, Lp.q_tuple1, Lp.q_tuple2, Lp.q_sorted, Lp.q_sum, Lp.q_it1, Lp.q_it2, Lp.q_it3, Lp.q_it4, Lp.q_sl1, Lp.q_sl2, Lp.q_sl3, Lp.q_k1, Lp.q_k2, List.getElem?_cons_zero, List.getElem?_cons_succ, Option.some.injEq, Prod.mk.injEq, D.bl.injEq, D.lst.injEq, true_and, and_true, exists_eq_left', exists_eq_left, List.set_cons_zero, List.set_cons_succ, List.length_map, false_and, reduceCtorEq, exists_false, exists_const, Int.toNat_natCast, Bool.not_true, Bool.not_false, decide_true, decide_false, Lp.len_ls]
      refine wpFor_map (xs := uniq (rests rows p)) (fun pre env => ∃ v5, env = [some (false, .tup (rows.map .str)), some (true, .lst (knots rows p ++ pre.map (knD rows p))), some (false, .int (p : Nat)), some (true, .dct (fD (dd (rests rows p)) (grpD rows p rows.length))), v4, v5]) ⟨_, by rw [List.map_nil, List.append_nil]⟩ (fun pre rest post env K hx hI hK => ?_) fun env hI => ?_
      · obtain ⟨v5, rfl⟩ := hI
        have hm : rest ∈ dd (rests rows p) := mem_srt.mp (show rest ∈ uniq (rests rows p) by rw [hx]; simp)
        try simp only [Lp.wpSs, Lp.wpS, Lp.wpE, Lp.wpEs, Lp.wpSrc, Lp.wpH, Lp.bindT, Lp.bindTs, Lp.wipeE, Lp.q_ix1, Lp.q_ix2, Lp.q_ix3, Lp.q_ix4, Lp.q_lt, Lp.q_le, Lp.q_gt, Lp.q_ge, Lp.q_slt, Lp.q_sle, Lp.q_sgt, Lp.q_sge, Lp.q_in1, Lp.q_ni1, Lp.q_in2, Lp.q_ni2, Lp.q_in3, Lp.q_ni3, Lp.q_in4, Lp.q_ni4, Lp.q_in5, Lp.q_ni5, Lp.q_eqi, Lp.q_nei, Lp.q_addi, Lp.q_adds, Lp.q_addl, Lp.q_addt, Lp.q_subi, Lp.q_muli, Lp.q_muls, Lp.q_mull, Lp.q_fdiv, Lp.q_mod, Lp.q_pow, Lp.q_len1, Lp.q_len2, Lp.q_len3, Lp.q_len4, Lp.q_len5, Lp.q_int1, Lp.q_int2, Lp.q_abs, Lp.q_min, Lp.q_max, Lp.q_list1, Lp.q_list2, Lp.q_list3, Lp.q_tuple1, Lp.q_tuple2, Lp.q_sorted, Lp.q_sum, Lp.q_it1, Lp.q_it2, Lp.q_it3, Lp.q_it4, Lp.q_sl1, Lp.q_sl2, Lp.q_sl3, Lp.q_k1, Lp.q_k2, List.getElem?_cons_zero, List.getElem?_cons_succ, Option.some.injEq, Prod.mk.injEq, D.bl.injEq, D.lst.injEq, true_and, and_true, exists_eq_left', exists_eq_left, List.set_cons_zero, List.set_cons_succ, List.length_map, false_and, reduceCtorEq, exists_false, exists_const, Int.toNat_natCast, Bool.not_true, Bool.not_false, decide_true, decide_false, Lp.len_ls]
        refine ⟨_, _, rfl, by rw [dlook_f, if_pos hm], by show 3 ≤ sizeLine; rw [szl]; omega, ?_, hK _ ⟨some (false, .str rest), by rw [List.map_append, ← List.append_assoc]; rfl⟩⟩
        have a1 := knots_len (rows := rows) (p := p)
        have a2 := congrArg List.length hx
        rw [uniq_len, List.length_append, List.length_cons] at a2
        rw [List.length_append, List.length_map, szl]
        have a3 : p * rows.length ≤ 6 * 32 := Nat.mul_le_mul (by omega) (by omega)
        omega
      · obtain ⟨v5, rfl⟩ := hI
        exact hK _ ⟨_, _, _, _, by rw [knots_succ]⟩
  · obtain ⟨v2, v3, v4, v5, rfl⟩ := hI
    try simp only [Lp.wpSs, Lp.wpS, Lp.wpE, Lp.wpEs, Lp.wpSrc, Lp.wpH, Lp.bindT, Lp.bindTs, Lp.wipeE, Lp.q_ix1, Lp.q_ix2, Lp.q_ix3, Lp.q_ix4, Lp.q_lt, Lp.q_le, Lp.q_gt, Lp.q_ge, Lp.q_slt, Lp.q_sle, Lp.q_sgt, Lp.q_sge, Lp.q_in1, Lp.q_ni1, Lp.q_in2, Lp.q_ni2, Lp.q_in3, Lp.q_ni3, Lp.q_in4, Lp.q_ni4, Lp.q_in5, Lp.q_ni5, Lp.q_eqi, Lp.q_nei, Lp.q_addi, Lp.q_adds, Lp.q_addl, Lp.q_addt, Lp.q_subi, Lp.q_muli, Lp.q_muls, Lp.q_mull, Lp.q_fdiv, Lp.q_mod, Lp.q_pow, Lp.q_len1, Lp.q_len2, Lp.q_len3, Lp.q_len4, Lp.q_len5, Lp.q_int1, Lp.q_int2, Lp.q_abs, Lp.q_min, Lp.q_max, Lp.q_list1, Lp.q_list2, Lp.q_list3, Lp.q_tuple1, Lp.q_tuple2, Lp.q_sorted, Lp.q_sum, Lp.q_it1, Lp.q_it2, Lp.q_it3, Lp.q_it4, Lp.q_sl1, Lp.q_sl2, Lp.q_sl3, Lp.q_k1, Lp.q_k2, List.getElem?_cons_zero, List.getElem?_cons_succ, Option.some.injEq, Prod.mk.injEq, D.bl.injEq, D.lst.injEq, true_and, and_true, exists_eq_left', exists_eq_left, List.set_cons_zero, List.set_cons_succ, List.length_map, false_and, reduceCtorEq, exists_false, exists_const, Int.toNat_natCast, Bool.not_true, Bool.not_false, decide_true, decide_false, Lp.len_ls]
    exact hq
/-! Web -/
def wf (a : Str) (n : Nat) (rows : List Str) : List (Str × D) := [("answers", .str a), ("places", .int n), ("rows", .tup (rows.map .str)), ("knots", .tup (knots rows n))]
def webD (a : Str) (n : Nat) (rows : List Str) : D := .ins "Web" (wf a n rows)
theorem wf_a {a : Str} {n : Nat} {rs : List Str} : (wf a n rs).lookup ("answers" : Str) = some (.str a) := by first | rfl | simp [wf]
theorem wf_p {a : Str} {n : Nat} {rs : List Str} : (wf a n rs).lookup ("places" : Str) = some (.int n) := by first | rfl | simp [wf]
theorem wf_r {a : Str} {n : Nat} {rs : List Str} : (wf a n rs).lookup ("rows" : Str) = some (.tup (rs.map .str)) := by first | rfl | simp [wf]
theorem wf_put {a : Str} {n : Nat} {rs : List Str} : putFD "knots" (.tup (knots rs n)) (putFD "rows" (.tup (rs.map .str)) (putFD "places" (.int n) (putFD "answers" (.str a) []))) = wf a n rs := by rfl
structure WebOk (p : Str × Nat × List Str) : Prop where
  ans : ansOk p.1
  n1 : 1 ≤ p.2.1
  n6 : p.2.1 ≤ 6
  ne : p.2.2 ≠ []
  row : ∀ r ∈ p.2.2, rowOk p.1 p.2.1 r
  few : (dd p.2.2).length ≤ 32
  len : p.2.2.length ≤ 1000
def c_Web : Ct := ctF (fun p : Str × Nat × List Str => [.str p.1, .tup (p.2.2.map .str)]) (fun p => WebOk p) fun p => webD p.1 p.2.1 (uniq p.2.2)
theorem r_Web {T : Tab} (t : Cs T) (h1 : T.fn "is_answers" = some c_is_answers) (h2 : T.fn "is_row" = some c_is_row) (h3 : T.fn "different" = some c_different) (h4 : T.fn "knots_of" = some c_knots_of) :
    ∀ ds Q X, c_Web.run ds Q X → wpSs T b_Web___init__ ((env0 N_Web___init__ (.non :: ds)).set 0 (some (true, .ins "Web" []))) { nx := fun env => ∃ d, env[0]? = some (some (true, d)) ∧ Q d, rt := fun _ => False, bk := fun _ => False, ct := fun _ => False, ex := fun env y => (∃ d, env[0]? = some (some (true, d))) ∧ X y } := by
  rintro ds Q X ⟨⟨a, n, rs⟩, rfl, ok, hq⟩
  have lr : rs.length ≤ 1000 := ok.len
  have hq : Q (webD a n (uniq rs)) := hq
  have la : (ls a).length ≤ 1000 := by have : (ls a).length ≤ 4 := ok.ans.2.1; omega
  have w1 : 1 ≤ n := ok.n1
  have w6 : n ≤ 6 := ok.n6
  have few : (dd rs).length ≤ 32 := ok.few
  have ne : rs.length ≠ 0 := fun e => ok.ne (List.length_eq_zero_iff.mp e)
  obtain ⟨r0, h0⟩ : ∃ r, rs[0]? = some r := ⟨_, List.getElem?_eq_getElem (by omega)⟩
  have l0 : ((ls r0).length : Int) = n := (ok.row r0 (List.mem_of_getElem? h0)).1
  have l0' : (ls r0).length = n := by omega
  show wpSs T b_Web___init__ [some (true, .ins "Web" []), some (false, .str a), some (false, .tup (rs.map .str)), none, none, none] _
  unfold b_Web___init__
  try simp only [Lp.wpSs, Lp.wpS, Lp.wpE, Lp.wpEs, Lp.wpSrc, Lp.wpH, Lp.bindT, Lp.bindTs, Lp.wipeE, Lp.q_ix1, Lp.q_ix2, Lp.q_ix3, Lp.q_ix4, Lp.q_lt, Lp.q_le, Lp.q_gt, Lp.q_ge, Lp.q_slt, Lp.q_sle, Lp.q_sgt, Lp.q_sge, Lp.q_in1, Lp.q_ni1, Lp.q_in2, Lp.q_ni2, Lp.q_in3, Lp.q_ni3, Lp.q_in4, Lp.q_ni4, Lp.q_in5, Lp.q_ni5, Lp.q_eqi, Lp.q_nei, Lp.q_addi, Lp.q_adds, Lp.q_addl, Lp.q_addt, Lp.q_subi, Lp.q_muli, Lp.q_muls, Lp.q_mull, Lp.q_fdiv, Lp.q_mod, Lp.q_pow, Lp.q_len1, Lp.q_len2, Lp.q_len3, Lp.q_len4, Lp.q_len5, Lp.q_int1, Lp.q_int2, Lp.q_abs, Lp.q_min, Lp.q_max, Lp.q_list1, Lp.q_list2, Lp.q_list3, Lp.q_tuple1, Lp.q_tuple2, Lp.q_sorted, Lp.q_sum, Lp.q_it1, Lp.q_it2, Lp.q_it3, Lp.q_it4, Lp.q_sl1, Lp.q_sl2, Lp.q_sl3, Lp.q_k1, Lp.q_k2, List.getElem?_cons_zero, List.getElem?_cons_succ, Option.some.injEq, Prod.mk.injEq, D.bl.injEq, D.lst.injEq, true_and, and_true, exists_eq_left', exists_eq_left, List.set_cons_zero, List.set_cons_succ, List.length_map, false_and, reduceCtorEq, exists_false, exists_const, Int.toNat_natCast, Bool.not_true, Bool.not_false, decide_true, decide_false, Lp.len_ls, h1, t.places]
  refine ct_run a rfl la (fun d hd => ?_) (fun x hx => hx.elim)
  obtain ⟨b, rfl, hb⟩ := hd
  obtain rfl : b = true := hb.mpr ok.ans
  try simp only [Lp.wpSs, Lp.wpS, Lp.wpE, Lp.wpEs, Lp.wpSrc, Lp.wpH, Lp.bindT, Lp.bindTs, Lp.wipeE, Lp.q_ix1, Lp.q_ix2, Lp.q_ix3, Lp.q_ix4, Lp.q_lt, Lp.q_le, Lp.q_gt, Lp.q_ge, Lp.q_slt, Lp.q_sle, Lp.q_sgt, Lp.q_sge, Lp.q_in1, Lp.q_ni1, Lp.q_in2, Lp.q_ni2, Lp.q_in3, Lp.q_ni3, Lp.q_in4, Lp.q_ni4, Lp.q_in5, Lp.q_ni5, Lp.q_eqi, Lp.q_nei, Lp.q_addi, Lp.q_adds, Lp.q_addl, Lp.q_addt, Lp.q_subi, Lp.q_muli, Lp.q_muls, Lp.q_mull, Lp.q_fdiv, Lp.q_mod, Lp.q_pow, Lp.q_len1, Lp.q_len2, Lp.q_len3, Lp.q_len4, Lp.q_len5, Lp.q_int1, Lp.q_int2, Lp.q_abs, Lp.q_min, Lp.q_max, Lp.q_list1, Lp.q_list2, Lp.q_list3, Lp.q_tuple1, Lp.q_tuple2, Lp.q_sorted, Lp.q_sum, Lp.q_it1, Lp.q_it2, Lp.q_it3, Lp.q_it4, Lp.q_sl1, Lp.q_sl2, Lp.q_sl3, Lp.q_k1, Lp.q_k2, List.getElem?_cons_zero, List.getElem?_cons_succ, Option.some.injEq, Prod.mk.injEq, D.bl.injEq, D.lst.injEq, true_and, and_true, exists_eq_left', exists_eq_left, List.set_cons_zero, List.set_cons_succ, List.length_map, false_and, reduceCtorEq, exists_false, exists_const, Int.toNat_natCast, Bool.not_true, Bool.not_false, decide_true, decide_false, Lp.len_ls]
  refine if_p (fun h => by omega) fun h => ⟨_, at_map D.str (at_int (i := 0) (Int.le_refl _) h0), ?_⟩
  try simp only [Lp.wpSs, Lp.wpS, Lp.wpE, Lp.wpEs, Lp.wpSrc, Lp.wpH, Lp.bindT, Lp.bindTs, Lp.wipeE, Lp.q_ix1, Lp.q_ix2, Lp.q_ix3, Lp.q_ix4, Lp.q_lt, Lp.q_le, Lp.q_gt, Lp.q_ge, Lp.q_slt, Lp.q_sle, Lp.q_sgt, Lp.q_sge, Lp.q_in1, Lp.q_ni1, Lp.q_in2, Lp.q_ni2, Lp.q_in3, Lp.q_ni3, Lp.q_in4, Lp.q_ni4, Lp.q_in5, Lp.q_ni5, Lp.q_eqi, Lp.q_nei, Lp.q_addi, Lp.q_adds, Lp.q_addl, Lp.q_addt, Lp.q_subi, Lp.q_muli, Lp.q_muls, Lp.q_mull, Lp.q_fdiv, Lp.q_mod, Lp.q_pow, Lp.q_len1, Lp.q_len2, Lp.q_len3, Lp.q_len4, Lp.q_len5, Lp.q_int1, Lp.q_int2, Lp.q_abs, Lp.q_min, Lp.q_max, Lp.q_list1, Lp.q_list2, Lp.q_list3, Lp.q_tuple1, Lp.q_tuple2, Lp.q_sorted, Lp.q_sum, Lp.q_it1, Lp.q_it2, Lp.q_it3, Lp.q_it4, Lp.q_sl1, Lp.q_sl2, Lp.q_sl3, Lp.q_k1, Lp.q_k2, List.getElem?_cons_zero, List.getElem?_cons_succ, Option.some.injEq, Prod.mk.injEq, D.bl.injEq, D.lst.injEq, true_and, and_true, exists_eq_left', exists_eq_left, List.set_cons_zero, List.set_cons_succ, List.length_map, false_and, reduceCtorEq, exists_false, exists_const, Int.toNat_natCast, Bool.not_true, Bool.not_false, decide_true, decide_false, Lp.len_ls]
  rw [l0']
  refine ⟨by rw [szl]; omega, by omega, ?_⟩
  refine wpFor_range (fun i env => ∃ v, env = [some (true, .ins "Web" []), some (false, .str a), some (false, .tup (rs.map .str)), some (false, .int (n : Nat)), v, none]) ⟨_, rfl⟩ (fun i hi env K hI hK => ?_) fun env hI => ?_
  · obtain ⟨v, rfl⟩ := hI
    obtain ⟨r, hr⟩ : ∃ c, rs[i]? = some c := ⟨_, List.getElem?_eq_getElem hi⟩
    have hm := List.mem_of_getElem? hr
    have okr : rowOk a n r := ok.row r hm
    have at_i := at_map D.str (at_nat hr)
    try simp only [Lp.wpSs, Lp.wpS, Lp.wpE, Lp.wpEs, Lp.wpSrc, Lp.wpH, Lp.bindT, Lp.bindTs, Lp.wipeE, Lp.q_ix1, Lp.q_ix2, Lp.q_ix3, Lp.q_ix4, Lp.q_lt, Lp.q_le, Lp.q_gt, Lp.q_ge, Lp.q_slt, Lp.q_sle, Lp.q_sgt, Lp.q_sge, Lp.q_in1, Lp.q_ni1, Lp.q_in2, Lp.q_ni2, Lp.q_in3, Lp.q_ni3, Lp.q_in4, Lp.q_ni4, Lp.q_in5, Lp.q_ni5, Lp.q_eqi, Lp.q_nei, Lp.q_addi, Lp.q_adds, Lp.q_addl, Lp.q_addt, Lp.q_subi, Lp.q_muli, Lp.q_muls, Lp.q_mull, Lp.q_fdiv, Lp.q_mod, Lp.q_pow, Lp.q_len1, Lp.q_len2, Lp.q_len3, Lp.q_len4, Lp.q_len5, Lp.q_int1, Lp.q_int2, Lp.q_abs, Lp.q_min, Lp.q_max, Lp.q_list1, Lp.q_list2, Lp.q_list3, Lp.q_tuple1, Lp.q_tuple2, Lp.q_sorted, Lp.q_sum, Lp.q_it1, Lp.q_it2, Lp.q_it3, Lp.q_it4, Lp.q_sl1, Lp.q_sl2, Lp.q_sl3, Lp.q_k1, Lp.q_k2, List.getElem?_cons_zero, List.getElem?_cons_succ, Option.some.injEq, Prod.mk.injEq, D.bl.injEq, D.lst.injEq, true_and, and_true, exists_eq_left', exists_eq_left, List.set_cons_zero, List.set_cons_succ, List.length_map, false_and, reduceCtorEq, exists_false, exists_const, Int.toNat_natCast, Bool.not_true, Bool.not_false, decide_true, decide_false, Lp.len_ls, h2, t.places]
    refine if_p (fun h => by omega) fun h => if_p (fun h => by omega) fun h => ⟨_, at_i, ct_run (a, (n : Int), r) rfl ⟨la, ?_⟩ (fun d hd => ?_) (fun x hx => hx.elim)⟩
    · show (ls r).length ≤ 1000
      have : ((ls r).length : Int) = n := okr.1
      omega
    obtain ⟨b, rfl, hb⟩ := hd
    obtain rfl : b = true := hb.mpr okr
    try simp only [Lp.wpSs, Lp.wpS, Lp.wpE, Lp.wpEs, Lp.wpSrc, Lp.wpH, Lp.bindT, Lp.bindTs, Lp.wipeE, Lp.q_ix1, Lp.q_ix2, Lp.q_ix3, Lp.q_ix4, Lp.q_lt, Lp.q_le, Lp.q_gt, Lp.q_ge, Lp.q_slt, Lp.q_sle, Lp.q_sgt, Lp.q_sge, Lp.q_in1, Lp.q_ni1, Lp.q_in2, Lp.q_ni2, Lp.q_in3, Lp.q_ni3, Lp.q_in4, Lp.q_ni4, Lp.q_in5, Lp.q_ni5, Lp.q_eqi, Lp.q_nei, Lp.q_addi, Lp.q_adds, Lp.q_addl, Lp.q_addt, Lp.q_subi, Lp.q_muli, Lp.q_muls, Lp.q_mull, Lp.q_fdiv, Lp.q_mod, Lp.q_pow, Lp.q_len1, Lp.q_len2, Lp.q_len3, Lp.q_len4, Lp.q_len5, Lp.q_int1, Lp.q_int2, Lp.q_abs, Lp.q_min, Lp.q_max, Lp.q_list1, Lp.q_list2, Lp.q_list3, Lp.q_tuple1, Lp.q_tuple2, Lp.q_sorted, Lp.q_sum, Lp.q_it1, Lp.q_it2, Lp.q_it3, Lp.q_it4, Lp.q_sl1, Lp.q_sl2, Lp.q_sl3, Lp.q_k1, Lp.q_k2, List.getElem?_cons_zero, List.getElem?_cons_succ, Option.some.injEq, Prod.mk.injEq, D.bl.injEq, D.lst.injEq, true_and, and_true, exists_eq_left', exists_eq_left, List.set_cons_zero, List.set_cons_succ, List.length_map, false_and, reduceCtorEq, exists_false, exists_const, Int.toNat_natCast, Bool.not_true, Bool.not_false, decide_true, decide_false, Lp.len_ls]
    exact hK _ ⟨_, rfl⟩
  · obtain ⟨v, rfl⟩ := hI
    try simp only [Lp.wpSs, Lp.wpS, Lp.wpE, Lp.wpEs, Lp.wpSrc, Lp.wpH, Lp.bindT, Lp.bindTs, Lp.wipeE, Lp.q_ix1, Lp.q_ix2, Lp.q_ix3, Lp.q_ix4, Lp.q_lt, Lp.q_le, Lp.q_gt, Lp.q_ge, Lp.q_slt, Lp.q_sle, Lp.q_sgt, Lp.q_sge, Lp.q_in1, Lp.q_ni1, Lp.q_in2, Lp.q_ni2, Lp.q_in3, Lp.q_ni3, Lp.q_in4, Lp.q_ni4, Lp.q_in5, Lp.q_ni5, Lp.q_eqi, Lp.q_nei, Lp.q_addi, Lp.q_adds, Lp.q_addl, Lp.q_addt, Lp.q_subi, Lp.q_muli, Lp.q_muls, Lp.q_mull, Lp.q_fdiv, Lp.q_mod, Lp.q_pow, Lp.q_len1, Lp.q_len2, Lp.q_len3, Lp.q_len4, Lp.q_len5, Lp.q_int1, Lp.q_int2, Lp.q_abs, Lp.q_min, Lp.q_max, Lp.q_list1, Lp.q_list2, Lp.q_list3, Lp.q_tuple1, Lp.q_tuple2, Lp.q_sorted, Lp.q_sum, Lp.q_it1, Lp.q_it2, Lp.q_it3, Lp.q_it4, Lp.q_sl1, Lp.q_sl2, Lp.q_sl3, Lp.q_k1, Lp.q_k2, List.getElem?_cons_zero, List.getElem?_cons_succ, Option.some.injEq, Prod.mk.injEq, D.bl.injEq, D.lst.injEq, true_and, and_true, exists_eq_left', exists_eq_left, List.set_cons_zero, List.set_cons_succ, List.length_map, false_and, reduceCtorEq, exists_false, exists_const, Int.toNat_natCast, Bool.not_true, Bool.not_false, decide_true, decide_false, Lp.len_ls, h3]
    refine ctF_run (false, rs) rfl (by show (dd rs).length < 64; omega) ?_
    try simp only [Lp.wpSs, Lp.wpS, Lp.wpE, Lp.wpEs, Lp.wpSrc, Lp.wpH, Lp.bindT, Lp.bindTs, Lp.wipeE, Lp.q_ix1, Lp.q_ix2, Lp.q_ix3, Lp.q_ix4, Lp.q_lt, Lp.q_le, Lp.q_gt, Lp.q_ge, Lp.q_slt, Lp.q_sle, Lp.q_sgt, Lp.q_sge, Lp.q_in1, Lp.q_ni1, Lp.q_in2, Lp.q_ni2, Lp.q_in3, Lp.q_ni3, Lp.q_in4, Lp.q_ni4, Lp.q_in5, Lp.q_ni5, Lp.q_eqi, Lp.q_nei, Lp.q_addi, Lp.q_adds, Lp.q_addl, Lp.q_addt, Lp.q_subi, Lp.q_muli, Lp.q_muls, Lp.q_mull, Lp.q_fdiv, Lp.q_mod, Lp.q_pow, Lp.q_len1, Lp.q_len2, Lp.q_len3, Lp.q_len4, Lp.q_len5, Lp.q_int1, Lp.q_int2, Lp.q_abs, Lp.q_min, Lp.q_max, Lp.q_list1, Lp.q_list2, Lp.q_list3, Lp.q_tuple1, Lp.q_tuple2, Lp.q_sorted, Lp.q_sum, Lp.q_it1, Lp.q_it2, Lp.q_it3, Lp.q_it4, Lp.q_sl1, Lp.q_sl2, Lp.q_sl3, Lp.q_k1, Lp.q_k2, List.getElem?_cons_zero, List.getElem?_cons_succ, Option.some.injEq, Prod.mk.injEq, D.bl.injEq, D.lst.injEq, true_and, and_true, exists_eq_left', exists_eq_left, List.set_cons_zero, List.set_cons_succ, List.length_map, false_and, reduceCtorEq, exists_false, exists_const, Int.toNat_natCast, Bool.not_true, Bool.not_false, decide_true, decide_false, Lp.len_ls, t.rows]
    refine if_p (fun h => ?_) fun h => ?_
    · rw [uniq_len] at h
      omega
    refine ⟨_, _, t.wA, rfl, by decide, ?_⟩
    try simp only [Lp.wpSs, Lp.wpS, Lp.wpE, Lp.wpEs, Lp.wpSrc, Lp.wpH, Lp.bindT, Lp.bindTs, Lp.wipeE, Lp.q_ix1, Lp.q_ix2, Lp.q_ix3, Lp.q_ix4, Lp.q_lt, Lp.q_le, Lp.q_gt, Lp.q_ge, Lp.q_slt, Lp.q_sle, Lp.q_sgt, Lp.q_sge, Lp.q_in1, Lp.q_ni1, Lp.q_in2, Lp.q_ni2, Lp.q_in3, Lp.q_ni3, Lp.q_in4, Lp.q_ni4, Lp.q_in5, Lp.q_ni5, Lp.q_eqi, Lp.q_nei, Lp.q_addi, Lp.q_adds, Lp.q_addl, Lp.q_addt, Lp.q_subi, Lp.q_muli, Lp.q_muls, Lp.q_mull, Lp.q_fdiv, Lp.q_mod, Lp.q_pow, Lp.q_len1, Lp.q_len2, Lp.q_len3, Lp.q_len4, Lp.q_len5, Lp.q_int1, Lp.q_int2, Lp.q_abs, Lp.q_min, Lp.q_max, Lp.q_list1, Lp.q_list2, Lp.q_list3, Lp.q_tuple1, Lp.q_tuple2, Lp.q_sorted, Lp.q_sum, Lp.q_it1, Lp.q_it2, Lp.q_it3, Lp.q_it4, Lp.q_sl1, Lp.q_sl2, Lp.q_sl3, Lp.q_k1, Lp.q_k2, List.getElem?_cons_zero, List.getElem?_cons_succ, Option.some.injEq, Prod.mk.injEq, D.bl.injEq, D.lst.injEq, true_and, and_true, exists_eq_left', exists_eq_left, List.set_cons_zero, List.set_cons_succ, List.length_map, false_and, reduceCtorEq, exists_false, exists_const, Int.toNat_natCast, Bool.not_true, Bool.not_false, decide_true, decide_false, Lp.len_ls]
    refine ⟨_, _, t.wP, rfl, putFD_lt (n := 899) (by decide), ?_⟩
    try simp only [Lp.wpSs, Lp.wpS, Lp.wpE, Lp.wpEs, Lp.wpSrc, Lp.wpH, Lp.bindT, Lp.bindTs, Lp.wipeE, Lp.q_ix1, Lp.q_ix2, Lp.q_ix3, Lp.q_ix4, Lp.q_lt, Lp.q_le, Lp.q_gt, Lp.q_ge, Lp.q_slt, Lp.q_sle, Lp.q_sgt, Lp.q_sge, Lp.q_in1, Lp.q_ni1, Lp.q_in2, Lp.q_ni2, Lp.q_in3, Lp.q_ni3, Lp.q_in4, Lp.q_ni4, Lp.q_in5, Lp.q_ni5, Lp.q_eqi, Lp.q_nei, Lp.q_addi, Lp.q_adds, Lp.q_addl, Lp.q_addt, Lp.q_subi, Lp.q_muli, Lp.q_muls, Lp.q_mull, Lp.q_fdiv, Lp.q_mod, Lp.q_pow, Lp.q_len1, Lp.q_len2, Lp.q_len3, Lp.q_len4, Lp.q_len5, Lp.q_int1, Lp.q_int2, Lp.q_abs, Lp.q_min, Lp.q_max, Lp.q_list1, Lp.q_list2, Lp.q_list3, Lp.q_tuple1, Lp.q_tuple2, Lp.q_sorted, Lp.q_sum, Lp.q_it1, Lp.q_it2, Lp.q_it3, Lp.q_it4, Lp.q_sl1, Lp.q_sl2, Lp.q_sl3, Lp.q_k1, Lp.q_k2, List.getElem?_cons_zero, List.getElem?_cons_succ, Option.some.injEq, Prod.mk.injEq, D.bl.injEq, D.lst.injEq, true_and, and_true, exists_eq_left', exists_eq_left, List.set_cons_zero, List.set_cons_succ, List.length_map, false_and, reduceCtorEq, exists_false, exists_const, Int.toNat_natCast, Bool.not_true, Bool.not_false, decide_true, decide_false, Lp.len_ls]
    refine ⟨_, _, t.wR, rfl, putFD_lt (n := 899) (putFD_lt (n := 898) (by decide)), ?_⟩
    try try simp only [Lp.wpSs, Lp.wpS, Lp.wpE, Lp.wpEs, Lp.wpSrc, Lp.wpH, Lp.bindT, Lp.bindTs, Lp.wipeE, Lp.q_ix1, Lp.q_ix2, Lp.q_ix3, Lp.q_ix4, Lp.q_lt, Lp.q_le, Lp.q_gt, Lp.q_ge, Lp.q_slt, Lp.q_sle, Lp.q_sgt, Lp.q_sge, Lp.q_in1, Lp.q_ni1, Lp.q_in2, Lp.q_ni2, Lp.q_in3, Lp.q_ni3, Lp.q_in4, Lp.q_ni4, Lp.q_in5, Lp.q_ni5, Lp.q_eqi, Lp.q_nei, Lp.q_addi, Lp.q_adds, Lp.q_addl, Lp.q_addt, Lp.q_subi, Lp.q_muli, Lp.q_muls, Lp.q_mull, Lp.q_fdiv, Lp.q_mod, Lp.q_pow, Lp.q_len1, Lp.q_len2, Lp.q_len3, Lp.q_len4, Lp.q_len5, Lp.q_int1, Lp.q_int2, Lp.q_abs, Lp.q_min, Lp.q_max, Lp.q_list1, Lp.q_list2, Lp.q_list3, Lp.q_tuple1, Lp.q_tuple2, Lp.q_sorted, Lp.q_sum, Lp.q_it1, Lp.q_it2, Lp.q_it3, Lp.q_it4, Lp.q_sl1, Lp.q_sl2, Lp.q_sl3, Lp.q_k1, Lp.q_k2, List.getElem?_cons_zero, List.getElem?_cons_succ, Option.some.injEq, Prod.mk.injEq, D.bl.injEq, D.lst.injEq, true_and, and_true, exists_eq_left', exists_eq_left, List.set_cons_zero, List.set_cons_succ, List.length_map, false_and, reduceCtorEq, exists_false, exists_const, Int.toNat_natCast, Bool.not_true, Bool.not_false, decide_true, decide_false, Lp.len_ls]
    refine ⟨_, _, t.wK, rfl, putFD_lt (n := 899) (putFD_lt (n := 898) (putFD_lt (n := 897) (by decide))), ?_⟩
    try simp only [Lp.wpSs, Lp.wpS, Lp.wpE, Lp.wpEs, Lp.wpSrc, Lp.wpH, Lp.bindT, Lp.bindTs, Lp.wipeE, Lp.q_ix1, Lp.q_ix2, Lp.q_ix3, Lp.q_ix4, Lp.q_lt, Lp.q_le, Lp.q_gt, Lp.q_ge, Lp.q_slt, Lp.q_sle, Lp.q_sgt, Lp.q_sge, Lp.q_in1, Lp.q_ni1, Lp.q_in2, Lp.q_ni2, Lp.q_in3, Lp.q_ni3, Lp.q_in4, Lp.q_ni4, Lp.q_in5, Lp.q_ni5, Lp.q_eqi, Lp.q_nei, Lp.q_addi, Lp.q_adds, Lp.q_addl, Lp.q_addt, Lp.q_subi, Lp.q_muli, Lp.q_muls, Lp.q_mull, Lp.q_fdiv, Lp.q_mod, Lp.q_pow, Lp.q_len1, Lp.q_len2, Lp.q_len3, Lp.q_len4, Lp.q_len5, Lp.q_int1, Lp.q_int2, Lp.q_abs, Lp.q_min, Lp.q_max, Lp.q_list1, Lp.q_list2, Lp.q_list3, Lp.q_tuple1, Lp.q_tuple2, Lp.q_sorted, Lp.q_sum, Lp.q_it1, Lp.q_it2, Lp.q_it3, Lp.q_it4, Lp.q_sl1, Lp.q_sl2, Lp.q_sl3, Lp.q_k1, Lp.q_k2, List.getElem?_cons_zero, List.getElem?_cons_succ, Option.some.injEq, Prod.mk.injEq, D.bl.injEq, D.lst.injEq, true_and, and_true, exists_eq_left', exists_eq_left, List.set_cons_zero, List.set_cons_succ, List.length_map, false_and, reduceCtorEq, exists_false, exists_const, Int.toNat_natCast, Bool.not_true, Bool.not_false, decide_true, decide_false, Lp.len_ls, h4]
    refine ctF_run (n, uniq rs) rfl ⟨fun e => ?_, fun r hr => ?_, w6, by rw [uniq_len]; exact few⟩ ?_
    · have h0 := mem_uniq.mpr (List.mem_of_getElem? h0)
      rw [show uniq rs = [] from e] at h0
      cases h0
    · have : ((ls r).length : Int) = n := (ok.row r (mem_uniq.mp hr)).1
      show (ls r).length = n
      omega
    · rw [wf_put]; exact hq
def c_web_of : Ct := ct (fun p : (Str × Int × List Str) × List Int => [klass p.1.1 p.1.2.1 p.1.2.2, .tup (p.2.map .int)]) (fun p => KOk p.1)
  (fun p d => bagOk p.1.2.1 p.2 ∧ d = webD p.1.1 p.2.length (uniq (p.1.2.2.map fun r => rowOf r p.2))) fun p x => ¬ bagOk p.1.2.1 p.2 ∧ x = badBag p.2
theorem r_web_of {T : Tab} (t : Cs T) (h1 : T.fn "rows_seen" = some c_rows_seen) (h2 : T.cls "Web" = some c_Web) :
    ∀ ds Q X, c_web_of.run ds Q X → wpSs T b_web_of (env0 N_web_of ds) { nx := fun _ => Q .non, rt := Q, bk := fun _ => False, ct := fun _ => False, ex := fun _ => X } := by
  rintro ds Q X ⟨⟨⟨a, w, rs⟩, bag⟩, rfl, ok, hq, hx⟩
  have ok : KOk (a, w, rs) := ok
  have lr : rs.length ≤ 32 := ok.len
  show wpSs T b_web_of [some (false, .ins "RuleClass" (kf a w rs)), some (false, .tup (bag.map .int))] _
  unfold b_web_of
  try simp only [Lp.wpSs, Lp.wpS, Lp.wpE, Lp.wpEs, Lp.wpSrc, Lp.wpH, Lp.bindT, Lp.bindTs, Lp.wipeE, Lp.q_ix1, Lp.q_ix2, Lp.q_ix3, Lp.q_ix4, Lp.q_lt, Lp.q_le, Lp.q_gt, Lp.q_ge, Lp.q_slt, Lp.q_sle, Lp.q_sgt, Lp.q_sge, Lp.q_in1, Lp.q_ni1, Lp.q_in2, Lp.q_ni2, Lp.q_in3, Lp.q_ni3, Lp.q_in4, Lp.q_ni4, Lp.q_in5, Lp.q_ni5, Lp.q_eqi, Lp.q_nei, Lp.q_addi, Lp.q_adds, Lp.q_addl, Lp.q_addt, Lp.q_subi, Lp.q_muli, Lp.q_muls, Lp.q_mull, Lp.q_fdiv, Lp.q_mod, Lp.q_pow, Lp.q_len1, Lp.q_len2, Lp.q_len3, Lp.q_len4, Lp.q_len5, Lp.q_int1, Lp.q_int2, Lp.q_abs, Lp.q_min, Lp.q_max, Lp.q_list1, Lp.q_list2, Lp.q_list3, Lp.q_tuple1, Lp.q_tuple2, Lp.q_sorted, Lp.q_sum, Lp.q_it1, Lp.q_it2, Lp.q_it3, Lp.q_it4, Lp.q_sl1, Lp.q_sl2, Lp.q_sl3, Lp.q_k1, Lp.q_k2, List.getElem?_cons_zero, List.getElem?_cons_succ, Option.some.injEq, Prod.mk.injEq, D.bl.injEq, D.lst.injEq, true_and, and_true, exists_eq_left', exists_eq_left, List.set_cons_zero, List.set_cons_succ, List.length_map, false_and, reduceCtorEq, exists_false, exists_const, Int.toNat_natCast, Bool.not_true, Bool.not_false, decide_true, decide_false, Lp.len_ls, h1, h2, t.kA, kf_a]
  refine ct_run ((a, w, rs), bag) rfl ok (fun d hd => ?_) fun x h => hx x h
  obtain ⟨hb, rfl⟩ := hd
  have hb : bagOk w bag := hb
  have b6 : bag.length ≤ 6 := hb.2.1
  have ul : (uniq (rs.map fun r => rowOf r bag)).length ≤ 32 := by
    have := dd_len_le (rs.map fun r => rowOf r bag)
    rw [List.length_map] at this
    rw [uniq_len]; omega
  refine ctF_run (a, bag.length, uniq (rs.map fun r => rowOf r bag)) rfl ⟨ok.cls.ans, hb.1, b6, fun e => ?_, fun r hr => ?_, Nat.le_trans (dd_len_le _) ul, by show (uniq _).length ≤ 1000; omega⟩ (hq _ ⟨hb, ?_⟩)
  · cases hrs : rs with
    | nil => exact ok.cls.ne hrs
    | cons r t =>
      have : rowOf r bag ∈ uniq (rs.map fun r => rowOf r bag) := mem_uniq.mpr (List.mem_map.mpr ⟨r, by rw [hrs]; exact List.mem_cons_self, rfl⟩)
      rw [show uniq (rs.map fun r => rowOf r bag) = [] from e] at this
      cases this
  · obtain ⟨r0, h0, rfl⟩ := List.mem_map.mp (mem_uniq.mp hr)
    exact rowOf_ok (ok.cls.row r0 h0) hb.qs
  · show webD a bag.length (uniq (uniq _)) = _
    rw [uniq_self (uniq_asc _)]
end K9
namespace K9
open PySem L2 Lp
theorem log_lt {i : Int} (h : i.natAbs < 2 ^ 64) : i.natAbs.log2 < 64 := by
  by_cases e : i.natAbs = 0
  · rw [e]; decide
  · exact (Nat.log2_lt e).mpr h
theorem log2_lt {i j : Int} (h1 : i.natAbs < 2 ^ 64) (h2 : j.natAbs < 2 ^ 64) : i.natAbs.log2 + j.natAbs.log2 < 1000000 := by
  have := log_lt h1
  have := log_lt h2
  omega
theorem p64 : (2 : Nat) ^ 64 = 18446744073709551616 := by decide
/-! _law_cell -/
def c_cell : Ct := ct (fun p : List Int × Int => [.scr p.1, .int p.2]) (fun p => 0 ≤ p.2 ∧ p.2 ≤ 1000) (fun _ d => ∃ c, d = .int c) fun _ _ => False
theorem r_cell {T : Tab} : ∀ ds Q X, c_cell.run ds Q X → wpSs T b__law_cell (env0 N__law_cell ds) { nx := fun _ => Q .non, rt := Q, bk := fun _ => False, ct := fun _ => False, ex := fun _ => X } := by
  rintro ds Q X ⟨⟨ns, k⟩, rfl, ⟨k0, k1⟩, hq, -⟩
  have k0 : 0 ≤ k := k0
  have k1 : k ≤ 1000 := k1
  show wpSs T b__law_cell [some (false, .scr ns), some (false, .int k), none, none] _
  unfold b__law_cell
  try simp only [Lp.wpSs, Lp.wpS, Lp.wpE, Lp.wpEs, Lp.wpSrc, Lp.wpH, Lp.bindT, Lp.bindTs, Lp.wipeE, Lp.q_ix1, Lp.q_ix2, Lp.q_ix3, Lp.q_ix4, Lp.q_lt, Lp.q_le, Lp.q_gt, Lp.q_ge, Lp.q_slt, Lp.q_sle, Lp.q_sgt, Lp.q_sge, Lp.q_in1, Lp.q_ni1, Lp.q_in2, Lp.q_ni2, Lp.q_in3, Lp.q_ni3, Lp.q_in4, Lp.q_ni4, Lp.q_in5, Lp.q_ni5, Lp.q_eqi, Lp.q_nei, Lp.q_addi, Lp.q_adds, Lp.q_addl, Lp.q_addt, Lp.q_subi, Lp.q_muli, Lp.q_muls, Lp.q_mull, Lp.q_fdiv, Lp.q_mod, Lp.q_pow, Lp.q_len1, Lp.q_len2, Lp.q_len3, Lp.q_len4, Lp.q_len5, Lp.q_int1, Lp.q_int2, Lp.q_abs, Lp.q_min, Lp.q_max, Lp.q_list1, Lp.q_list2, Lp.q_list3, Lp.q_tuple1, Lp.q_tuple2, Lp.q_sorted, Lp.q_sum, Lp.q_it1, Lp.q_it2, Lp.q_it3, Lp.q_it4, Lp.q_sl1, Lp.q_sl2, Lp.q_sl3, Lp.q_k1, Lp.q_k2, List.getElem?_cons_zero, List.getElem?_cons_succ, Option.some.injEq, Prod.mk.injEq, D.bl.injEq, D.lst.injEq, true_and, and_true, exists_eq_left', exists_eq_left, List.set_cons_zero, List.set_cons_succ, List.length_map, false_and, reduceCtorEq, exists_false, exists_const, Int.toNat_natCast, Bool.not_true, Bool.not_false, decide_true, decide_false, Lp.len_ls]
  refine if_p (fun h => ⟨_, at_int k0 (List.getElem?_eq_getElem (by omega)), hq _ ⟨_, rfl⟩⟩) fun h => ?_
  refine wpFor_map (fun _ env => ∃ s v, env = [some (false, .scr ns), some (false, .int k), some (false, .int s), v] ∧ 0 ≤ s ∧ s < 1000003) ⟨17, _, rfl, by decide, by decide⟩ (fun pre c post env K hx hI hK => ?_) fun env hI => ?_
  · obtain ⟨s, v, rfl, s0, s1⟩ := hI
    try simp only [Lp.wpSs, Lp.wpS, Lp.wpE, Lp.wpEs, Lp.wpSrc, Lp.wpH, Lp.bindT, Lp.bindTs, Lp.wipeE, Lp.q_ix1, Lp.q_ix2, Lp.q_ix3, Lp.q_ix4, Lp.q_lt, Lp.q_le, Lp.q_gt, Lp.q_ge, Lp.q_slt, Lp.q_sle, Lp.q_sgt, Lp.q_sge, Lp.q_in1, Lp.q_ni1, Lp.q_in2, Lp.q_ni2, Lp.q_in3, Lp.q_ni3, Lp.q_in4, Lp.q_ni4, Lp.q_in5, Lp.q_ni5, Lp.q_eqi, Lp.q_nei, Lp.q_addi, Lp.q_adds, Lp.q_addl, Lp.q_addt, Lp.q_subi, Lp.q_muli, Lp.q_muls, Lp.q_mull, Lp.q_fdiv, Lp.q_mod, Lp.q_pow, Lp.q_len1, Lp.q_len2, Lp.q_len3, Lp.q_len4, Lp.q_len5, Lp.q_int1, Lp.q_int2, Lp.q_abs, Lp.q_min, Lp.q_max, Lp.q_list1, Lp.q_list2, Lp.q_list3, Lp.q_tuple1, Lp.q_tuple2, Lp.q_sorted, Lp.q_sum, Lp.q_it1, Lp.q_it2, Lp.q_it3, Lp.q_it4, Lp.q_sl1, Lp.q_sl2, Lp.q_sl3, Lp.q_k1, Lp.q_k2, List.getElem?_cons_zero, List.getElem?_cons_succ, Option.some.injEq, Prod.mk.injEq, D.bl.injEq, D.lst.injEq, true_and, and_true, exists_eq_left', exists_eq_left, List.set_cons_zero, List.set_cons_succ, List.length_map, false_and, reduceCtorEq, exists_false, exists_const, Int.toNat_natCast, Bool.not_true, Bool.not_false, decide_true, decide_false, Lp.len_ls]
    refine ⟨log2_lt (by rw [p64]; omega) (by decide), by decide, by decide, hK _ ⟨_, _, rfl, Int.emod_nonneg _ (by decide), Int.emod_lt_of_pos _ (by decide)⟩⟩
  · obtain ⟨s, v, rfl, s0, s1⟩ := hI
    try simp only [Lp.wpSs, Lp.wpS, Lp.wpE, Lp.wpEs, Lp.wpSrc, Lp.wpH, Lp.bindT, Lp.bindTs, Lp.wipeE, Lp.q_ix1, Lp.q_ix2, Lp.q_ix3, Lp.q_ix4, Lp.q_lt, Lp.q_le, Lp.q_gt, Lp.q_ge, Lp.q_slt, Lp.q_sle, Lp.q_sgt, Lp.q_sge, Lp.q_in1, Lp.q_ni1, Lp.q_in2, Lp.q_ni2, Lp.q_in3, Lp.q_ni3, Lp.q_in4, Lp.q_ni4, Lp.q_in5, Lp.q_ni5, Lp.q_eqi, Lp.q_nei, Lp.q_addi, Lp.q_adds, Lp.q_addl, Lp.q_addt, Lp.q_subi, Lp.q_muli, Lp.q_muls, Lp.q_mull, Lp.q_fdiv, Lp.q_mod, Lp.q_pow, Lp.q_len1, Lp.q_len2, Lp.q_len3, Lp.q_len4, Lp.q_len5, Lp.q_int1, Lp.q_int2, Lp.q_abs, Lp.q_min, Lp.q_max, Lp.q_list1, Lp.q_list2, Lp.q_list3, Lp.q_tuple1, Lp.q_tuple2, Lp.q_sorted, Lp.q_sum, Lp.q_it1, Lp.q_it2, Lp.q_it3, Lp.q_it4, Lp.q_sl1, Lp.q_sl2, Lp.q_sl3, Lp.q_k1, Lp.q_k2, List.getElem?_cons_zero, List.getElem?_cons_succ, Option.some.injEq, Prod.mk.injEq, D.bl.injEq, D.lst.injEq, true_and, and_true, exists_eq_left', exists_eq_left, List.set_cons_zero, List.set_cons_succ, List.length_map, false_and, reduceCtorEq, exists_false, exists_const, Int.toNat_natCast, Bool.not_true, Bool.not_false, decide_true, decide_false, Lp.len_ls]
    have b1 : 0 ≤ (s + 7) * (k + 3) := Int.mul_nonneg (by omega) (by omega)
    have b2 : (s + 7) * (k + 3) ≤ 1000010 * 1003 := Int.mul_le_mul (by omega) (by omega) (by omega) (by decide)
    refine ⟨log2_lt (by rw [p64]; omega) (by rw [p64]; omega), log2_lt (by rw [p64]; omega) (by decide), by decide, hq _ ⟨_, rfl⟩⟩
/-! _law_digits -/
def digOk (row sizes : List Int) : Prop := row.length = sizes.length ∧ ∀ (i : Nat) (x s : Int), row[i]? = some x → sizes[i]? = some s → 0 ≤ x ∧ x < s
theorem dig_nil : digOk [] [] := ⟨rfl, fun i x s h => by cases h⟩
theorem dig_snoc {row sizes : List Int} {x s : Int} (h : digOk row sizes) (h0 : 0 ≤ x) (h1 : x < s) : digOk (row ++ [x]) (sizes ++ [s]) := by
  refine ⟨by rw [List.length_append, List.length_append, h.1]; rfl, fun i y z e1 e2 => ?_⟩
  by_cases hi : i < row.length
  · rw [List.getElem?_append_left hi] at e1
    rw [List.getElem?_append_left (by rw [← h.1]; exact hi)] at e2
    exact h.2 i y z e1 e2
  · have hl := (List.getElem?_eq_some_iff.mp e1).1
    rw [List.length_append, List.length_singleton] at hl
    rw [List.getElem?_append_right (by omega), show i - row.length = 0 by omega] at e1
    rw [List.getElem?_append_right (by rw [← h.1]; omega), ← h.1, show i - row.length = 0 by omega] at e2
    cases e1; cases e2
    exact ⟨h0, h1⟩
theorem dig_at {row sizes : List Int} (h : digOk row sizes) {i : Nat} {s : Int} (e : sizes[i]? = some s) : ∃ x, row[i]? = some x ∧ 0 ≤ x ∧ x < s := by
  have hl := (List.getElem?_eq_some_iff.mp e).1
  have e1 : row[i]? = some (row[i]'(by rw [h.1]; exact hl)) := List.getElem?_eq_getElem _
  exact ⟨_, e1, h.2 i _ _ e1 e⟩
def c_digits : Ct := ct (fun p : Int × List Int => [.int p.1, .lst (p.2.map .int)]) (fun p => p.2.length ≤ 1000 ∧ ∀ s ∈ p.2, 0 < s ∧ s < 4294967296) (fun p d => ∃ row, d = .lst (row.map .int) ∧ digOk row p.2) fun _ _ => False
theorem r_digits {T : Tab} : ∀ ds Q X, c_digits.run ds Q X → wpSs T b__law_digits (env0 N__law_digits ds) { nx := fun _ => Q .non, rt := Q, bk := fun _ => False, ct := fun _ => False, ex := fun _ => X } := by
  rintro ds Q X ⟨⟨cell, sizes⟩, rfl, ⟨hl, hs⟩, hq, -⟩
  have hl : sizes.length ≤ 1000 := hl
  have hs : ∀ s ∈ sizes, 0 < s ∧ s < 4294967296 := hs
  show wpSs T b__law_digits [some (false, .int cell), some (false, .lst (sizes.map .int)), none, none, none, none, none, none] _
  unfold b__law_digits
  try simp only [Lp.wpSs, Lp.wpS, Lp.wpE, Lp.wpEs, Lp.wpSrc, Lp.wpH, Lp.bindT, Lp.bindTs, Lp.wipeE, Lp.q_ix1, Lp.q_ix2, Lp.q_ix3, Lp.q_ix4, Lp.q_lt, Lp.q_le, Lp.q_gt, Lp.q_ge, Lp.q_slt, Lp.q_sle, Lp.q_sgt, Lp.q_sge, Lp.q_in1, Lp.q_ni1, Lp.q_in2, Lp.q_ni2, Lp.q_in3, Lp.q_ni3, Lp.q_in4, Lp.q_ni4, Lp.q_in5, Lp.q_ni5, Lp.q_eqi, Lp.q_nei, Lp.q_addi, Lp.q_adds, Lp.q_addl, Lp.q_addt, Lp.q_subi, Lp.q_muli, Lp.q_muls, Lp.q_mull, Lp.q_fdiv, Lp.q_mod, Lp.q_pow, Lp.q_len1, Lp.q_len2, Lp.q_len3, Lp.q_len4, Lp.q_len5, Lp.q_int1, Lp.q_int2, Lp.q_abs, Lp.q_min, Lp.q_max, Lp.q_list1, Lp.q_list2, Lp.q_list3, Lp.q_tuple1, Lp.q_tuple2, Lp.q_sorted, Lp.q_sum, Lp.q_it1, Lp.q_it2, Lp.q_it3, Lp.q_it4, Lp.q_sl1, Lp.q_sl2, Lp.q_sl3, Lp.q_k1, Lp.q_k2, List.getElem?_cons_zero, List.getElem?_cons_succ, Option.some.injEq, Prod.mk.injEq, D.bl.injEq, D.lst.injEq, true_and, and_true, exists_eq_left', exists_eq_left, List.set_cons_zero, List.set_cons_succ, List.length_map, false_and, reduceCtorEq, exists_false, exists_const, Int.toNat_natCast, Bool.not_true, Bool.not_false, decide_true, decide_false, Lp.len_ls]
  refine ⟨Nat.zero_le _, ⟨by decide, by decide, by decide⟩, if_p (fun h => ⟨⟨by decide, by decide, by decide⟩, ?_⟩) fun h => ⟨by decide, by omega, ?_⟩⟩
  · refine wpFor_map (fun pre env => ∃ row r v, env = [some (false, .int cell), some (false, .lst (sizes.map .int)), some (true, .lst (row.map .int)), some (false, .int r), v, none, none, none] ∧ digOk row pre) ⟨[], _, _, rfl, dig_nil⟩ (fun pre s post env K hx hI hK => ?_) fun env hI => ?_
    · obtain ⟨row, r, v, rfl, ok⟩ := hI
      obtain ⟨s0, s1⟩ := hs s (by rw [hx]; simp)
      try simp only [Lp.wpSs, Lp.wpS, Lp.wpE, Lp.wpEs, Lp.wpSrc, Lp.wpH, Lp.bindT, Lp.bindTs, Lp.wipeE, Lp.q_ix1, Lp.q_ix2, Lp.q_ix3, Lp.q_ix4, Lp.q_lt, Lp.q_le, Lp.q_gt, Lp.q_ge, Lp.q_slt, Lp.q_sle, Lp.q_sgt, Lp.q_sge, Lp.q_in1, Lp.q_ni1, Lp.q_in2, Lp.q_ni2, Lp.q_in3, Lp.q_ni3, Lp.q_in4, Lp.q_ni4, Lp.q_in5, Lp.q_ni5, Lp.q_eqi, Lp.q_nei, Lp.q_addi, Lp.q_adds, Lp.q_addl, Lp.q_addt, Lp.q_subi, Lp.q_muli, Lp.q_muls, Lp.q_mull, Lp.q_fdiv, Lp.q_mod, Lp.q_pow, Lp.q_len1, Lp.q_len2, Lp.q_len3, Lp.q_len4, Lp.q_len5, Lp.q_int1, Lp.q_int2, Lp.q_abs, Lp.q_min, Lp.q_max, Lp.q_list1, Lp.q_list2, Lp.q_list3, Lp.q_tuple1, Lp.q_tuple2, Lp.q_sorted, Lp.q_sum, Lp.q_it1, Lp.q_it2, Lp.q_it3, Lp.q_it4, Lp.q_sl1, Lp.q_sl2, Lp.q_sl3, Lp.q_k1, Lp.q_k2, List.getElem?_cons_zero, List.getElem?_cons_succ, Option.some.injEq, Prod.mk.injEq, D.bl.injEq, D.lst.injEq, true_and, and_true, exists_eq_left', exists_eq_left, List.set_cons_zero, List.set_cons_succ, List.length_map, false_and, reduceCtorEq, exists_false, exists_const, Int.toNat_natCast, Bool.not_true, Bool.not_false, decide_true, decide_false, Lp.len_ls]
      have := congrArg List.length hx
      rw [List.length_append, List.length_cons] at this
      refine ⟨s0, by rw [szl, ok.1]; omega, ⟨s0, Nat.lt_trans (log_lt (by rw [p64]; omega)) (by decide)⟩, hK _ ⟨row ++ [r % s], _, _, by rw [List.map_append]; rfl, dig_snoc ok (Int.emod_nonneg _ (by omega)) (Int.emod_lt_of_pos _ s0)⟩⟩
    · obtain ⟨row, r, v, rfl, ok⟩ := hI
      try simp only [Lp.wpSs, Lp.wpS, Lp.wpE, Lp.wpEs, Lp.wpSrc, Lp.wpH, Lp.bindT, Lp.bindTs, Lp.wipeE, Lp.q_ix1, Lp.q_ix2, Lp.q_ix3, Lp.q_ix4, Lp.q_lt, Lp.q_le, Lp.q_gt, Lp.q_ge, Lp.q_slt, Lp.q_sle, Lp.q_sgt, Lp.q_sge, Lp.q_in1, Lp.q_ni1, Lp.q_in2, Lp.q_ni2, Lp.q_in3, Lp.q_ni3, Lp.q_in4, Lp.q_ni4, Lp.q_in5, Lp.q_ni5, Lp.q_eqi, Lp.q_nei, Lp.q_addi, Lp.q_adds, Lp.q_addl, Lp.q_addt, Lp.q_subi, Lp.q_muli, Lp.q_muls, Lp.q_mull, Lp.q_fdiv, Lp.q_mod, Lp.q_pow, Lp.q_len1, Lp.q_len2, Lp.q_len3, Lp.q_len4, Lp.q_len5, Lp.q_int1, Lp.q_int2, Lp.q_abs, Lp.q_min, Lp.q_max, Lp.q_list1, Lp.q_list2, Lp.q_list3, Lp.q_tuple1, Lp.q_tuple2, Lp.q_sorted, Lp.q_sum, Lp.q_it1, Lp.q_it2, Lp.q_it3, Lp.q_it4, Lp.q_sl1, Lp.q_sl2, Lp.q_sl3, Lp.q_k1, Lp.q_k2, List.getElem?_cons_zero, List.getElem?_cons_succ, Option.some.injEq, Prod.mk.injEq, D.bl.injEq, D.lst.injEq, true_and, and_true, exists_eq_left', exists_eq_left, List.set_cons_zero, List.set_cons_succ, List.length_map, false_and, reduceCtorEq, exists_false, exists_const, Int.toNat_natCast, Bool.not_true, Bool.not_false, decide_true, decide_false, Lp.len_ls]
      exact hq _ ⟨row, rfl, ok⟩
  · refine wpFor_range (fun i env => ∃ row sd v w, env = [some (false, .int cell), some (false, .lst (sizes.map .int)), some (true, .lst (row.map .int)), some (false, .int cell), none, some (false, .int sd), v, w] ∧ digOk row (sizes.take i) ∧ 0 ≤ sd ∧ sd < 2147483647) ⟨[], _, _, _, rfl, dig_nil, Int.emod_nonneg _ (by decide), Int.lt_trans (Int.emod_lt_of_pos _ (by decide)) (by decide)⟩ (fun i hi env K hI hK => ?_) fun env hI => ?_
    · obtain ⟨row, sd, v, w, rfl, ok, d0, d1⟩ := hI
      obtain ⟨s, hsz⟩ : ∃ c, sizes[i]? = some c := ⟨_, List.getElem?_eq_getElem hi⟩
      obtain ⟨s0, s1⟩ := hs s (List.mem_of_getElem? hsz)
      try simp only [Lp.wpSs, Lp.wpS, Lp.wpE, Lp.wpEs, Lp.wpSrc, Lp.wpH, Lp.bindT, Lp.bindTs, Lp.wipeE, Lp.q_ix1, Lp.q_ix2, Lp.q_ix3, Lp.q_ix4, Lp.q_lt, Lp.q_le, Lp.q_gt, Lp.q_ge, Lp.q_slt, Lp.q_sle, Lp.q_sgt, Lp.q_sge, Lp.q_in1, Lp.q_ni1, Lp.q_in2, Lp.q_ni2, Lp.q_in3, Lp.q_ni3, Lp.q_in4, Lp.q_ni4, Lp.q_in5, Lp.q_ni5, Lp.q_eqi, Lp.q_nei, Lp.q_addi, Lp.q_adds, Lp.q_addl, Lp.q_addt, Lp.q_subi, Lp.q_muli, Lp.q_muls, Lp.q_mull, Lp.q_fdiv, Lp.q_mod, Lp.q_pow, Lp.q_len1, Lp.q_len2, Lp.q_len3, Lp.q_len4, Lp.q_len5, Lp.q_int1, Lp.q_int2, Lp.q_abs, Lp.q_min, Lp.q_max, Lp.q_list1, Lp.q_list2, Lp.q_list3, Lp.q_tuple1, Lp.q_tuple2, Lp.q_sorted, Lp.q_sum, Lp.q_it1, Lp.q_it2, Lp.q_it3, Lp.q_it4, Lp.q_sl1, Lp.q_sl2, Lp.q_sl3, Lp.q_k1, Lp.q_k2, List.getElem?_cons_zero, List.getElem?_cons_succ, Option.some.injEq, Prod.mk.injEq, D.bl.injEq, D.lst.injEq, true_and, and_true, exists_eq_left', exists_eq_left, List.set_cons_zero, List.set_cons_succ, List.length_map, false_and, reduceCtorEq, exists_false, exists_const, Int.toNat_natCast, Bool.not_true, Bool.not_false, decide_true, decide_false, Lp.len_ls]
      generalize hsd : (sd * 48271 + 974711 * (i : Int) + 12345) % 2147483647 = sd2
      have e0 : 0 ≤ sd2 := by rw [← hsd]; exact Int.emod_nonneg _ (by decide)
      have e1 : sd2 < 2147483647 := by rw [← hsd]; exact Int.emod_lt_of_pos _ (by decide)
      have e2 : 0 ≤ sd2 / 65537 := Int.ediv_nonneg e0 (by decide)
      have e3 : sd2 / 65537 ≤ sd2 := Int.ediv_le_self _ e0
      refine ⟨log2_lt (by rw [p64]; omega) (by decide), log2_lt (by decide) (by rw [p64]; omega), by decide, ⟨by decide, by decide +kernel⟩, log2_lt (by rw [p64]; omega) (by rw [p64]; omega), by decide, ⟨by decide, by decide +kernel⟩, _, at_map D.int (at_nat hsz), ?_⟩
      try simp only [Lp.wpSs, Lp.wpS, Lp.wpE, Lp.wpEs, Lp.wpSrc, Lp.wpH, Lp.bindT, Lp.bindTs, Lp.wipeE, Lp.q_ix1, Lp.q_ix2, Lp.q_ix3, Lp.q_ix4, Lp.q_lt, Lp.q_le, Lp.q_gt, Lp.q_ge, Lp.q_slt, Lp.q_sle, Lp.q_sgt, Lp.q_sge, Lp.q_in1, Lp.q_ni1, Lp.q_in2, Lp.q_ni2, Lp.q_in3, Lp.q_ni3, Lp.q_in4, Lp.q_ni4, Lp.q_in5, Lp.q_ni5, Lp.q_eqi, Lp.q_nei, Lp.q_addi, Lp.q_adds, Lp.q_addl, Lp.q_addt, Lp.q_subi, Lp.q_muli, Lp.q_muls, Lp.q_mull, Lp.q_fdiv, Lp.q_mod, Lp.q_pow, Lp.q_len1, Lp.q_len2, Lp.q_len3, Lp.q_len4, Lp.q_len5, Lp.q_int1, Lp.q_int2, Lp.q_abs, Lp.q_min, Lp.q_max, Lp.q_list1, Lp.q_list2, Lp.q_list3, Lp.q_tuple1, Lp.q_tuple2, Lp.q_sorted, Lp.q_sum, Lp.q_it1, Lp.q_it2, Lp.q_it3, Lp.q_it4, Lp.q_sl1, Lp.q_sl2, Lp.q_sl3, Lp.q_k1, Lp.q_k2, List.getElem?_cons_zero, List.getElem?_cons_succ, Option.some.injEq, Prod.mk.injEq, D.bl.injEq, D.lst.injEq, true_and, and_true, exists_eq_left', exists_eq_left, List.set_cons_zero, List.set_cons_succ, List.length_map, false_and, reduceCtorEq, exists_false, exists_const, Int.toNat_natCast, Bool.not_true, Bool.not_false, decide_true, decide_false, Lp.len_ls]
      refine ⟨s0, by rw [szl, ok.1, List.length_take]; omega, hK _ ⟨row ++ [_], _, _, _, by rw [List.map_append]; rfl, ?_, e0, e1⟩⟩
      rw [List.take_succ_eq_append_getElem hi, (List.getElem?_eq_some_iff.mp hsz).2]
      exact dig_snoc ok (Int.emod_nonneg _ (by omega)) (Int.emod_lt_of_pos _ s0)
    · obtain ⟨row, sd, v, w, rfl, ok, d0, d1⟩ := hI
      try simp only [Lp.wpSs, Lp.wpS, Lp.wpE, Lp.wpEs, Lp.wpSrc, Lp.wpH, Lp.bindT, Lp.bindTs, Lp.wipeE, Lp.q_ix1, Lp.q_ix2, Lp.q_ix3, Lp.q_ix4, Lp.q_lt, Lp.q_le, Lp.q_gt, Lp.q_ge, Lp.q_slt, Lp.q_sle, Lp.q_sgt, Lp.q_sge, Lp.q_in1, Lp.q_ni1, Lp.q_in2, Lp.q_ni2, Lp.q_in3, Lp.q_ni3, Lp.q_in4, Lp.q_ni4, Lp.q_in5, Lp.q_ni5, Lp.q_eqi, Lp.q_nei, Lp.q_addi, Lp.q_adds, Lp.q_addl, Lp.q_addt, Lp.q_subi, Lp.q_muli, Lp.q_muls, Lp.q_mull, Lp.q_fdiv, Lp.q_mod, Lp.q_pow, Lp.q_len1, Lp.q_len2, Lp.q_len3, Lp.q_len4, Lp.q_len5, Lp.q_int1, Lp.q_int2, Lp.q_abs, Lp.q_min, Lp.q_max, Lp.q_list1, Lp.q_list2, Lp.q_list3, Lp.q_tuple1, Lp.q_tuple2, Lp.q_sorted, Lp.q_sum, Lp.q_it1, Lp.q_it2, Lp.q_it3, Lp.q_it4, Lp.q_sl1, Lp.q_sl2, Lp.q_sl3, Lp.q_k1, Lp.q_k2, List.getElem?_cons_zero, List.getElem?_cons_succ, Option.some.injEq, Prod.mk.injEq, D.bl.injEq, D.lst.injEq, true_and, and_true, exists_eq_left', exists_eq_left, List.set_cons_zero, List.set_cons_succ, List.length_map, false_and, reduceCtorEq, exists_false, exists_const, Int.toNat_natCast, Bool.not_true, Bool.not_false, decide_true, decide_false, Lp.len_ls]
      rw [List.take_length] at ok
      exact hq _ ⟨row, rfl, ok⟩
/-! _law_all_rows -/
def allRows (a : Str) : Nat → List Str
  | 0 => [⟨#[]⟩]
  | n + 1 => (allRows a n).flatMap fun r => (ls a).map fun c => r ++ ⟨#[c]⟩
theorem all_len (a : Str) : ∀ n, (allRows a n).length = (ls a).length ^ n
  | 0 => rfl
  | n + 1 => by
    have : ∀ xs : List Str, (xs.flatMap fun r => (ls a).map fun c => r ++ (⟨#[c]⟩ : Str)).length = xs.length * (ls a).length := by
      intro xs
      induction xs with
      | nil => simp
      | cons x t ih => rw [List.flatMap_cons, List.length_append, List.length_map, ih, List.length_cons, Nat.succ_mul, Nat.add_comm]
    show (List.flatMap _ (allRows a n)).length = _
    rw [this, all_len a n, Nat.pow_succ]
theorem all_row (a : Str) : ∀ n r, r ∈ allRows a n → rowOk a n r
  | 0, r, h => by
    rw [List.mem_singleton.mp h]
    exact ⟨rfl, fun c hc => by cases hc⟩
  | n + 1, r, h => by
    obtain ⟨s, hs, h⟩ := List.mem_flatMap.mp h
    obtain ⟨c, hc, rfl⟩ := List.mem_map.mp h
    have ih := all_row a n s hs
    refine ⟨?_, fun d hd => ?_⟩
    · rw [ls_app, List.length_append]
      have := ih.1
      show (((ls s).length + 1 : Nat) : Int) = ((n + 1 : Nat) : Int)
      omega
    · rw [ls_app] at hd
      rcases List.mem_append.mp hd with hd | hd
      · exact ih.2 d hd
      · rw [List.mem_singleton.mp (show d ∈ [c] from hd)]; exact hc
theorem app_inj {r s : Str} {c d : Nat} (h : r ++ (⟨#[c]⟩ : Str) = s ++ ⟨#[d]⟩) : r = s ∧ c = d := by
  have e := congrArg ls h
  rw [ls_app, ls_app] at e
  have e : ls r ++ [c] = ls s ++ [d] := e
  obtain ⟨e1, e2⟩ := List.append_inj' e rfl
  exact ⟨str_ext e1, by cases e2; rfl⟩
theorem all_nodup {a : Str} (h : (ls a).Nodup) : ∀ n, (allRows a n).Nodup
  | 0 => List.pairwise_singleton _ _
  | n + 1 => by
    show List.Pairwise _ (List.flatMap _ _)
    rw [List.pairwise_flatMap]
    refine ⟨fun r _ => List.Pairwise.map _ (fun c d e z => e (app_inj z).2) h, (all_nodup h n).imp fun {r s} e x hx y hy z => ?_⟩
    obtain ⟨c, _, rfl⟩ := List.mem_map.mp hx
    obtain ⟨d, _, rfl⟩ := List.mem_map.mp hy
    exact e (app_inj z).1
def c_all : Ct := ctF (fun p : Str × Nat => [.str p.1, .int p.2]) (fun p => (ls p.1).length ≤ 4 ∧ p.2 ≤ 6) fun p => .lst ((allRows p.1 p.2).map .str)
theorem pow46 {m n : Nat} (hm : m ≤ 4) (hn : n ≤ 6) : m ^ n ≤ 4096 := Nat.le_trans (Nat.pow_le_pow_left hm n) (Nat.le_trans (Nat.pow_le_pow_right (by decide) hn) (by decide))
theorem r_all {T : Tab} : ∀ ds Q X, c_all.run ds Q X → wpSs T b__law_all_rows (env0 N__law_all_rows ds) { nx := fun _ => Q .non, rt := Q, bk := fun _ => False, ct := fun _ => False, ex := fun _ => X } := by
  rintro ds Q X ⟨⟨a, n⟩, rfl, ⟨ha, hn⟩, hq⟩
  have ha : (ls a).length ≤ 4 := ha
  have hn : n ≤ 6 := hn
  show wpSs T b__law_all_rows [some (false, .str a), some (false, .int n), none, none, none, none, none] _
  unfold b__law_all_rows
  try simp only [Lp.wpSs, Lp.wpS, Lp.wpE, Lp.wpEs, Lp.wpSrc, Lp.wpH, Lp.bindT, Lp.bindTs, Lp.wipeE, Lp.q_ix1, Lp.q_ix2, Lp.q_ix3, Lp.q_ix4, Lp.q_lt, Lp.q_le, Lp.q_gt, Lp.q_ge, Lp.q_slt, Lp.q_sle, Lp.q_sgt, Lp.q_sge, Lp.q_in1, Lp.q_ni1, Lp.q_in2, Lp.q_ni2, Lp.q_in3, Lp.q_ni3, Lp.q_in4, Lp.q_ni4, Lp.q_in5, Lp.q_ni5, Lp.q_eqi, Lp.q_nei, Lp.q_addi, Lp.q_adds, Lp.q_addl, Lp.q_addt, Lp.q_subi, Lp.q_muli, Lp.q_muls, Lp.q_mull, Lp.q_fdiv, Lp.q_mod, Lp.q_pow, Lp.q_len1, Lp.q_len2, Lp.q_len3, Lp.q_len4, Lp.q_len5, Lp.q_int1, Lp.q_int2, Lp.q_abs, Lp.q_min, Lp.q_max, Lp.q_list1, Lp.q_list2, Lp.q_list3, Lp.q_tuple1, Lp.q_tuple2, Lp.q_sorted, Lp.q_sum, Lp.q_it1, Lp.q_it2, Lp.q_it3, Lp.q_it4, Lp.q_sl1, Lp.q_sl2, Lp.q_sl3, Lp.q_k1, Lp.q_k2, List.getElem?_cons_zero, List.getElem?_cons_succ, Option.some.injEq, Prod.mk.injEq, D.bl.injEq, D.lst.injEq, true_and, and_true, exists_eq_left', exists_eq_left, List.set_cons_zero, List.set_cons_succ, List.length_map, false_and, reduceCtorEq, exists_false, exists_const, Int.toNat_natCast, Bool.not_true, Bool.not_false, decide_true, decide_false, Lp.len_ls]
  refine ⟨by show 1 ≤ sizeLine; rw [szl]; omega, by omega, ?_⟩
  refine wpFor_range (fun k env => ∃ v3 v4 v5 v6, env = [some (false, .str a), some (false, .int n), some (false, .lst ((allRows a k).map .str)), v3, v4, v5, v6]) ⟨_, _, _, _, by rw [show Str.ofString "" = (⟨#[]⟩ : Str) by decide +kernel]; rfl⟩ (fun k hk env K hI hK => ?_) fun env hI => ?_
  · obtain ⟨v3, v4, v5, v6, rfl⟩ := hI
    try simp only [Lp.wpSs, Lp.wpS, Lp.wpE, Lp.wpEs, Lp.wpSrc, Lp.wpH, Lp.bindT, Lp.bindTs, Lp.wipeE, Lp.q_ix1, Lp.q_ix2, Lp.q_ix3, Lp.q_ix4, Lp.q_lt, Lp.q_le, Lp.q_gt, Lp.q_ge, Lp.q_slt, Lp.q_sle, Lp.q_sgt, Lp.q_sge, Lp.q_in1, Lp.q_ni1, Lp.q_in2, Lp.q_ni2, Lp.q_in3, Lp.q_ni3, Lp.q_in4, Lp.q_ni4, Lp.q_in5, Lp.q_ni5, Lp.q_eqi, Lp.q_nei, Lp.q_addi, Lp.q_adds, Lp.q_addl, Lp.q_addt, Lp.q_subi, Lp.q_muli, Lp.q_muls, Lp.q_mull, Lp.q_fdiv, Lp.q_mod, Lp.q_pow, Lp.q_len1, Lp.q_len2, Lp.q_len3, Lp.q_len4, Lp.q_len5, Lp.q_int1, Lp.q_int2, Lp.q_abs, Lp.q_min, Lp.q_max, Lp.q_list1, Lp.q_list2, Lp.q_list3, Lp.q_tuple1, Lp.q_tuple2, Lp.q_sorted, Lp.q_sum, Lp.q_it1, Lp.q_it2, Lp.q_it3, Lp.q_it4, Lp.q_sl1, Lp.q_sl2, Lp.q_sl3, Lp.q_k1, Lp.q_k2, List.getElem?_cons_zero, List.getElem?_cons_succ, Option.some.injEq, Prod.mk.injEq, D.bl.injEq, D.lst.injEq, true_and, and_true, exists_eq_left', exists_eq_left, List.set_cons_zero, List.set_cons_succ, List.length_map, false_and, reduceCtorEq, exists_false, exists_const, Int.toNat_natCast, Bool.not_true, Bool.not_false, decide_true, decide_false, Lp.len_ls]
    refine ⟨Nat.zero_le _, ?_⟩
    refine wpFor_map (fun pre env => ∃ v5 v6, env = [some (false, .str a), some (false, .int n), some (false, .lst ((allRows a k).map .str)), some (false, .int (k : Nat)), some (true, .lst ((pre.flatMap fun r => (ls a).map fun c => r ++ (⟨#[c]⟩ : Str)).map .str)), v5, v6]) ⟨_, _, rfl⟩ (fun pre r post env K hx hI hK => ?_) fun env hI => ?_
    · obtain ⟨v5, v6, rfl⟩ := hI
      try simp only [Lp.wpSs, Lp.wpS, Lp.wpE, Lp.wpEs, Lp.wpSrc, Lp.wpH, Lp.bindT, Lp.bindTs, Lp.wipeE, Lp.q_ix1, Lp.q_ix2, Lp.q_ix3, Lp.q_ix4, Lp.q_lt, Lp.q_le, Lp.q_gt, Lp.q_ge, Lp.q_slt, Lp.q_sle, Lp.q_sgt, Lp.q_sge, Lp.q_in1, Lp.q_ni1, Lp.q_in2, Lp.q_ni2, Lp.q_in3, Lp.q_ni3, Lp.q_in4, Lp.q_ni4, Lp.q_in5, Lp.q_ni5, Lp.q_eqi, Lp.q_nei, Lp.q_addi, Lp.q_adds, Lp.q_addl, Lp.q_addt, Lp.q_subi, Lp.q_muli, Lp.q_muls, Lp.q_mull, Lp.q_fdiv, Lp.q_mod, Lp.q_pow, Lp.q_len1, Lp.q_len2, Lp.q_len3, Lp.q_len4, Lp.q_len5, Lp.q_int1, Lp.q_int2, Lp.q_abs, Lp.q_min, Lp.q_max, Lp.q_list1, Lp.q_list2, Lp.q_list3, Lp.q_tuple1, Lp.q_tuple2, Lp.q_sorted, Lp.q_sum, Lp.q_it1, Lp.q_it2, Lp.q_it3, Lp.q_it4, Lp.q_sl1, Lp.q_sl2, Lp.q_sl3, Lp.q_k1, Lp.q_k2, List.getElem?_cons_zero, List.getElem?_cons_succ, Option.some.injEq, Prod.mk.injEq, D.bl.injEq, D.lst.injEq, true_and, and_true, exists_eq_left', exists_eq_left, List.set_cons_zero, List.set_cons_succ, List.length_map, false_and, reduceCtorEq, exists_false, exists_const, Int.toNat_natCast, Bool.not_true, Bool.not_false, decide_true, decide_false, Lp.len_ls]
      have lr : ((ls r).length : Int) = k := (all_row a k r (by rw [hx]; simp)).1
      refine wpFor_map (fun pre2 env => ∃ v6, env = [some (false, .str a), some (false, .int n), some (false, .lst ((allRows a k).map .str)), some (false, .int (k : Nat)), some (true, .lst (((pre.flatMap fun r => (ls a).map fun c => r ++ (⟨#[c]⟩ : Str)) ++ pre2.map fun c => r ++ (⟨#[c]⟩ : Str)).map .str)), some (false, .str r), v6]) ⟨_, by rw [List.map_nil, List.append_nil]⟩ (fun pre2 c post2 env K hx2 hI hK => ?_) fun env hI => ?_
      · obtain ⟨v6, rfl⟩ := hI
        try simp only [Lp.wpSs, Lp.wpS, Lp.wpE, Lp.wpEs, Lp.wpSrc, Lp.wpH, Lp.bindT, Lp.bindTs, Lp.wipeE, Lp.q_ix1, Lp.q_ix2, Lp.q_ix3, Lp.q_ix4, Lp.q_lt, Lp.q_le, Lp.q_gt, Lp.q_ge, Lp.q_slt, Lp.q_sle, Lp.q_sgt, Lp.q_sge, Lp.q_in1, Lp.q_ni1, Lp.q_in2, Lp.q_ni2, Lp.q_in3, Lp.q_ni3, Lp.q_in4, Lp.q_ni4, Lp.q_in5, Lp.q_ni5, Lp.q_eqi, Lp.q_nei, Lp.q_addi, Lp.q_adds, Lp.q_addl, Lp.q_addt, Lp.q_subi, Lp.q_muli, Lp.q_muls, Lp.q_mull, Lp.q_fdiv, Lp.q_mod, Lp.q_pow, Lp.q_len1, Lp.q_len2, Lp.q_len3, Lp.q_len4, Lp.q_len5, Lp.q_int1, Lp.q_int2, Lp.q_abs, Lp.q_min, Lp.q_max, Lp.q_list1, Lp.q_list2, Lp.q_list3, Lp.q_tuple1, Lp.q_tuple2, Lp.q_sorted, Lp.q_sum, Lp.q_it1, Lp.q_it2, Lp.q_it3, Lp.q_it4, Lp.q_sl1, Lp.q_sl2, Lp.q_sl3, Lp.q_k1, Lp.q_k2, List.getElem?_cons_zero, List.getElem?_cons_succ, Option.some.injEq, Prod.mk.injEq, D.bl.injEq, D.lst.injEq, true_and, and_true, exists_eq_left', exists_eq_left, List.set_cons_zero, List.set_cons_succ, List.length_map, false_and, reduceCtorEq, exists_false, exists_const, Int.toNat_natCast, Bool.not_true, Bool.not_false, decide_true, decide_false, Lp.len_ls]
        refine ⟨?_, ?_, hK _ ⟨some (false, .str ⟨#[c]⟩), by rw [List.map_append, List.map_append, List.map_append, List.map_append, List.append_assoc]; rfl⟩⟩
        · show (ls r).length + 1 ≤ sizeLine
          rw [szl]; omega
        · rw [szl]
          have e := all_len a (k + 1)
          have e' := pow46 ha (show k + 1 ≤ 6 by omega)
          have h1 : (allRows a (k + 1)).length = ((pre ++ r :: post).flatMap fun r => (ls a).map fun c => r ++ (⟨#[c]⟩ : Str)).length := by rw [← hx]; rfl
          rw [List.flatMap_append, List.flatMap_cons, List.length_append, List.length_append, List.length_map (as := ls a)] at h1
          rw [List.length_append, List.length_map]
          have h2 := congrArg List.length hx2
          rw [List.length_append, List.length_cons] at h2
          omega
      · obtain ⟨v6, rfl⟩ := hI
        exact hK _ ⟨_, _, by rw [List.flatMap_append, List.flatMap_cons, List.flatMap_nil, List.append_nil]⟩
    · obtain ⟨v5, v6, rfl⟩ := hI
      try simp only [Lp.wpSs, Lp.wpS, Lp.wpE, Lp.wpEs, Lp.wpSrc, Lp.wpH, Lp.bindT, Lp.bindTs, Lp.wipeE, Lp.q_ix1, Lp.q_ix2, Lp.q_ix3, Lp.q_ix4, Lp.q_lt, Lp.q_le, Lp.q_gt, Lp.q_ge, Lp.q_slt, Lp.q_sle, Lp.q_sgt, Lp.q_sge, Lp.q_in1, Lp.q_ni1, Lp.q_in2, Lp.q_ni2, Lp.q_in3, Lp.q_ni3, Lp.q_in4, Lp.q_ni4, Lp.q_in5, Lp.q_ni5, Lp.q_eqi, Lp.q_nei, Lp.q_addi, Lp.q_adds, Lp.q_addl, Lp.q_addt, Lp.q_subi, Lp.q_muli, Lp.q_muls, Lp.q_mull, Lp.q_fdiv, Lp.q_mod, Lp.q_pow, Lp.q_len1, Lp.q_len2, Lp.q_len3, Lp.q_len4, Lp.q_len5, Lp.q_int1, Lp.q_int2, Lp.q_abs, Lp.q_min, Lp.q_max, Lp.q_list1, Lp.q_list2, Lp.q_list3, Lp.q_tuple1, Lp.q_tuple2, Lp.q_sorted, Lp.q_sum, Lp.q_it1, Lp.q_it2, Lp.q_it3, Lp.q_it4, Lp.q_sl1, Lp.q_sl2, Lp.q_sl3, Lp.q_k1, Lp.q_k2, List.getElem?_cons_zero, List.getElem?_cons_succ, Option.some.injEq, Prod.mk.injEq, D.bl.injEq, D.lst.injEq, true_and, and_true, exists_eq_left', exists_eq_left, List.set_cons_zero, List.set_cons_succ, List.length_map, false_and, reduceCtorEq, exists_false, exists_const, Int.toNat_natCast, Bool.not_true, Bool.not_false, decide_true, decide_false, Lp.len_ls]
      exact hK _ ⟨_, _, _, _, rfl⟩
  · obtain ⟨v3, v4, v5, v6, rfl⟩ := hI
    try simp only [Lp.wpSs, Lp.wpS, Lp.wpE, Lp.wpEs, Lp.wpSrc, Lp.wpH, Lp.bindT, Lp.bindTs, Lp.wipeE, Lp.q_ix1, Lp.q_ix2, Lp.q_ix3, Lp.q_ix4, Lp.q_lt, Lp.q_le, Lp.q_gt, Lp.q_ge, Lp.q_slt, Lp.q_sle, Lp.q_sgt, Lp.q_sge, Lp.q_in1, Lp.q_ni1, Lp.q_in2, Lp.q_ni2, Lp.q_in3, Lp.q_ni3, Lp.q_in4, Lp.q_ni4, Lp.q_in5, Lp.q_ni5, Lp.q_eqi, Lp.q_nei, Lp.q_addi, Lp.q_adds, Lp.q_addl, Lp.q_addt, Lp.q_subi, Lp.q_muli, Lp.q_muls, Lp.q_mull, Lp.q_fdiv, Lp.q_mod, Lp.q_pow, Lp.q_len1, Lp.q_len2, Lp.q_len3, Lp.q_len4, Lp.q_len5, Lp.q_int1, Lp.q_int2, Lp.q_abs, Lp.q_min, Lp.q_max, Lp.q_list1, Lp.q_list2, Lp.q_list3, Lp.q_tuple1, Lp.q_tuple2, Lp.q_sorted, Lp.q_sum, Lp.q_it1, Lp.q_it2, Lp.q_it3, Lp.q_it4, Lp.q_sl1, Lp.q_sl2, Lp.q_sl3, Lp.q_k1, Lp.q_k2, List.getElem?_cons_zero, List.getElem?_cons_succ, Option.some.injEq, Prod.mk.injEq, D.bl.injEq, D.lst.injEq, true_and, and_true, exists_eq_left', exists_eq_left, List.set_cons_zero, List.set_cons_succ, List.length_map, false_and, reduceCtorEq, exists_false, exists_const, Int.toNat_natCast, Bool.not_true, Bool.not_false, decide_true, decide_false, Lp.len_ls]
    exact hq
end K9
namespace K9
open PySem L2 Lp
theorem seqK {T : Tab} {s : S} {r : Ss} {env : Lp.Env} {N : Nd} (h : ∀ K : Lp.Env → Prop, (∀ e, wpSs T r e N → K e) → Lp.wpS T s env { N with nx := K }) : wpSs T (.cons s r) env N := h _ fun _ h => h
theorem seqI {T : Tab} {s : S} {r : Ss} {env : Lp.Env} {N : Nd} (I : Lp.Env → Prop) (h1 : ∀ K : Lp.Env → Prop, (∀ e, I e → K e) → Lp.wpS T s env { N with nx := K }) (h2 : ∀ e, I e → wpSs T r e N) : wpSs T (.cons s r) env N := h1 _ h2
/-! _law_rows_on -/
def c_rows_on : Ct := ctF (fun p : List Str × List Int => [.lst (p.1.map .str), .tup (p.2.map .int)]) (fun p => p.1.length < 64 ∧ p.2.length ≤ 1000 ∧ ∀ r ∈ p.1, (ls r).length ≤ 1000 ∧ ∀ q ∈ p.2, 0 ≤ q ∧ q < ((ls r).length : Int))
  fun p => .lst ((uniq (p.1.map fun r => rowOf r p.2)).map .str)
theorem r_rows_on {T : Tab} : ∀ ds Q X, c_rows_on.run ds Q X → wpSs T b__law_rows_on (env0 N__law_rows_on ds) { nx := fun _ => Q .non, rt := Q, bk := fun _ => False, ct := fun _ => False, ex := fun _ => X } := by
  rintro ds Q X ⟨⟨told, bag⟩, rfl, ⟨p1, p2, p3⟩, hq⟩
  have p1 : told.length < 64 := p1
  have p2 : bag.length ≤ 1000 := p2
  have p3 : ∀ r ∈ told, (ls r).length ≤ 1000 ∧ ∀ q ∈ bag, 0 ≤ q ∧ q < ((ls r).length : Int) := p3
  have few : (dd (told.map fun r => rowOf r bag)).length ≤ told.length := by
    have := dd_len_le (told.map fun r => rowOf r bag)
    rwa [List.length_map] at this
  show wpSs T b__law_rows_on [some (false, .lst (told.map .str)), some (false, .tup (bag.map .int)), none, none, none] _
  unfold b__law_rows_on
  try simp only [Lp.wpSs, Lp.wpS, Lp.wpE, Lp.wpEs, Lp.wpSrc, Lp.wpH, Lp.bindT, Lp.bindTs, Lp.wipeE, Lp.q_ix1, Lp.q_ix2, Lp.q_ix3, Lp.q_ix4, Lp.q_lt, Lp.q_le, Lp.q_gt, Lp.q_ge, Lp.q_slt, Lp.q_sle, Lp.q_sgt, Lp.q_sge, Lp.q_in1, Lp.q_ni1, Lp.q_in2, Lp.q_ni2, Lp.q_in3, Lp.q_ni3, Lp.q_in4, Lp.q_ni4, Lp.q_in5, Lp.q_ni5, Lp.q_eqi, Lp.q_nei, Lp.q_addi, Lp.q_adds, Lp.q_addl, Lp.q_addt, Lp.q_subi, Lp.q_muli, Lp.q_muls, Lp.q_mull, Lp.q_fdiv, Lp.q_mod, Lp.q_pow, Lp.q_len1, Lp.q_len2, Lp.q_len3, Lp.q_len4, Lp.q_len5, Lp.q_int1, Lp.q_int2, Lp.q_abs, Lp.q_min, Lp.q_max, Lp.q_list1, Lp.q_list2, Lp.q_list3, Lp.q_tuple1, Lp.q_tuple2, Lp.q_sorted, Lp.q_sum, Lp.q_it1, Lp.q_it2, Lp.q_it3, Lp.q_it4, Lp.q_sl1, Lp.q_sl2, Lp.q_sl3, Lp.q_k1, Lp.q_k2, List.getElem?_cons_zero, List.getElem?_cons_succ, Option.some.injEq, Prod.mk.injEq, D.bl.injEq, D.lst.injEq, true_and, and_true, exists_eq_left', exists_eq_left, List.set_cons_zero, List.set_cons_succ, List.length_map, false_and, reduceCtorEq, exists_false, exists_const, Int.toNat_natCast, Bool.not_true, Bool.not_false, decide_true, decide_false, Lp.len_ls]
  refine wpFor_map (fun pre env => ∃ v, env = [some (false, .lst (told.map .str)), some (false, .tup (bag.map .int)), some (true, .dct (setD (dd (pre.map fun r => rowOf r bag)))), v, none]) ⟨_, rfl⟩ (fun pre r post env K hx hI hK => ?_) fun env hI => ?_
  · obtain ⟨v, rfl⟩ := hI
    obtain ⟨m1, m2⟩ := p3 r (by rw [hx]; simp)
    try simp only [Lp.wpSs, Lp.wpS, Lp.wpE, Lp.wpEs, Lp.wpSrc, Lp.wpH, Lp.bindT, Lp.bindTs, Lp.wipeE, Lp.q_ix1, Lp.q_ix2, Lp.q_ix3, Lp.q_ix4, Lp.q_lt, Lp.q_le, Lp.q_gt, Lp.q_ge, Lp.q_slt, Lp.q_sle, Lp.q_sgt, Lp.q_sge, Lp.q_in1, Lp.q_ni1, Lp.q_in2, Lp.q_ni2, Lp.q_in3, Lp.q_ni3, Lp.q_in4, Lp.q_ni4, Lp.q_in5, Lp.q_ni5, Lp.q_eqi, Lp.q_nei, Lp.q_addi, Lp.q_adds, Lp.q_addl, Lp.q_addt, Lp.q_subi, Lp.q_muli, Lp.q_muls, Lp.q_mull, Lp.q_fdiv, Lp.q_mod, Lp.q_pow, Lp.q_len1, Lp.q_len2, Lp.q_len3, Lp.q_len4, Lp.q_len5, Lp.q_int1, Lp.q_int2, Lp.q_abs, Lp.q_min, Lp.q_max, Lp.q_list1, Lp.q_list2, Lp.q_list3, Lp.q_tuple1, Lp.q_tuple2, Lp.q_sorted, Lp.q_sum, Lp.q_it1, Lp.q_it2, Lp.q_it3, Lp.q_it4, Lp.q_sl1, Lp.q_sl2, Lp.q_sl3, Lp.q_k1, Lp.q_k2, List.getElem?_cons_zero, List.getElem?_cons_succ, Option.some.injEq, Prod.mk.injEq, D.bl.injEq, D.lst.injEq, true_and, and_true, exists_eq_left', exists_eq_left, List.set_cons_zero, List.set_cons_succ, List.length_map, false_and, reduceCtorEq, exists_false, exists_const, Int.toNat_natCast, Bool.not_true, Bool.not_false, decide_true, decide_false, Lp.len_ls]
    refine lc_all (fun q => D.str ⟨#[(ls r).getD q.toNat 0]⟩) D.int (by rw [szl]; omega) (fun q hq acc K ha hK => ?_) ⟨bag.map fun q => ⟨#[(ls r).getD q.toNat 0]⟩, .inl (by rw [List.map_map]; rfl), ?_, ?_⟩
    · try simp only [Lp.wpSs, Lp.wpS, Lp.wpE, Lp.wpEs, Lp.wpSrc, Lp.wpH, Lp.bindT, Lp.bindTs, Lp.wipeE, Lp.q_ix1, Lp.q_ix2, Lp.q_ix3, Lp.q_ix4, Lp.q_lt, Lp.q_le, Lp.q_gt, Lp.q_ge, Lp.q_slt, Lp.q_sle, Lp.q_sgt, Lp.q_sge, Lp.q_in1, Lp.q_ni1, Lp.q_in2, Lp.q_ni2, Lp.q_in3, Lp.q_ni3, Lp.q_in4, Lp.q_ni4, Lp.q_in5, Lp.q_ni5, Lp.q_eqi, Lp.q_nei, Lp.q_addi, Lp.q_adds, Lp.q_addl, Lp.q_addt, Lp.q_subi, Lp.q_muli, Lp.q_muls, Lp.q_mull, Lp.q_fdiv, Lp.q_mod, Lp.q_pow, Lp.q_len1, Lp.q_len2, Lp.q_len3, Lp.q_len4, Lp.q_len5, Lp.q_int1, Lp.q_int2, Lp.q_abs, Lp.q_min, Lp.q_max, Lp.q_list1, Lp.q_list2, Lp.q_list3, Lp.q_tuple1, Lp.q_tuple2, Lp.q_sorted, Lp.q_sum, Lp.q_it1, Lp.q_it2, Lp.q_it3, Lp.q_it4, Lp.q_sl1, Lp.q_sl2, Lp.q_sl3, Lp.q_k1, Lp.q_k2, List.getElem?_cons_zero, List.getElem?_cons_succ, Option.some.injEq, Prod.mk.injEq, D.bl.injEq, D.lst.injEq, true_and, and_true, exists_eq_left', exists_eq_left, List.set_cons_zero, List.set_cons_succ, List.length_map, false_and, reduceCtorEq, exists_false, exists_const, Int.toNat_natCast, Bool.not_true, Bool.not_false, decide_true, decide_false, Lp.len_ls]
      exact ⟨_, by rw [szl]; omega, at_row (m2 q hq), ha, hK⟩
    · rw [row_len, show (ls (Str.ofString "")).length = 0 by decide +kernel]; omega
    · rw [join_row]
      try simp only [Lp.wpSs, Lp.wpS, Lp.wpE, Lp.wpEs, Lp.wpSrc, Lp.wpH, Lp.bindT, Lp.bindTs, Lp.wipeE, Lp.q_ix1, Lp.q_ix2, Lp.q_ix3, Lp.q_ix4, Lp.q_lt, Lp.q_le, Lp.q_gt, Lp.q_ge, Lp.q_slt, Lp.q_sle, Lp.q_sgt, Lp.q_sge, Lp.q_in1, Lp.q_ni1, Lp.q_in2, Lp.q_ni2, Lp.q_in3, Lp.q_ni3, Lp.q_in4, Lp.q_ni4, Lp.q_in5, Lp.q_ni5, Lp.q_eqi, Lp.q_nei, Lp.q_addi, Lp.q_adds, Lp.q_addl, Lp.q_addt, Lp.q_subi, Lp.q_muli, Lp.q_muls, Lp.q_mull, Lp.q_fdiv, Lp.q_mod, Lp.q_pow, Lp.q_len1, Lp.q_len2, Lp.q_len3, Lp.q_len4, Lp.q_len5, Lp.q_int1, Lp.q_int2, Lp.q_abs, Lp.q_min, Lp.q_max, Lp.q_list1, Lp.q_list2, Lp.q_list3, Lp.q_tuple1, Lp.q_tuple2, Lp.q_sorted, Lp.q_sum, Lp.q_it1, Lp.q_it2, Lp.q_it3, Lp.q_it4, Lp.q_sl1, Lp.q_sl2, Lp.q_sl3, Lp.q_k1, Lp.q_k2, List.getElem?_cons_zero, List.getElem?_cons_succ, Option.some.injEq, Prod.mk.injEq, D.bl.injEq, D.lst.injEq, true_and, and_true, exists_eq_left', exists_eq_left, List.set_cons_zero, List.set_cons_succ, List.length_map, false_and, reduceCtorEq, exists_false, exists_const, Int.toNat_natCast, Bool.not_true, Bool.not_false, decide_true, decide_false, Lp.len_ls]
      refine ⟨?_, hK _ ⟨some (false, .str r), ?_⟩⟩
      · have := dd_pre (pre := pre.map fun r => rowOf r bag) (post := (r :: post).map fun r => rowOf r bag)
        rw [← List.map_append, ← hx] at this
        rw [setD_len, szl]; omega
      · rw [dput_set, List.map_append, List.map_cons, List.map_nil, dd_snoc]
  · obtain ⟨v, rfl⟩ := hI
    try simp only [Lp.wpSs, Lp.wpS, Lp.wpE, Lp.wpEs, Lp.wpSrc, Lp.wpH, Lp.bindT, Lp.bindTs, Lp.wipeE, Lp.q_ix1, Lp.q_ix2, Lp.q_ix3, Lp.q_ix4, Lp.q_lt, Lp.q_le, Lp.q_gt, Lp.q_ge, Lp.q_slt, Lp.q_sle, Lp.q_sgt, Lp.q_sge, Lp.q_in1, Lp.q_ni1, Lp.q_in2, Lp.q_ni2, Lp.q_in3, Lp.q_ni3, Lp.q_in4, Lp.q_ni4, Lp.q_in5, Lp.q_ni5, Lp.q_eqi, Lp.q_nei, Lp.q_addi, Lp.q_adds, Lp.q_addl, Lp.q_addt, Lp.q_subi, Lp.q_muli, Lp.q_muls, Lp.q_mull, Lp.q_fdiv, Lp.q_mod, Lp.q_pow, Lp.q_len1, Lp.q_len2, Lp.q_len3, Lp.q_len4, Lp.q_len5, Lp.q_int1, Lp.q_int2, Lp.q_abs, Lp.q_min, Lp.q_max, Lp.q_list1, Lp.q_list2, Lp.q_list3, Lp.q_tuple1, Lp.q_tuple2, Lp.q_sorted, Lp.q_sum, Lp.q_it1, Lp.q_it2, Lp.q_it3, Lp.q_it4, Lp.q_sl1, Lp.q_sl2, Lp.q_sl3, Lp.q_k1, Lp.q_k2, List.getElem?_cons_zero, List.getElem?_cons_succ, Option.some.injEq, Prod.mk.injEq, D.bl.injEq, D.lst.injEq, true_and, and_true, exists_eq_left', exists_eq_left, List.set_cons_zero, List.set_cons_succ, List.length_map, false_and, reduceCtorEq, exists_false, exists_const, Int.toNat_natCast, Bool.not_true, Bool.not_false, decide_true, decide_false, Lp.len_ls]
    rw [setD_keys]
    exact sort_strs (by omega) hq
/-! _law_wrong_bags -/
theorem adj_le {l : List Int} (h : ∀ i x y, l[i]? = some x → l[i + 1]? = some y → x ≤ y) : ∀ (d i : Nat) (x y : Int), l[i]? = some x → l[i + d]? = some y → x ≤ y
  | 0, i, x, y, e1, e2 => by
    rw [Nat.add_zero, e1] at e2; cases e2; exact Int.le_refl _
  | d + 1, i, x, y, e1, e2 => by
    have hl := (List.getElem?_eq_some_iff.mp e2).1
    have e3 : l[i + d]? = some (l[i + d]'(by omega)) := List.getElem?_eq_getElem _
    exact Int.le_trans (adj_le h d i x _ e1 e3) (h (i + d) _ y e3 e2)
def bagD (b : List Int) : D := .tup (b.map .int)
def c_wrong : Ct := ct (fun p : Int × List Int => [.int p.1, .tup (p.2.map .int)]) (fun p => bagOk p.1 p.2) (fun p d => ∃ bags : List (List Int), d = .lst (bags.map bagD) ∧ ∀ b ∈ bags, ¬ bagOk p.1 b) fun _ _ => False
theorem r_wrong {T : Tab} : ∀ ds Q X, c_wrong.run ds Q X → wpSs T b__law_wrong_bags (env0 N__law_wrong_bags ds) { nx := fun _ => Q .non, rt := Q, bk := fun _ => False, ct := fun _ => False, ex := fun _ => X } := by
  rintro ds Q X ⟨⟨w, bag⟩, rfl, ok, hq, -⟩
  have ok : bagOk w bag := ok
  obtain ⟨o1, o2, o3, o4⟩ := id ok
  obtain ⟨x, hx⟩ : ∃ x, bag[0]? = some x := ⟨_, List.getElem?_eq_getElem (by omega)⟩
  obtain ⟨y, hy⟩ : ∃ y, bag[bag.length - 1]? = some y := ⟨_, List.getElem?_eq_getElem (by omega)⟩
  have hl : bag.getLast? = some y := by rw [List.getLast?_eq_getElem?]; exact hy
  have bad : ∀ b ∈ [[], bag ++ [w], -1 :: bag, [0, 0, 0, 0, 0, 0, 0]], ¬ bagOk w b := by
    intro b hb z
    rcases List.mem_cons.mp hb with rfl | hb
    · exact absurd z.1 (by decide)
    rcases List.mem_cons.mp hb with rfl | hb
    · exact absurd (z.2.2.1 w (by simp)).2 (by omega)
    rcases List.mem_cons.mp hb with rfl | hb
    · exact absurd (z.2.2.1 (-1) (by simp)).1 (by decide)
    rw [List.mem_singleton.mp hb] at z
    exact absurd z.2.1 (by decide)
  show wpSs T b__law_wrong_bags [some (false, .int w), some (false, .tup (bag.map .int)), none, none] _
  unfold b__law_wrong_bags
  refine seqK fun K hK => ?_
  try simp only [Lp.wpSs, Lp.wpS, Lp.wpE, Lp.wpEs, Lp.wpSrc, Lp.wpH, Lp.bindT, Lp.bindTs, Lp.wipeE, Lp.q_ix1, Lp.q_ix2, Lp.q_ix3, Lp.q_ix4, Lp.q_lt, Lp.q_le, Lp.q_gt, Lp.q_ge, Lp.q_slt, Lp.q_sle, Lp.q_sgt, Lp.q_sge, Lp.q_in1, Lp.q_ni1, Lp.q_in2, Lp.q_ni2, Lp.q_in3, Lp.q_ni3, Lp.q_in4, Lp.q_ni4, Lp.q_in5, Lp.q_ni5, Lp.q_eqi, Lp.q_nei, Lp.q_addi, Lp.q_adds, Lp.q_addl, Lp.q_addt, Lp.q_subi, Lp.q_muli, Lp.q_muls, Lp.q_mull, Lp.q_fdiv, Lp.q_mod, Lp.q_pow, Lp.q_len1, Lp.q_len2, Lp.q_len3, Lp.q_len4, Lp.q_len5, Lp.q_int1, Lp.q_int2, Lp.q_abs, Lp.q_min, Lp.q_max, Lp.q_list1, Lp.q_list2, Lp.q_list3, Lp.q_tuple1, Lp.q_tuple2, Lp.q_sorted, Lp.q_sum, Lp.q_it1, Lp.q_it2, Lp.q_it3, Lp.q_it4, Lp.q_sl1, Lp.q_sl2, Lp.q_sl3, Lp.q_k1, Lp.q_k2, List.getElem?_cons_zero, List.getElem?_cons_succ, Option.some.injEq, Prod.mk.injEq, D.bl.injEq, D.lst.injEq, true_and, and_true, exists_eq_left', exists_eq_left, List.set_cons_zero, List.set_cons_succ, List.length_map, false_and, reduceCtorEq, exists_false, exists_const, Int.toNat_natCast, Bool.not_true, Bool.not_false, decide_true, decide_false, Lp.len_ls]
  refine ⟨by show 0 ≤ _; omega, by show 1 ≤ sizeLine; rw [szl]; omega, by show _ + 1 ≤ sizeLine; rw [szl]; omega, by show 1 ≤ sizeLine; rw [szl]; omega, by show 1 + _ ≤ sizeLine; rw [szl]; omega, ⟨by decide, by decide⟩, ?_⟩
  refine lc_all (xs := List.range 7) (fun _ => D.int 0) (fun i : Nat => D.int i) (by rw [szl, List.length_range]; omega) (fun q _ acc K ha hK => ?_) ?_
  · try simp only [Lp.wpSs, Lp.wpS, Lp.wpE, Lp.wpEs, Lp.wpSrc, Lp.wpH, Lp.bindT, Lp.bindTs, Lp.wipeE, Lp.q_ix1, Lp.q_ix2, Lp.q_ix3, Lp.q_ix4, Lp.q_lt, Lp.q_le, Lp.q_gt, Lp.q_ge, Lp.q_slt, Lp.q_sle, Lp.q_sgt, Lp.q_sge, Lp.q_in1, Lp.q_ni1, Lp.q_in2, Lp.q_ni2, Lp.q_in3, Lp.q_ni3, Lp.q_in4, Lp.q_ni4, Lp.q_in5, Lp.q_ni5, Lp.q_eqi, Lp.q_nei, Lp.q_addi, Lp.q_adds, Lp.q_addl, Lp.q_addt, Lp.q_subi, Lp.q_muli, Lp.q_muls, Lp.q_mull, Lp.q_fdiv, Lp.q_mod, Lp.q_pow, Lp.q_len1, Lp.q_len2, Lp.q_len3, Lp.q_len4, Lp.q_len5, Lp.q_int1, Lp.q_int2, Lp.q_abs, Lp.q_min, Lp.q_max, Lp.q_list1, Lp.q_list2, Lp.q_list3, Lp.q_tuple1, Lp.q_tuple2, Lp.q_sorted, Lp.q_sum, Lp.q_it1, Lp.q_it2, Lp.q_it3, Lp.q_it4, Lp.q_sl1, Lp.q_sl2, Lp.q_sl3, Lp.q_k1, Lp.q_k2, List.getElem?_cons_zero, List.getElem?_cons_succ, Option.some.injEq, Prod.mk.injEq, D.bl.injEq, D.lst.injEq, true_and, and_true, exists_eq_left', exists_eq_left, List.set_cons_zero, List.set_cons_succ, List.length_map, false_and, reduceCtorEq, exists_false, exists_const, Int.toNat_natCast, Bool.not_true, Bool.not_false, decide_true, decide_false, Lp.len_ls]
    exact ⟨ha, hK⟩
  try simp only [Lp.wpSs, Lp.wpS, Lp.wpE, Lp.wpEs, Lp.wpSrc, Lp.wpH, Lp.bindT, Lp.bindTs, Lp.wipeE, Lp.q_ix1, Lp.q_ix2, Lp.q_ix3, Lp.q_ix4, Lp.q_lt, Lp.q_le, Lp.q_gt, Lp.q_ge, Lp.q_slt, Lp.q_sle, Lp.q_sgt, Lp.q_sge, Lp.q_in1, Lp.q_ni1, Lp.q_in2, Lp.q_ni2, Lp.q_in3, Lp.q_ni3, Lp.q_in4, Lp.q_ni4, Lp.q_in5, Lp.q_ni5, Lp.q_eqi, Lp.q_nei, Lp.q_addi, Lp.q_adds, Lp.q_addl, Lp.q_addt, Lp.q_subi, Lp.q_muli, Lp.q_muls, Lp.q_mull, Lp.q_fdiv, Lp.q_mod, Lp.q_pow, Lp.q_len1, Lp.q_len2, Lp.q_len3, Lp.q_len4, Lp.q_len5, Lp.q_int1, Lp.q_int2, Lp.q_abs, Lp.q_min, Lp.q_max, Lp.q_list1, Lp.q_list2, Lp.q_list3, Lp.q_tuple1, Lp.q_tuple2, Lp.q_sorted, Lp.q_sum, Lp.q_it1, Lp.q_it2, Lp.q_it3, Lp.q_it4, Lp.q_sl1, Lp.q_sl2, Lp.q_sl3, Lp.q_k1, Lp.q_k2, List.getElem?_cons_zero, List.getElem?_cons_succ, Option.some.injEq, Prod.mk.injEq, D.bl.injEq, D.lst.injEq, true_and, and_true, exists_eq_left', exists_eq_left, List.set_cons_zero, List.set_cons_succ, List.length_map, false_and, reduceCtorEq, exists_false, exists_const, Int.toNat_natCast, Bool.not_true, Bool.not_false, decide_true, decide_false, Lp.len_ls]
  refine ⟨by show 4 ≤ sizeLine; rw [szl]; omega, hK _ ?_⟩
  have e0 : [D.tup [], D.tup (bag.map D.int ++ [D.int w]), D.tup ([D.int (-1)] ++ bag.map D.int), D.tup ((List.range 7).map fun _ => D.int 0)] = [[], bag ++ [w], -1 :: bag, [0, 0, 0, 0, 0, 0, 0]].map bagD := by
    simp [bagD]; rfl
  rw [e0]
  try simp only [Lp.wpSs, Lp.wpS, Lp.wpE, Lp.wpEs, Lp.wpSrc, Lp.wpH, Lp.bindT, Lp.bindTs, Lp.wipeE, Lp.q_ix1, Lp.q_ix2, Lp.q_ix3, Lp.q_ix4, Lp.q_lt, Lp.q_le, Lp.q_gt, Lp.q_ge, Lp.q_slt, Lp.q_sle, Lp.q_sgt, Lp.q_sge, Lp.q_in1, Lp.q_ni1, Lp.q_in2, Lp.q_ni2, Lp.q_in3, Lp.q_ni3, Lp.q_in4, Lp.q_ni4, Lp.q_in5, Lp.q_ni5, Lp.q_eqi, Lp.q_nei, Lp.q_addi, Lp.q_adds, Lp.q_addl, Lp.q_addt, Lp.q_subi, Lp.q_muli, Lp.q_muls, Lp.q_mull, Lp.q_fdiv, Lp.q_mod, Lp.q_pow, Lp.q_len1, Lp.q_len2, Lp.q_len3, Lp.q_len4, Lp.q_len5, Lp.q_int1, Lp.q_int2, Lp.q_abs, Lp.q_min, Lp.q_max, Lp.q_list1, Lp.q_list2, Lp.q_list3, Lp.q_tuple1, Lp.q_tuple2, Lp.q_sorted, Lp.q_sum, Lp.q_it1, Lp.q_it2, Lp.q_it3, Lp.q_it4, Lp.q_sl1, Lp.q_sl2, Lp.q_sl3, Lp.q_k1, Lp.q_k2, List.getElem?_cons_zero, List.getElem?_cons_succ, Option.some.injEq, Prod.mk.injEq, D.bl.injEq, D.lst.injEq, true_and, and_true, exists_eq_left', exists_eq_left, List.set_cons_zero, List.set_cons_succ, List.length_map, false_and, reduceCtorEq, exists_false, exists_const, Int.toNat_natCast, Bool.not_true, Bool.not_false, decide_true, decide_false, Lp.len_ls]
  refine if_p (fun h => ⟨_, at_map D.int (at_int (i := 0) (Int.le_refl _) hx), _, at_map D.int (at_neg hl), ?_⟩) fun h => hq _ ⟨_, rfl, bad⟩
  try simp only [Lp.wpSs, Lp.wpS, Lp.wpE, Lp.wpEs, Lp.wpSrc, Lp.wpH, Lp.bindT, Lp.bindTs, Lp.wipeE, Lp.q_ix1, Lp.q_ix2, Lp.q_ix3, Lp.q_ix4, Lp.q_lt, Lp.q_le, Lp.q_gt, Lp.q_ge, Lp.q_slt, Lp.q_sle, Lp.q_sgt, Lp.q_sge, Lp.q_in1, Lp.q_ni1, Lp.q_in2, Lp.q_ni2, Lp.q_in3, Lp.q_ni3, Lp.q_in4, Lp.q_ni4, Lp.q_in5, Lp.q_ni5, Lp.q_eqi, Lp.q_nei, Lp.q_addi, Lp.q_adds, Lp.q_addl, Lp.q_addt, Lp.q_subi, Lp.q_muli, Lp.q_muls, Lp.q_mull, Lp.q_fdiv, Lp.q_mod, Lp.q_pow, Lp.q_len1, Lp.q_len2, Lp.q_len3, Lp.q_len4, Lp.q_len5, Lp.q_int1, Lp.q_int2, Lp.q_abs, Lp.q_min, Lp.q_max, Lp.q_list1, Lp.q_list2, Lp.q_list3, Lp.q_tuple1, Lp.q_tuple2, Lp.q_sorted, Lp.q_sum, Lp.q_it1, Lp.q_it2, Lp.q_it3, Lp.q_it4, Lp.q_sl1, Lp.q_sl2, Lp.q_sl3, Lp.q_k1, Lp.q_k2, List.getElem?_cons_zero, List.getElem?_cons_succ, Option.some.injEq, Prod.mk.injEq, D.bl.injEq, D.lst.injEq, true_and, and_true, exists_eq_left', exists_eq_left, List.set_cons_zero, List.set_cons_succ, List.length_map, false_and, reduceCtorEq, exists_false, exists_const, Int.toNat_natCast, Bool.not_true, Bool.not_false, decide_true, decide_false, Lp.len_ls]
  refine if_np (fun h2 => ⟨by rw [szl]; show 4 < _; omega, hq _ ⟨[[], bag ++ [w], -1 :: bag, [0, 0, 0, 0, 0, 0, 0]] ++ [bag.reverse], by rw [List.map_append, ← List.map_reverse]; rfl, fun b hb => ?_⟩⟩) fun _ => hq _ ⟨_, rfl, bad⟩
  rcases List.mem_append.mp hb with hb | hb
  · exact bad b hb
  · rw [List.mem_singleton.mp hb]
    intro z
    have a1 := adj_le o4 (bag.length - 1) 0 x y hx (by rw [Nat.zero_add]; exact hy)
    have a2 := adj_le z.2.2.2 (bag.length - 1) 0 y x (by rw [List.getElem?_reverse (by omega)]; exact hy) (by rw [Nat.zero_add, List.getElem?_reverse (by omega), show bag.length - 1 - (bag.length - 1) = 0 by omega]; exact hx)
    exact h2 (Int.le_antisymm a1 a2)
/-! _law_bad_bag -/
def c_bad : Ct := ctF (fun p : (Str × Int × List Str) × List Int × Int => [klass p.1.1 p.1.2.1 p.1.2.2, .tup (p.2.1.map .int), .int p.2.2]) (fun p => KOk p.1 ∧ ¬ bagOk p.1.2.1 p.2.1 ∧ 0 ≤ p.2.2 ∧ p.2.2 < 3) fun p => .tup (p.2.1.map .int)
theorem r_bad {T : Tab} (t : Cs T) (h1 : T.fn "rows_seen" = some c_rows_seen) (h2 : T.fn "givers" = some c_givers) (h3 : T.fn "web_of" = some c_web_of) :
    ∀ ds Q X, c_bad.run ds Q X → wpSs T b__law_bad_bag (env0 N__law_bad_bag ds) { nx := fun _ => Q .non, rt := Q, bk := fun _ => False, ct := fun _ => False, ex := fun _ => X } := by
  rintro ds Q X ⟨⟨⟨a, w, rs⟩, bag, door⟩, rfl, ⟨ok, nb, d0, d1⟩, hq⟩
  have ok : KOk (a, w, rs) := ok
  have nb : ¬ bagOk w bag := nb
  have d0 : 0 ≤ door := d0
  have d1 : door < 3 := d1
  obtain ⟨r0, h0⟩ : ∃ r, rs[0]? = some r := ⟨_, List.getElem?_eq_getElem (List.length_pos_iff.mpr ok.cls.ne)⟩
  have ok0 := ok.cls.row r0 (List.mem_of_getElem? h0)
  show wpSs T b__law_bad_bag [some (false, .ins "RuleClass" (kf a w rs)), some (false, .tup (bag.map .int)), some (false, .int door), none] _
  unfold b__law_bad_bag
  have caught : ∀ x, (x = badBag bag) → ∃ r, T.isx x.cls "BadBag" = some r ∧ (r = true → 3 < [some (false, D.ins "RuleClass" (kf a w rs)), some (false, .tup (bag.map .int)), some (false, .int door), none].length ∧ T.isx x.cls "SchoolError" = some true ∧ T.xfl x.cls "bag" = true ∧ ∃ d, x.fs.lookup ("bag" : Str) = some d ∧ Q d) ∧ (r = false → X x) := by
    rintro x rfl
    exact ⟨true, t.sb, fun _ => ⟨by show 3 < 4; decide, t.ss, t.xb, .tup (bag.map .int), by first | rfl | simp [badBag], hq⟩, fun e => by cases e⟩
  try simp only [Lp.wpSs, Lp.wpS, Lp.wpE, Lp.wpEs, Lp.wpSrc, Lp.wpH, Lp.bindT, Lp.bindTs, Lp.wipeE, Lp.q_ix1, Lp.q_ix2, Lp.q_ix3, Lp.q_ix4, Lp.q_lt, Lp.q_le, Lp.q_gt, Lp.q_ge, Lp.q_slt, Lp.q_sle, Lp.q_sgt, Lp.q_sge, Lp.q_in1, Lp.q_ni1, Lp.q_in2, Lp.q_ni2, Lp.q_in3, Lp.q_ni3, Lp.q_in4, Lp.q_ni4, Lp.q_in5, Lp.q_ni5, Lp.q_eqi, Lp.q_nei, Lp.q_addi, Lp.q_adds, Lp.q_addl, Lp.q_addt, Lp.q_subi, Lp.q_muli, Lp.q_muls, Lp.q_mull, Lp.q_fdiv, Lp.q_mod, Lp.q_pow, Lp.q_len1, Lp.q_len2, Lp.q_len3, Lp.q_len4, Lp.q_len5, Lp.q_int1, Lp.q_int2, Lp.q_abs, Lp.q_min, Lp.q_max, Lp.q_list1, Lp.q_list2, Lp.q_list3, Lp.q_tuple1, Lp.q_tuple2, Lp.q_sorted, Lp.q_sum, Lp.q_it1, Lp.q_it2, Lp.q_it3, Lp.q_it4, Lp.q_sl1, Lp.q_sl2, Lp.q_sl3, Lp.q_k1, Lp.q_k2, List.getElem?_cons_zero, List.getElem?_cons_succ, Option.some.injEq, Prod.mk.injEq, D.bl.injEq, D.lst.injEq, true_and, and_true, exists_eq_left', exists_eq_left, List.set_cons_zero, List.set_cons_succ, List.length_map, false_and, reduceCtorEq, exists_false, exists_const, Int.toNat_natCast, Bool.not_true, Bool.not_false, decide_true, decide_false, Lp.len_ls, h1, h2, h3, t.kR, kf_r, t.sb]
  refine if_p (fun h => ?_) fun h => if_p (fun h' => ?_) fun h' => if_p (fun h'' => ?_) fun h'' => by omega
  · refine ct_run ((a, w, rs), bag) rfl ok (fun d hd => absurd hd.1 nb) fun x hx => ?_
    exact caught x hx.2
  · refine ⟨_, at_map D.str (at_int (i := 0) (Int.le_refl _) h0), ?_⟩
    refine ct_run ((a, w, rs), bag, r0) rfl ⟨ok, row_letter ok.cls.ans ok0⟩ (fun d hd => absurd hd.1 nb) fun x hx => ?_
    exact caught x hx.2
  · refine ct_run ((a, w, rs), bag) rfl ok (fun d hd => absurd hd.1 nb) fun x hx => ?_
    exact caught x hx.2
end K9
namespace K9
open PySem L2 Lp
/-! _law_class -/
structure GA (a : Str) : Prop where
  ok : ansOk a
  nd : (ls a).Nodup
theorem GA_of {a : Str} {l : List Nat} (e : ls a = l) (h1 : 2 ≤ l.length) (h2 : l.length ≤ 4) (h3 : ∀ c ∈ l, 97 ≤ c ∧ c ≤ 122) (h4 : l.Pairwise (· < ·)) : GA a := by
  subst e
  refine ⟨⟨h1, h2, h3, fun i x y e1 e2 => ?_⟩, h4.imp fun h z => by omega⟩
  obtain ⟨l1, e1⟩ := List.getElem?_eq_some_iff.mp e1
  obtain ⟨l2, e2⟩ := List.getElem?_eq_some_iff.mp e2
  have := List.pairwise_iff_getElem.mp h4 i (i + 1) l1 l2 (Nat.lt_succ_self i)
  rw [e1, e2] at this; exact this
theorem ga_ny : GA (Str.ofString "ny") := GA_of (l := [110, 121]) (by decide +kernel) (by decide) (by decide) (by decide) (by decide)
theorem ga_ab : GA (Str.ofString "ab") := GA_of (l := [97, 98]) (by decide +kernel) (by decide) (by decide) (by decide) (by decide)
theorem ga_abc : GA (Str.ofString "abc") := GA_of (l := [97, 98, 99]) (by decide +kernel) (by decide) (by decide) (by decide) (by decide)
theorem ga_xyz : GA (Str.ofString "xyz") := GA_of (l := [120, 121, 122]) (by decide +kernel) (by decide) (by decide) (by decide) (by decide)
theorem ans_at {x : Int} (h0 : 0 ≤ x) (h1 : x < 5) : ∃ a, atI [D.str (Str.ofString "ny"), D.str (Str.ofString "ab"), D.str (Str.ofString "abc"), D.str (Str.ofString "ny"), D.str (Str.ofString "xyz")] x = some (.str a) ∧ GA a := by
  have : x = 0 ∨ x = 1 ∨ x = 2 ∨ x = 3 ∨ x = 4 := by omega
  rcases this with rfl | rfl | rfl | rfl | rfl
  · exact ⟨_, rfl, ga_ny⟩
  · exact ⟨_, rfl, ga_ab⟩
  · exact ⟨_, rfl, ga_abc⟩
  · exact ⟨_, rfl, ga_ny⟩
  · exact ⟨_, rfl, ga_xyz⟩
theorem width_at {x : Int} (h0 : 0 ≤ x) (h1 : x < 6) : ∃ n : Nat, atI [D.int 2, D.int 3, D.int 2, D.int 1, D.int 3, D.int 4] x = some (.int (n : Nat)) ∧ 1 ≤ n ∧ n ≤ 4 := by
  have : x = 0 ∨ x = 1 ∨ x = 2 ∨ x = 3 ∨ x = 4 ∨ x = 5 := by omega
  rcases this with rfl | rfl | rfl | rfl | rfl | rfl
  · exact ⟨2, rfl, by decide, by decide⟩
  · exact ⟨3, rfl, by decide, by decide⟩
  · exact ⟨2, rfl, by decide, by decide⟩
  · exact ⟨1, rfl, by decide, by decide⟩
  · exact ⟨3, rfl, by decide, by decide⟩
  · exact ⟨4, rfl, by decide, by decide⟩
structure GC (m : Nat) (a : Str) (n : Nat) (tk : List Str) : Prop where
  ga : GA a
  n1 : 1 ≤ n
  n6 : n ≤ 6
  nd : tk.Nodup
  ne : tk ≠ []
  few : tk.length ≤ m
  row : ∀ r ∈ tk, rowOk a n r
def clsD (a : Str) (n : Nat) (tk : List Str) : D := .lst [.str a, .int n, .lst (tk.map .str)]
def c_class : Ct := ct (fun p : List Int × Int => [.scr p.1, .int p.2]) (fun p => 0 ≤ p.2 ∧ p.2 ≤ 100) (fun _ d => ∃ a n tk, d = clsD a n tk ∧ GC 32 a n tk) fun _ _ => False
theorem r_class {T : Tab} (h1 : T.fn "_law_cell" = some c_cell) (h2 : T.fn "_law_digits" = some c_digits) (h3 : T.fn "_law_all_rows" = some c_all) :
    ∀ ds Q X, c_class.run ds Q X → wpSs T b__law_class (env0 N__law_class ds) { nx := fun _ => Q .non, rt := Q, bk := fun _ => False, ct := fun _ => False, ex := fun _ => X } := by
  rintro ds Q X ⟨⟨ns, at0⟩, rfl, ⟨p0, p1⟩, hq, -⟩
  have p0 : 0 ≤ at0 := p0
  have p1 : at0 ≤ 100 := p1
  show wpSs T b__law_class [some (false, .scr ns), some (false, .int at0), none, none, none, none, none, none, none, none] _
  unfold b__law_class
  refine seqK fun K hK => ?_
  try simp only [Lp.wpSs, Lp.wpS, Lp.wpE, Lp.wpEs, Lp.wpSrc, Lp.wpH, Lp.bindT, Lp.bindTs, Lp.wipeE, Lp.q_ix1, Lp.q_ix2, Lp.q_ix3, Lp.q_ix4, Lp.q_lt, Lp.q_le, Lp.q_gt, Lp.q_ge, Lp.q_slt, Lp.q_sle, Lp.q_sgt, Lp.q_sge, Lp.q_in1, Lp.q_ni1, Lp.q_in2, Lp.q_ni2, Lp.q_in3, Lp.q_ni3, Lp.q_in4, Lp.q_ni4, Lp.q_in5, Lp.q_ni5, Lp.q_eqi, Lp.q_nei, Lp.q_addi, Lp.q_adds, Lp.q_addl, Lp.q_addt, Lp.q_subi, Lp.q_muli, Lp.q_muls, Lp.q_mull, Lp.q_fdiv, Lp.q_mod, Lp.q_pow, Lp.q_len1, Lp.q_len2, Lp.q_len3, Lp.q_len4, Lp.q_len5, Lp.q_int1, Lp.q_int2, Lp.q_abs, Lp.q_min, Lp.q_max, Lp.q_list1, Lp.q_list2, Lp.q_list3, Lp.q_tuple1, Lp.q_tuple2, Lp.q_sorted, Lp.q_sum, Lp.q_it1, Lp.q_it2, Lp.q_it3, Lp.q_it4, Lp.q_sl1, Lp.q_sl2, Lp.q_sl3, Lp.q_k1, Lp.q_k2, List.getElem?_cons_zero, List.getElem?_cons_succ, Option.some.injEq, Prod.mk.injEq, D.bl.injEq, D.lst.injEq, true_and, and_true, exists_eq_left', exists_eq_left, List.set_cons_zero, List.set_cons_succ, List.length_map, false_and, reduceCtorEq, exists_false, exists_const, Int.toNat_natCast, Bool.not_true, Bool.not_false, decide_true, decide_false, Lp.len_ls, h1, h2]
  refine ct_run (ns, at0) rfl ⟨p0, by show at0 ≤ 1000; omega⟩ (fun d hd => ?_) (fun x hx => hx.elim)
  obtain ⟨c, rfl⟩ := hd
  try simp only [Lp.wpSs, Lp.wpS, Lp.wpE, Lp.wpEs, Lp.wpSrc, Lp.wpH, Lp.bindT, Lp.bindTs, Lp.wipeE, Lp.q_ix1, Lp.q_ix2, Lp.q_ix3, Lp.q_ix4, Lp.q_lt, Lp.q_le, Lp.q_gt, Lp.q_ge, Lp.q_slt, Lp.q_sle, Lp.q_sgt, Lp.q_sge, Lp.q_in1, Lp.q_ni1, Lp.q_in2, Lp.q_ni2, Lp.q_in3, Lp.q_ni3, Lp.q_in4, Lp.q_ni4, Lp.q_in5, Lp.q_ni5, Lp.q_eqi, Lp.q_nei, Lp.q_addi, Lp.q_adds, Lp.q_addl, Lp.q_addt, Lp.q_subi, Lp.q_muli, Lp.q_muls, Lp.q_mull, Lp.q_fdiv, Lp.q_mod, Lp.q_pow, Lp.q_len1, Lp.q_len2, Lp.q_len3, Lp.q_len4, Lp.q_len5, Lp.q_int1, Lp.q_int2, Lp.q_abs, Lp.q_min, Lp.q_max, Lp.q_list1, Lp.q_list2, Lp.q_list3, Lp.q_tuple1, Lp.q_tuple2, Lp.q_sorted, Lp.q_sum, Lp.q_it1, Lp.q_it2, Lp.q_it3, Lp.q_it4, Lp.q_sl1, Lp.q_sl2, Lp.q_sl3, Lp.q_k1, Lp.q_k2, List.getElem?_cons_zero, List.getElem?_cons_succ, Option.some.injEq, Prod.mk.injEq, D.bl.injEq, D.lst.injEq, true_and, and_true, exists_eq_left', exists_eq_left, List.set_cons_zero, List.set_cons_succ, List.length_map, false_and, reduceCtorEq, exists_false, exists_const, Int.toNat_natCast, Bool.not_true, Bool.not_false, decide_true, decide_false, Lp.len_ls]
  refine ⟨by show 4 ≤ sizeLine; rw [szl]; omega, ct_run (c, [5, 6, 6, 8]) rfl ⟨(by decide : ([5, 6, 6, 8] : List Int).length ≤ 1000), (by decide : ∀ s ∈ ([5, 6, 6, 8] : List Int), 0 < s ∧ s < 4294967296)⟩ (fun d hd => ?_) (fun x hx => hx.elim)⟩
  obtain ⟨sh, rfl, dg⟩ := hd
  refine hK _ ?_
  obtain ⟨x0, e0, x00, x01⟩ := dig_at dg (i := 0) (s := 5) rfl
  obtain ⟨x1, e1, x10, x11⟩ := dig_at dg (i := 1) (s := 6) rfl
  obtain ⟨x2, e2, x20, x21⟩ := dig_at dg (i := 2) (s := 6) rfl
  obtain ⟨x3, e3, x30, x31⟩ := dig_at dg (i := 3) (s := 8) rfl
  have a0 : atI (sh.map D.int) 0 = some (.int x0) := at_map D.int (at_nat e0)
  have a1 : atI (sh.map D.int) 1 = some (.int x1) := at_map D.int (at_nat e1)
  have a2 : atI (sh.map D.int) 2 = some (.int x2) := at_map D.int (at_nat e2)
  have a3 : atI (sh.map D.int) 3 = some (.int x3) := at_map D.int (at_nat e3)
  obtain ⟨a, ha, ga⟩ := ans_at x00 x01
  obtain ⟨n, hn, n1, n4⟩ := width_at x10 x11
  refine seqK fun K hK => ?_
  try simp only [Lp.wpSs, Lp.wpS, Lp.wpE, Lp.wpEs, Lp.wpSrc, Lp.wpH, Lp.bindT, Lp.bindTs, Lp.wipeE, Lp.q_ix1, Lp.q_ix2, Lp.q_ix3, Lp.q_ix4, Lp.q_lt, Lp.q_le, Lp.q_gt, Lp.q_ge, Lp.q_slt, Lp.q_sle, Lp.q_sgt, Lp.q_sge, Lp.q_in1, Lp.q_ni1, Lp.q_in2, Lp.q_ni2, Lp.q_in3, Lp.q_ni3, Lp.q_in4, Lp.q_ni4, Lp.q_in5, Lp.q_ni5, Lp.q_eqi, Lp.q_nei, Lp.q_addi, Lp.q_adds, Lp.q_addl, Lp.q_addt, Lp.q_subi, Lp.q_muli, Lp.q_muls, Lp.q_mull, Lp.q_fdiv, Lp.q_mod, Lp.q_pow, Lp.q_len1, Lp.q_len2, Lp.q_len3, Lp.q_len4, Lp.q_len5, Lp.q_int1, Lp.q_int2, Lp.q_abs, Lp.q_min, Lp.q_max, Lp.q_list1, Lp.q_list2, Lp.q_list3, Lp.q_tuple1, Lp.q_tuple2, Lp.q_sorted, Lp.q_sum, Lp.q_it1, Lp.q_it2, Lp.q_it3, Lp.q_it4, Lp.q_sl1, Lp.q_sl2, Lp.q_sl3, Lp.q_k1, Lp.q_k2, List.getElem?_cons_zero, List.getElem?_cons_succ, Option.some.injEq, Prod.mk.injEq, D.bl.injEq, D.lst.injEq, true_and, and_true, exists_eq_left', exists_eq_left, List.set_cons_zero, List.set_cons_succ, List.length_map, false_and, reduceCtorEq, exists_false, exists_const, Int.toNat_natCast, Bool.not_true, Bool.not_false, decide_true, decide_false, Lp.len_ls]
  refine ⟨by show 5 ≤ sizeLine; rw [szl]; omega, _, a0, ?_⟩
  try simp only [Lp.wpSs, Lp.wpS, Lp.wpE, Lp.wpEs, Lp.wpSrc, Lp.wpH, Lp.bindT, Lp.bindTs, Lp.wipeE, Lp.q_ix1, Lp.q_ix2, Lp.q_ix3, Lp.q_ix4, Lp.q_lt, Lp.q_le, Lp.q_gt, Lp.q_ge, Lp.q_slt, Lp.q_sle, Lp.q_sgt, Lp.q_sge, Lp.q_in1, Lp.q_ni1, Lp.q_in2, Lp.q_ni2, Lp.q_in3, Lp.q_ni3, Lp.q_in4, Lp.q_ni4, Lp.q_in5, Lp.q_ni5, Lp.q_eqi, Lp.q_nei, Lp.q_addi, Lp.q_adds, Lp.q_addl, Lp.q_addt, Lp.q_subi, Lp.q_muli, Lp.q_muls, Lp.q_mull, Lp.q_fdiv, Lp.q_mod, Lp.q_pow, Lp.q_len1, Lp.q_len2, Lp.q_len3, Lp.q_len4, Lp.q_len5, Lp.q_int1, Lp.q_int2, Lp.q_abs, Lp.q_min, Lp.q_max, Lp.q_list1, Lp.q_list2, Lp.q_list3, Lp.q_tuple1, Lp.q_tuple2, Lp.q_sorted, Lp.q_sum, Lp.q_it1, Lp.q_it2, Lp.q_it3, Lp.q_it4, Lp.q_sl1, Lp.q_sl2, Lp.q_sl3, Lp.q_k1, Lp.q_k2, List.getElem?_cons_zero, List.getElem?_cons_succ, Option.some.injEq, Prod.mk.injEq, D.bl.injEq, D.lst.injEq, true_and, and_true, exists_eq_left', exists_eq_left, List.set_cons_zero, List.set_cons_succ, List.length_map, false_and, reduceCtorEq, exists_false, exists_const, Int.toNat_natCast, Bool.not_true, Bool.not_false, decide_true, decide_false, Lp.len_ls]
  refine ⟨_, ha, hK _ ?_⟩
  refine seqK fun K hK => ?_
  try simp only [Lp.wpSs, Lp.wpS, Lp.wpE, Lp.wpEs, Lp.wpSrc, Lp.wpH, Lp.bindT, Lp.bindTs, Lp.wipeE, Lp.q_ix1, Lp.q_ix2, Lp.q_ix3, Lp.q_ix4, Lp.q_lt, Lp.q_le, Lp.q_gt, Lp.q_ge, Lp.q_slt, Lp.q_sle, Lp.q_sgt, Lp.q_sge, Lp.q_in1, Lp.q_ni1, Lp.q_in2, Lp.q_ni2, Lp.q_in3, Lp.q_ni3, Lp.q_in4, Lp.q_ni4, Lp.q_in5, Lp.q_ni5, Lp.q_eqi, Lp.q_nei, Lp.q_addi, Lp.q_adds, Lp.q_addl, Lp.q_addt, Lp.q_subi, Lp.q_muli, Lp.q_muls, Lp.q_mull, Lp.q_fdiv, Lp.q_mod, Lp.q_pow, Lp.q_len1, Lp.q_len2, Lp.q_len3, Lp.q_len4, Lp.q_len5, Lp.q_int1, Lp.q_int2, Lp.q_abs, Lp.q_min, Lp.q_max, Lp.q_list1, Lp.q_list2, Lp.q_list3, Lp.q_tuple1, Lp.q_tuple2, Lp.q_sorted, Lp.q_sum, Lp.q_it1, Lp.q_it2, Lp.q_it3, Lp.q_it4, Lp.q_sl1, Lp.q_sl2, Lp.q_sl3, Lp.q_k1, Lp.q_k2, List.getElem?_cons_zero, List.getElem?_cons_succ, Option.some.injEq, Prod.mk.injEq, D.bl.injEq, D.lst.injEq, true_and, and_true, exists_eq_left', exists_eq_left, List.set_cons_zero, List.set_cons_succ, List.length_map, false_and, reduceCtorEq, exists_false, exists_const, Int.toNat_natCast, Bool.not_true, Bool.not_false, decide_true, decide_false, Lp.len_ls]
  refine ⟨by show 6 ≤ sizeLine; rw [szl]; omega, _, a1, ?_⟩
  try simp only [Lp.wpSs, Lp.wpS, Lp.wpE, Lp.wpEs, Lp.wpSrc, Lp.wpH, Lp.bindT, Lp.bindTs, Lp.wipeE, Lp.q_ix1, Lp.q_ix2, Lp.q_ix3, Lp.q_ix4, Lp.q_lt, Lp.q_le, Lp.q_gt, Lp.q_ge, Lp.q_slt, Lp.q_sle, Lp.q_sgt, Lp.q_sge, Lp.q_in1, Lp.q_ni1, Lp.q_in2, Lp.q_ni2, Lp.q_in3, Lp.q_ni3, Lp.q_in4, Lp.q_ni4, Lp.q_in5, Lp.q_ni5, Lp.q_eqi, Lp.q_nei, Lp.q_addi, Lp.q_adds, Lp.q_addl, Lp.q_addt, Lp.q_subi, Lp.q_muli, Lp.q_muls, Lp.q_mull, Lp.q_fdiv, Lp.q_mod, Lp.q_pow, Lp.q_len1, Lp.q_len2, Lp.q_len3, Lp.q_len4, Lp.q_len5, Lp.q_int1, Lp.q_int2, Lp.q_abs, Lp.q_min, Lp.q_max, Lp.q_list1, Lp.q_list2, Lp.q_list3, Lp.q_tuple1, Lp.q_tuple2, Lp.q_sorted, Lp.q_sum, Lp.q_it1, Lp.q_it2, Lp.q_it3, Lp.q_it4, Lp.q_sl1, Lp.q_sl2, Lp.q_sl3, Lp.q_k1, Lp.q_k2, List.getElem?_cons_zero, List.getElem?_cons_succ, Option.some.injEq, Prod.mk.injEq, D.bl.injEq, D.lst.injEq, true_and, and_true, exists_eq_left', exists_eq_left, List.set_cons_zero, List.set_cons_succ, List.length_map, false_and, reduceCtorEq, exists_false, exists_const, Int.toNat_natCast, Bool.not_true, Bool.not_false, decide_true, decide_false, Lp.len_ls]
  refine ⟨_, hn, hK _ ?_⟩
  refine seqK fun K hK => ?_
  try simp only [Lp.wpSs, Lp.wpS, Lp.wpE, Lp.wpEs, Lp.wpSrc, Lp.wpH, Lp.bindT, Lp.bindTs, Lp.wipeE, Lp.q_ix1, Lp.q_ix2, Lp.q_ix3, Lp.q_ix4, Lp.q_lt, Lp.q_le, Lp.q_gt, Lp.q_ge, Lp.q_slt, Lp.q_sle, Lp.q_sgt, Lp.q_sge, Lp.q_in1, Lp.q_ni1, Lp.q_in2, Lp.q_ni2, Lp.q_in3, Lp.q_ni3, Lp.q_in4, Lp.q_ni4, Lp.q_in5, Lp.q_ni5, Lp.q_eqi, Lp.q_nei, Lp.q_addi, Lp.q_adds, Lp.q_addl, Lp.q_addt, Lp.q_subi, Lp.q_muli, Lp.q_muls, Lp.q_mull, Lp.q_fdiv, Lp.q_mod, Lp.q_pow, Lp.q_len1, Lp.q_len2, Lp.q_len3, Lp.q_len4, Lp.q_len5, Lp.q_int1, Lp.q_int2, Lp.q_abs, Lp.q_min, Lp.q_max, Lp.q_list1, Lp.q_list2, Lp.q_list3, Lp.q_tuple1, Lp.q_tuple2, Lp.q_sorted, Lp.q_sum, Lp.q_it1, Lp.q_it2, Lp.q_it3, Lp.q_it4, Lp.q_sl1, Lp.q_sl2, Lp.q_sl3, Lp.q_k1, Lp.q_k2, List.getElem?_cons_zero, List.getElem?_cons_succ, Option.some.injEq, Prod.mk.injEq, D.bl.injEq, D.lst.injEq, true_and, and_true, exists_eq_left', exists_eq_left, List.set_cons_zero, List.set_cons_succ, List.length_map, false_and, reduceCtorEq, exists_false, exists_const, Int.toNat_natCast, Bool.not_true, Bool.not_false, decide_true, decide_false, Lp.len_ls, h3]
  refine ctF_run (a, n) rfl ⟨ga.ok.2.1, by show n ≤ 6; omega⟩ (hK _ ?_)
  show wpSs T _ [_, _, _, _, _, some (false, .lst ((allRows a n).map .str)), _, _, _, _] _
  generalize hev : allRows a n = ev
  have evl : ev.length = (ls a).length ^ n := by rw [← hev]; exact all_len a n
  have evp : 0 < ev.length := by rw [evl]; exact Nat.pow_pos (by have := ga.ok.1; omega)
  have evm : ev.length ≤ 4096 := by rw [evl]; exact pow46 ga.ok.2.1 (by omega)
  have evr : ∀ r ∈ ev, rowOk a n r := fun r hr => all_row a n r (by rw [hev]; exact hr)
  have evn : ev.Nodup := by rw [← hev]; exact all_nodup ga.nd n
  refine seqK fun K hK => ?_
  try simp only [Lp.wpSs, Lp.wpS, Lp.wpE, Lp.wpEs, Lp.wpSrc, Lp.wpH, Lp.bindT, Lp.bindTs, Lp.wipeE, Lp.q_ix1, Lp.q_ix2, Lp.q_ix3, Lp.q_ix4, Lp.q_lt, Lp.q_le, Lp.q_gt, Lp.q_ge, Lp.q_slt, Lp.q_sle, Lp.q_sgt, Lp.q_sge, Lp.q_in1, Lp.q_ni1, Lp.q_in2, Lp.q_ni2, Lp.q_in3, Lp.q_ni3, Lp.q_in4, Lp.q_ni4, Lp.q_in5, Lp.q_ni5, Lp.q_eqi, Lp.q_nei, Lp.q_addi, Lp.q_adds, Lp.q_addl, Lp.q_addt, Lp.q_subi, Lp.q_muli, Lp.q_muls, Lp.q_mull, Lp.q_fdiv, Lp.q_mod, Lp.q_pow, Lp.q_len1, Lp.q_len2, Lp.q_len3, Lp.q_len4, Lp.q_len5, Lp.q_int1, Lp.q_int2, Lp.q_abs, Lp.q_min, Lp.q_max, Lp.q_list1, Lp.q_list2, Lp.q_list3, Lp.q_tuple1, Lp.q_tuple2, Lp.q_sorted, Lp.q_sum, Lp.q_it1, Lp.q_it2, Lp.q_it3, Lp.q_it4, Lp.q_sl1, Lp.q_sl2, Lp.q_sl3, Lp.q_k1, Lp.q_k2, List.getElem?_cons_zero, List.getElem?_cons_succ, Option.some.injEq, Prod.mk.injEq, D.bl.injEq, D.lst.injEq, true_and, and_true, exists_eq_left', exists_eq_left, List.set_cons_zero, List.set_cons_succ, List.length_map, false_and, reduceCtorEq, exists_false, exists_const, Int.toNat_natCast, Bool.not_true, Bool.not_false, decide_true, decide_false, Lp.len_ls, h1, h2]
  refine ct_run (ns, at0 + 1) rfl ⟨by show 0 ≤ at0 + 1; omega, by show at0 + 1 ≤ 1000; omega⟩ (fun d hd => ?_) (fun x hx => hx.elim)
  obtain ⟨c2, rfl⟩ := hd
  try simp only [Lp.wpSs, Lp.wpS, Lp.wpE, Lp.wpEs, Lp.wpSrc, Lp.wpH, Lp.bindT, Lp.bindTs, Lp.wipeE, Lp.q_ix1, Lp.q_ix2, Lp.q_ix3, Lp.q_ix4, Lp.q_lt, Lp.q_le, Lp.q_gt, Lp.q_ge, Lp.q_slt, Lp.q_sle, Lp.q_sgt, Lp.q_sge, Lp.q_in1, Lp.q_ni1, Lp.q_in2, Lp.q_ni2, Lp.q_in3, Lp.q_ni3, Lp.q_in4, Lp.q_ni4, Lp.q_in5, Lp.q_ni5, Lp.q_eqi, Lp.q_nei, Lp.q_addi, Lp.q_adds, Lp.q_addl, Lp.q_addt, Lp.q_subi, Lp.q_muli, Lp.q_muls, Lp.q_mull, Lp.q_fdiv, Lp.q_mod, Lp.q_pow, Lp.q_len1, Lp.q_len2, Lp.q_len3, Lp.q_len4, Lp.q_len5, Lp.q_int1, Lp.q_int2, Lp.q_abs, Lp.q_min, Lp.q_max, Lp.q_list1, Lp.q_list2, Lp.q_list3, Lp.q_tuple1, Lp.q_tuple2, Lp.q_sorted, Lp.q_sum, Lp.q_it1, Lp.q_it2, Lp.q_it3, Lp.q_it4, Lp.q_sl1, Lp.q_sl2, Lp.q_sl3, Lp.q_k1, Lp.q_k2, List.getElem?_cons_zero, List.getElem?_cons_succ, Option.some.injEq, Prod.mk.injEq, D.bl.injEq, D.lst.injEq, true_and, and_true, exists_eq_left', exists_eq_left, List.set_cons_zero, List.set_cons_succ, List.length_map, false_and, reduceCtorEq, exists_false, exists_const, Int.toNat_natCast, Bool.not_true, Bool.not_false, decide_true, decide_false, Lp.len_ls]
  refine ⟨by show 1 ≤ sizeLine; rw [szl]; omega, ⟨by decide, by decide, by show 1 * 10 ≤ sizeLine; rw [szl]; omega⟩, ct_run (c2, List.replicate 10 (ev.length : Int)) rfl ⟨by show (List.replicate 10 _).length ≤ 1000; rw [List.length_replicate]; omega, fun s hs => ?_⟩ (fun d hd => ?_) (fun x hx => hx.elim)⟩
  · rw [(List.mem_replicate.mp hs).2]
    omega
  obtain ⟨dr, rfl, dgr⟩ := hd
  refine hK _ ?_
  refine seqK fun K hK => ?_
  try simp only [Lp.wpSs, Lp.wpS, Lp.wpE, Lp.wpEs, Lp.wpSrc, Lp.wpH, Lp.bindT, Lp.bindTs, Lp.wipeE, Lp.q_ix1, Lp.q_ix2, Lp.q_ix3, Lp.q_ix4, Lp.q_lt, Lp.q_le, Lp.q_gt, Lp.q_ge, Lp.q_slt, Lp.q_sle, Lp.q_sgt, Lp.q_sge, Lp.q_in1, Lp.q_ni1, Lp.q_in2, Lp.q_ni2, Lp.q_in3, Lp.q_ni3, Lp.q_in4, Lp.q_ni4, Lp.q_in5, Lp.q_ni5, Lp.q_eqi, Lp.q_nei, Lp.q_addi, Lp.q_adds, Lp.q_addl, Lp.q_addt, Lp.q_subi, Lp.q_muli, Lp.q_muls, Lp.q_mull, Lp.q_fdiv, Lp.q_mod, Lp.q_pow, Lp.q_len1, Lp.q_len2, Lp.q_len3, Lp.q_len4, Lp.q_len5, Lp.q_int1, Lp.q_int2, Lp.q_abs, Lp.q_min, Lp.q_max, Lp.q_list1, Lp.q_list2, Lp.q_list3, Lp.q_tuple1, Lp.q_tuple2, Lp.q_sorted, Lp.q_sum, Lp.q_it1, Lp.q_it2, Lp.q_it3, Lp.q_it4, Lp.q_sl1, Lp.q_sl2, Lp.q_sl3, Lp.q_k1, Lp.q_k2, List.getElem?_cons_zero, List.getElem?_cons_succ, Option.some.injEq, Prod.mk.injEq, D.bl.injEq, D.lst.injEq, true_and, and_true, exists_eq_left', exists_eq_left, List.set_cons_zero, List.set_cons_succ, List.length_map, false_and, reduceCtorEq, exists_false, exists_const, Int.toNat_natCast, Bool.not_true, Bool.not_false, decide_true, decide_false, Lp.len_ls]
  refine ⟨Nat.zero_le _, hK _ ?_⟩
  -- the states from here
  let B : List Str → Option (Bool × D) → Lp.Env := fun tk v8 => [some (false, .scr ns), some (false, .int at0), some (false, .lst (sh.map .int)), some (false, .str a), some (false, .int (n : Nat)), some (false, .lst (ev.map .str)), some (false, .lst (dr.map .int)), some (true, .lst (tk.map .str)), v8, none]
  let I : Lp.Env → Prop := fun e => ∃ tk, e = B tk none ∧ tk.Nodup ∧ (∀ r ∈ tk, r ∈ ev) ∧ tk.length ≤ 8
  have letter : ∀ r ∈ ev, ∀ k, k < n → ∃ x, (ls r)[k]? = some x ∧ x = (ls r).getD k 0 ∧ x < 1114112 := fun r hr k hk => by
    have hl : ((ls r).length : Int) = n := (evr r hr).1
    have e : (ls r)[k]? = some ((ls r)[k]'(by omega)) := List.getElem?_eq_getElem _
    exact ⟨_, e, by rw [List.getD_eq_getElem?_getD, e]; rfl, row_letter ga.ok (evr r hr) _ (List.getElem_mem _)⟩
  have lenr : ∀ r ∈ ev, (ls r).length ≤ sizeLine := fun r hr => by
    have hl : ((ls r).length : Int) = n := (evr r hr).1
    rw [szl]; omega
  have sub8 : ∀ p : Str → Bool, I (B ((ev.filter p).take 8) none) := fun p => ⟨_, rfl, ((List.take_sublist _ _).trans List.filter_sublist).nodup evn, fun r hr => ((List.take_sublist _ _).trans List.filter_sublist).subset hr, by rw [List.length_take]; omega⟩
  have i0 : I (B [] none) := ⟨[], rfl, List.Pairwise.nil, fun r hr => (by cases hr), Nat.zero_le _⟩
  show wpSs T _ (B [] none) _
  -- if shape[2] == 1
  refine seqI I (fun K hK => ?_) ?_
  · try simp only [Lp.wpSs, Lp.wpS, Lp.wpE, Lp.wpEs, Lp.wpSrc, Lp.wpH, Lp.bindT, Lp.bindTs, Lp.wipeE, Lp.q_ix1, Lp.q_ix2, Lp.q_ix3, Lp.q_ix4, Lp.q_lt, Lp.q_le, Lp.q_gt, Lp.q_ge, Lp.q_slt, Lp.q_sle, Lp.q_sgt, Lp.q_sge, Lp.q_in1, Lp.q_ni1, Lp.q_in2, Lp.q_ni2, Lp.q_in3, Lp.q_ni3, Lp.q_in4, Lp.q_ni4, Lp.q_in5, Lp.q_ni5, Lp.q_eqi, Lp.q_nei, Lp.q_addi, Lp.q_adds, Lp.q_addl, Lp.q_addt, Lp.q_subi, Lp.q_muli, Lp.q_muls, Lp.q_mull, Lp.q_fdiv, Lp.q_mod, Lp.q_pow, Lp.q_len1, Lp.q_len2, Lp.q_len3, Lp.q_len4, Lp.q_len5, Lp.q_int1, Lp.q_int2, Lp.q_abs, Lp.q_min, Lp.q_max, Lp.q_list1, Lp.q_list2, Lp.q_list3, Lp.q_tuple1, Lp.q_tuple2, Lp.q_sorted, Lp.q_sum, Lp.q_it1, Lp.q_it2, Lp.q_it3, Lp.q_it4, Lp.q_sl1, Lp.q_sl2, Lp.q_sl3, Lp.q_k1, Lp.q_k2, List.getElem?_cons_zero, List.getElem?_cons_succ, Option.some.injEq, Prod.mk.injEq, D.bl.injEq, D.lst.injEq, true_and, and_true, exists_eq_left', exists_eq_left, List.set_cons_zero, List.set_cons_succ, List.length_map, false_and, reduceCtorEq, exists_false, exists_const, Int.toNat_natCast, Bool.not_true, Bool.not_false, decide_true, decide_false, Lp.len_ls, B]
    refine ⟨_, a2, ?_⟩
    try simp only [Lp.wpSs, Lp.wpS, Lp.wpE, Lp.wpEs, Lp.wpSrc, Lp.wpH, Lp.bindT, Lp.bindTs, Lp.wipeE, Lp.q_ix1, Lp.q_ix2, Lp.q_ix3, Lp.q_ix4, Lp.q_lt, Lp.q_le, Lp.q_gt, Lp.q_ge, Lp.q_slt, Lp.q_sle, Lp.q_sgt, Lp.q_sge, Lp.q_in1, Lp.q_ni1, Lp.q_in2, Lp.q_ni2, Lp.q_in3, Lp.q_ni3, Lp.q_in4, Lp.q_ni4, Lp.q_in5, Lp.q_ni5, Lp.q_eqi, Lp.q_nei, Lp.q_addi, Lp.q_adds, Lp.q_addl, Lp.q_addt, Lp.q_subi, Lp.q_muli, Lp.q_muls, Lp.q_mull, Lp.q_fdiv, Lp.q_mod, Lp.q_pow, Lp.q_len1, Lp.q_len2, Lp.q_len3, Lp.q_len4, Lp.q_len5, Lp.q_int1, Lp.q_int2, Lp.q_abs, Lp.q_min, Lp.q_max, Lp.q_list1, Lp.q_list2, Lp.q_list3, Lp.q_tuple1, Lp.q_tuple2, Lp.q_sorted, Lp.q_sum, Lp.q_it1, Lp.q_it2, Lp.q_it3, Lp.q_it4, Lp.q_sl1, Lp.q_sl2, Lp.q_sl3, Lp.q_k1, Lp.q_k2, List.getElem?_cons_zero, List.getElem?_cons_succ, Option.some.injEq, Prod.mk.injEq, D.bl.injEq, D.lst.injEq, true_and, and_true, exists_eq_left', exists_eq_left, List.set_cons_zero, List.set_cons_succ, List.length_map, false_and, reduceCtorEq, exists_false, exists_const, Int.toNat_natCast, Bool.not_true, Bool.not_false, decide_true, decide_false, Lp.len_ls]
    refine if_p (fun h => ?_) fun h => hK _ i0
    refine lc_of (fun r => decide ((((List.range (n - 1)).filter fun k => decide (ls ⟨#[(ls r).getD k 0]⟩ < ls ⟨#[(ls r).getD (k + 1) 0]⟩)).length : Int) = 0)) D.str D.str (by rw [szl]; omega) (fun r hr acc K ha hK1 hK2 => ?_) ?_
    · refine ⟨by omega, ?_⟩
      rw [show ((n : Int) - 1).toNat = n - 1 by omega]
      refine lc_of (fun k => decide (ls ⟨#[(ls r).getD k 0]⟩ < ls ⟨#[(ls r).getD (k + 1) 0]⟩)) (fun k : Nat => D.int k) (fun k : Nat => D.int k) (by rw [szl, List.length_range]; omega) (fun k hk acc2 K2 ha2 hK3 hK4 => ?_) ?_
      · have hk := List.mem_range.mp hk
        obtain ⟨x, ex, xe, _⟩ := letter r hr k (by omega)
        obtain ⟨y, ey, ye, _⟩ := letter r hr (k + 1) (by omega)
        subst xe ye
        try simp only [Lp.wpSs, Lp.wpS, Lp.wpE, Lp.wpEs, Lp.wpSrc, Lp.wpH, Lp.bindT, Lp.bindTs, Lp.wipeE, Lp.q_ix1, Lp.q_ix2, Lp.q_ix3, Lp.q_ix4, Lp.q_lt, Lp.q_le, Lp.q_gt, Lp.q_ge, Lp.q_slt, Lp.q_sle, Lp.q_sgt, Lp.q_sge, Lp.q_in1, Lp.q_ni1, Lp.q_in2, Lp.q_ni2, Lp.q_in3, Lp.q_ni3, Lp.q_in4, Lp.q_ni4, Lp.q_in5, Lp.q_ni5, Lp.q_eqi, Lp.q_nei, Lp.q_addi, Lp.q_adds, Lp.q_addl, Lp.q_addt, Lp.q_subi, Lp.q_muli, Lp.q_muls, Lp.q_mull, Lp.q_fdiv, Lp.q_mod, Lp.q_pow, Lp.q_len1, Lp.q_len2, Lp.q_len3, Lp.q_len4, Lp.q_len5, Lp.q_int1, Lp.q_int2, Lp.q_abs, Lp.q_min, Lp.q_max, Lp.q_list1, Lp.q_list2, Lp.q_list3, Lp.q_tuple1, Lp.q_tuple2, Lp.q_sorted, Lp.q_sum, Lp.q_it1, Lp.q_it2, Lp.q_it3, Lp.q_it4, Lp.q_sl1, Lp.q_sl2, Lp.q_sl3, Lp.q_k1, Lp.q_k2, List.getElem?_cons_zero, List.getElem?_cons_succ, Option.some.injEq, Prod.mk.injEq, D.bl.injEq, D.lst.injEq, true_and, and_true, exists_eq_left', exists_eq_left, List.set_cons_zero, List.set_cons_succ, List.length_map, false_and, reduceCtorEq, exists_false, exists_const, Int.toNat_natCast, Bool.not_true, Bool.not_false, decide_true, decide_false, Lp.len_ls]
        exact ⟨_, lenr r hr, at_nat ex, _, lenr r hr, at_int (by omega) (by rw [show ((k : Int) + 1).toNat = k + 1 by omega]; exact ey), if_bl (fun e => ⟨ha2, hK3 e⟩) fun e => hK4 e⟩
      · try simp only [Lp.wpSs, Lp.wpS, Lp.wpE, Lp.wpEs, Lp.wpSrc, Lp.wpH, Lp.bindT, Lp.bindTs, Lp.wipeE, Lp.q_ix1, Lp.q_ix2, Lp.q_ix3, Lp.q_ix4, Lp.q_lt, Lp.q_le, Lp.q_gt, Lp.q_ge, Lp.q_slt, Lp.q_sle, Lp.q_sgt, Lp.q_sge, Lp.q_in1, Lp.q_ni1, Lp.q_in2, Lp.q_ni2, Lp.q_in3, Lp.q_ni3, Lp.q_in4, Lp.q_ni4, Lp.q_in5, Lp.q_ni5, Lp.q_eqi, Lp.q_nei, Lp.q_addi, Lp.q_adds, Lp.q_addl, Lp.q_addt, Lp.q_subi, Lp.q_muli, Lp.q_muls, Lp.q_mull, Lp.q_fdiv, Lp.q_mod, Lp.q_pow, Lp.q_len1, Lp.q_len2, Lp.q_len3, Lp.q_len4, Lp.q_len5, Lp.q_int1, Lp.q_int2, Lp.q_abs, Lp.q_min, Lp.q_max, Lp.q_list1, Lp.q_list2, Lp.q_list3, Lp.q_tuple1, Lp.q_tuple2, Lp.q_sorted, Lp.q_sum, Lp.q_it1, Lp.q_it2, Lp.q_it3, Lp.q_it4, Lp.q_sl1, Lp.q_sl2, Lp.q_sl3, Lp.q_k1, Lp.q_k2, List.getElem?_cons_zero, List.getElem?_cons_succ, Option.some.injEq, Prod.mk.injEq, D.bl.injEq, D.lst.injEq, true_and, and_true, exists_eq_left', exists_eq_left, List.set_cons_zero, List.set_cons_succ, List.length_map, false_and, reduceCtorEq, exists_false, exists_const, Int.toNat_natCast, Bool.not_true, Bool.not_false, decide_true, decide_false, Lp.len_ls]
        exact if_bl (fun e => ⟨ha, hK1 e⟩) fun e => hK2 e
    · try simp only [Lp.wpSs, Lp.wpS, Lp.wpE, Lp.wpEs, Lp.wpSrc, Lp.wpH, Lp.bindT, Lp.bindTs, Lp.wipeE, Lp.q_ix1, Lp.q_ix2, Lp.q_ix3, Lp.q_ix4, Lp.q_lt, Lp.q_le, Lp.q_gt, Lp.q_ge, Lp.q_slt, Lp.q_sle, Lp.q_sgt, Lp.q_sge, Lp.q_in1, Lp.q_ni1, Lp.q_in2, Lp.q_ni2, Lp.q_in3, Lp.q_ni3, Lp.q_in4, Lp.q_ni4, Lp.q_in5, Lp.q_ni5, Lp.q_eqi, Lp.q_nei, Lp.q_addi, Lp.q_adds, Lp.q_addl, Lp.q_addt, Lp.q_subi, Lp.q_muli, Lp.q_muls, Lp.q_mull, Lp.q_fdiv, Lp.q_mod, Lp.q_pow, Lp.q_len1, Lp.q_len2, Lp.q_len3, Lp.q_len4, Lp.q_len5, Lp.q_int1, Lp.q_int2, Lp.q_abs, Lp.q_min, Lp.q_max, Lp.q_list1, Lp.q_list2, Lp.q_list3, Lp.q_tuple1, Lp.q_tuple2, Lp.q_sorted, Lp.q_sum, Lp.q_it1, Lp.q_it2, Lp.q_it3, Lp.q_it4, Lp.q_sl1, Lp.q_sl2, Lp.q_sl3, Lp.q_k1, Lp.q_k2, List.getElem?_cons_zero, List.getElem?_cons_succ, Option.some.injEq, Prod.mk.injEq, D.bl.injEq, D.lst.injEq, true_and, and_true, exists_eq_left', exists_eq_left, List.set_cons_zero, List.set_cons_succ, List.length_map, false_and, reduceCtorEq, exists_false, exists_const, Int.toNat_natCast, Bool.not_true, Bool.not_false, decide_true, decide_false, Lp.len_ls]
      rw [show cutD (List.map D.str _) none (some 8) = _ from cutD_hi _ 8, ← List.map_take]
      exact hK _ (sub8 _)
  rintro e ⟨tk, rfl, nd, sub, l8⟩
  refine seqI I (fun K hK => ?_) ?_
  · try simp only [Lp.wpSs, Lp.wpS, Lp.wpE, Lp.wpEs, Lp.wpSrc, Lp.wpH, Lp.bindT, Lp.bindTs, Lp.wipeE, Lp.q_ix1, Lp.q_ix2, Lp.q_ix3, Lp.q_ix4, Lp.q_lt, Lp.q_le, Lp.q_gt, Lp.q_ge, Lp.q_slt, Lp.q_sle, Lp.q_sgt, Lp.q_sge, Lp.q_in1, Lp.q_ni1, Lp.q_in2, Lp.q_ni2, Lp.q_in3, Lp.q_ni3, Lp.q_in4, Lp.q_ni4, Lp.q_in5, Lp.q_ni5, Lp.q_eqi, Lp.q_nei, Lp.q_addi, Lp.q_adds, Lp.q_addl, Lp.q_addt, Lp.q_subi, Lp.q_muli, Lp.q_muls, Lp.q_mull, Lp.q_fdiv, Lp.q_mod, Lp.q_pow, Lp.q_len1, Lp.q_len2, Lp.q_len3, Lp.q_len4, Lp.q_len5, Lp.q_int1, Lp.q_int2, Lp.q_abs, Lp.q_min, Lp.q_max, Lp.q_list1, Lp.q_list2, Lp.q_list3, Lp.q_tuple1, Lp.q_tuple2, Lp.q_sorted, Lp.q_sum, Lp.q_it1, Lp.q_it2, Lp.q_it3, Lp.q_it4, Lp.q_sl1, Lp.q_sl2, Lp.q_sl3, Lp.q_k1, Lp.q_k2, List.getElem?_cons_zero, List.getElem?_cons_succ, Option.some.injEq, Prod.mk.injEq, D.bl.injEq, D.lst.injEq, true_and, and_true, exists_eq_left', exists_eq_left, List.set_cons_zero, List.set_cons_succ, List.length_map, false_and, reduceCtorEq, exists_false, exists_const, Int.toNat_natCast, Bool.not_true, Bool.not_false, decide_true, decide_false, Lp.len_ls, B]
    refine ⟨_, a2, ?_⟩
    try simp only [Lp.wpSs, Lp.wpS, Lp.wpE, Lp.wpEs, Lp.wpSrc, Lp.wpH, Lp.bindT, Lp.bindTs, Lp.wipeE, Lp.q_ix1, Lp.q_ix2, Lp.q_ix3, Lp.q_ix4, Lp.q_lt, Lp.q_le, Lp.q_gt, Lp.q_ge, Lp.q_slt, Lp.q_sle, Lp.q_sgt, Lp.q_sge, Lp.q_in1, Lp.q_ni1, Lp.q_in2, Lp.q_ni2, Lp.q_in3, Lp.q_ni3, Lp.q_in4, Lp.q_ni4, Lp.q_in5, Lp.q_ni5, Lp.q_eqi, Lp.q_nei, Lp.q_addi, Lp.q_adds, Lp.q_addl, Lp.q_addt, Lp.q_subi, Lp.q_muli, Lp.q_muls, Lp.q_mull, Lp.q_fdiv, Lp.q_mod, Lp.q_pow, Lp.q_len1, Lp.q_len2, Lp.q_len3, Lp.q_len4, Lp.q_len5, Lp.q_int1, Lp.q_int2, Lp.q_abs, Lp.q_min, Lp.q_max, Lp.q_list1, Lp.q_list2, Lp.q_list3, Lp.q_tuple1, Lp.q_tuple2, Lp.q_sorted, Lp.q_sum, Lp.q_it1, Lp.q_it2, Lp.q_it3, Lp.q_it4, Lp.q_sl1, Lp.q_sl2, Lp.q_sl3, Lp.q_k1, Lp.q_k2, List.getElem?_cons_zero, List.getElem?_cons_succ, Option.some.injEq, Prod.mk.injEq, D.bl.injEq, D.lst.injEq, true_and, and_true, exists_eq_left', exists_eq_left, List.set_cons_zero, List.set_cons_succ, List.length_map, false_and, reduceCtorEq, exists_false, exists_const, Int.toNat_natCast, Bool.not_true, Bool.not_false, decide_true, decide_false, Lp.len_ls]
    refine if_p (fun h => ?_) fun h => hK _ ⟨tk, rfl, nd, sub, l8⟩
    obtain ⟨y, ey⟩ : ∃ y, (ls a)[0]? = some y := ⟨_, List.getElem?_eq_getElem (by have := ga.ok.1; omega)⟩
    have hy : y < 1114112 := ans_letter ga.ok y (List.mem_of_getElem? ey)
    refine lc_of (fun r => decide ((((List.range n).filter fun k => !decide ((⟨#[(ls r).getD k 0]⟩ : Str) = ⟨#[y]⟩)).length : Int) ≤ 1)) D.str D.str (by rw [szl]; omega) (fun r hr acc K ha hK1 hK2 => ?_) ?_
    · refine ⟨by omega, ?_⟩
      refine lc_of (fun k => !decide ((⟨#[(ls r).getD k 0]⟩ : Str) = ⟨#[y]⟩)) (fun k : Nat => D.int k) (fun k : Nat => D.int k) (by rw [szl, List.length_range]; omega) (fun k hk acc2 K2 ha2 hK3 hK4 => ?_) ?_
      · have hk := List.mem_range.mp hk
        obtain ⟨x, ex, xe, hx⟩ := letter r hr k hk
        rw [← xe] at hK3 hK4
        try simp only [Lp.wpSs, Lp.wpS, Lp.wpE, Lp.wpEs, Lp.wpSrc, Lp.wpH, Lp.bindT, Lp.bindTs, Lp.wipeE, Lp.q_ix1, Lp.q_ix2, Lp.q_ix3, Lp.q_ix4, Lp.q_lt, Lp.q_le, Lp.q_gt, Lp.q_ge, Lp.q_slt, Lp.q_sle, Lp.q_sgt, Lp.q_sge, Lp.q_in1, Lp.q_ni1, Lp.q_in2, Lp.q_ni2, Lp.q_in3, Lp.q_ni3, Lp.q_in4, Lp.q_ni4, Lp.q_in5, Lp.q_ni5, Lp.q_eqi, Lp.q_nei, Lp.q_addi, Lp.q_adds, Lp.q_addl, Lp.q_addt, Lp.q_subi, Lp.q_muli, Lp.q_muls, Lp.q_mull, Lp.q_fdiv, Lp.q_mod, Lp.q_pow, Lp.q_len1, Lp.q_len2, Lp.q_len3, Lp.q_len4, Lp.q_len5, Lp.q_int1, Lp.q_int2, Lp.q_abs, Lp.q_min, Lp.q_max, Lp.q_list1, Lp.q_list2, Lp.q_list3, Lp.q_tuple1, Lp.q_tuple2, Lp.q_sorted, Lp.q_sum, Lp.q_it1, Lp.q_it2, Lp.q_it3, Lp.q_it4, Lp.q_sl1, Lp.q_sl2, Lp.q_sl3, Lp.q_k1, Lp.q_k2, List.getElem?_cons_zero, List.getElem?_cons_succ, Option.some.injEq, Prod.mk.injEq, D.bl.injEq, D.lst.injEq, true_and, and_true, exists_eq_left', exists_eq_left, List.set_cons_zero, List.set_cons_succ, List.length_map, false_and, reduceCtorEq, exists_false, exists_const, Int.toNat_natCast, Bool.not_true, Bool.not_false, decide_true, decide_false, Lp.len_ls]
        refine ⟨_, lenr r hr, at_nat ex, _, by rw [szl]; have := ga.ok.2.1; omega, at_int (i := 0) (Int.le_refl _) ey, ne_strs (fun c hc => by rw [List.mem_singleton.mp (show c ∈ [x] from hc)]; exact hx) (fun c hc => by rw [List.mem_singleton.mp (show c ∈ [y] from hc)]; exact hy) (if_bl (fun e => ⟨ha2, hK3 e⟩) fun e => hK4 e)⟩
      · try simp only [Lp.wpSs, Lp.wpS, Lp.wpE, Lp.wpEs, Lp.wpSrc, Lp.wpH, Lp.bindT, Lp.bindTs, Lp.wipeE, Lp.q_ix1, Lp.q_ix2, Lp.q_ix3, Lp.q_ix4, Lp.q_lt, Lp.q_le, Lp.q_gt, Lp.q_ge, Lp.q_slt, Lp.q_sle, Lp.q_sgt, Lp.q_sge, Lp.q_in1, Lp.q_ni1, Lp.q_in2, Lp.q_ni2, Lp.q_in3, Lp.q_ni3, Lp.q_in4, Lp.q_ni4, Lp.q_in5, Lp.q_ni5, Lp.q_eqi, Lp.q_nei, Lp.q_addi, Lp.q_adds, Lp.q_addl, Lp.q_addt, Lp.q_subi, Lp.q_muli, Lp.q_muls, Lp.q_mull, Lp.q_fdiv, Lp.q_mod, Lp.q_pow, Lp.q_len1, Lp.q_len2, Lp.q_len3, Lp.q_len4, Lp.q_len5, Lp.q_int1, Lp.q_int2, Lp.q_abs, Lp.q_min, Lp.q_max, Lp.q_list1, Lp.q_list2, Lp.q_list3, Lp.q_tuple1, Lp.q_tuple2, Lp.q_sorted, Lp.q_sum, Lp.q_it1, Lp.q_it2, Lp.q_it3, Lp.q_it4, Lp.q_sl1, Lp.q_sl2, Lp.q_sl3, Lp.q_k1, Lp.q_k2, List.getElem?_cons_zero, List.getElem?_cons_succ, Option.some.injEq, Prod.mk.injEq, D.bl.injEq, D.lst.injEq, true_and, and_true, exists_eq_left', exists_eq_left, List.set_cons_zero, List.set_cons_succ, List.length_map, false_and, reduceCtorEq, exists_false, exists_const, Int.toNat_natCast, Bool.not_true, Bool.not_false, decide_true, decide_false, Lp.len_ls]
        exact if_bl (fun e => ⟨ha, hK1 e⟩) fun e => hK2 e
    · try simp only [Lp.wpSs, Lp.wpS, Lp.wpE, Lp.wpEs, Lp.wpSrc, Lp.wpH, Lp.bindT, Lp.bindTs, Lp.wipeE, Lp.q_ix1, Lp.q_ix2, Lp.q_ix3, Lp.q_ix4, Lp.q_lt, Lp.q_le, Lp.q_gt, Lp.q_ge, Lp.q_slt, Lp.q_sle, Lp.q_sgt, Lp.q_sge, Lp.q_in1, Lp.q_ni1, Lp.q_in2, Lp.q_ni2, Lp.q_in3, Lp.q_ni3, Lp.q_in4, Lp.q_ni4, Lp.q_in5, Lp.q_ni5, Lp.q_eqi, Lp.q_nei, Lp.q_addi, Lp.q_adds, Lp.q_addl, Lp.q_addt, Lp.q_subi, Lp.q_muli, Lp.q_muls, Lp.q_mull, Lp.q_fdiv, Lp.q_mod, Lp.q_pow, Lp.q_len1, Lp.q_len2, Lp.q_len3, Lp.q_len4, Lp.q_len5, Lp.q_int1, Lp.q_int2, Lp.q_abs, Lp.q_min, Lp.q_max, Lp.q_list1, Lp.q_list2, Lp.q_list3, Lp.q_tuple1, Lp.q_tuple2, Lp.q_sorted, Lp.q_sum, Lp.q_it1, Lp.q_it2, Lp.q_it3, Lp.q_it4, Lp.q_sl1, Lp.q_sl2, Lp.q_sl3, Lp.q_k1, Lp.q_k2, List.getElem?_cons_zero, List.getElem?_cons_succ, Option.some.injEq, Prod.mk.injEq, D.bl.injEq, D.lst.injEq, true_and, and_true, exists_eq_left', exists_eq_left, List.set_cons_zero, List.set_cons_succ, List.length_map, false_and, reduceCtorEq, exists_false, exists_const, Int.toNat_natCast, Bool.not_true, Bool.not_false, decide_true, decide_false, Lp.len_ls]
      rw [show cutD (List.map D.str _) none (some 8) = _ from cutD_hi _ 8, ← List.map_take]
      exact hK _ (sub8 _)
  rintro e ⟨tk, rfl, nd, sub, l8⟩
  refine seqI I (fun K hK => ?_) ?_
  · try simp only [Lp.wpSs, Lp.wpS, Lp.wpE, Lp.wpEs, Lp.wpSrc, Lp.wpH, Lp.bindT, Lp.bindTs, Lp.wipeE, Lp.q_ix1, Lp.q_ix2, Lp.q_ix3, Lp.q_ix4, Lp.q_lt, Lp.q_le, Lp.q_gt, Lp.q_ge, Lp.q_slt, Lp.q_sle, Lp.q_sgt, Lp.q_sge, Lp.q_in1, Lp.q_ni1, Lp.q_in2, Lp.q_ni2, Lp.q_in3, Lp.q_ni3, Lp.q_in4, Lp.q_ni4, Lp.q_in5, Lp.q_ni5, Lp.q_eqi, Lp.q_nei, Lp.q_addi, Lp.q_adds, Lp.q_addl, Lp.q_addt, Lp.q_subi, Lp.q_muli, Lp.q_muls, Lp.q_mull, Lp.q_fdiv, Lp.q_mod, Lp.q_pow, Lp.q_len1, Lp.q_len2, Lp.q_len3, Lp.q_len4, Lp.q_len5, Lp.q_int1, Lp.q_int2, Lp.q_abs, Lp.q_min, Lp.q_max, Lp.q_list1, Lp.q_list2, Lp.q_list3, Lp.q_tuple1, Lp.q_tuple2, Lp.q_sorted, Lp.q_sum, Lp.q_it1, Lp.q_it2, Lp.q_it3, Lp.q_it4, Lp.q_sl1, Lp.q_sl2, Lp.q_sl3, Lp.q_k1, Lp.q_k2, List.getElem?_cons_zero, List.getElem?_cons_succ, Option.some.injEq, Prod.mk.injEq, D.bl.injEq, D.lst.injEq, true_and, and_true, exists_eq_left', exists_eq_left, List.set_cons_zero, List.set_cons_succ, List.length_map, false_and, reduceCtorEq, exists_false, exists_const, Int.toNat_natCast, Bool.not_true, Bool.not_false, decide_true, decide_false, Lp.len_ls, B]
    refine ⟨_, a2, ?_⟩
    try simp only [Lp.wpSs, Lp.wpS, Lp.wpE, Lp.wpEs, Lp.wpSrc, Lp.wpH, Lp.bindT, Lp.bindTs, Lp.wipeE, Lp.q_ix1, Lp.q_ix2, Lp.q_ix3, Lp.q_ix4, Lp.q_lt, Lp.q_le, Lp.q_gt, Lp.q_ge, Lp.q_slt, Lp.q_sle, Lp.q_sgt, Lp.q_sge, Lp.q_in1, Lp.q_ni1, Lp.q_in2, Lp.q_ni2, Lp.q_in3, Lp.q_ni3, Lp.q_in4, Lp.q_ni4, Lp.q_in5, Lp.q_ni5, Lp.q_eqi, Lp.q_nei, Lp.q_addi, Lp.q_adds, Lp.q_addl, Lp.q_addt, Lp.q_subi, Lp.q_muli, Lp.q_muls, Lp.q_mull, Lp.q_fdiv, Lp.q_mod, Lp.q_pow, Lp.q_len1, Lp.q_len2, Lp.q_len3, Lp.q_len4, Lp.q_len5, Lp.q_int1, Lp.q_int2, Lp.q_abs, Lp.q_min, Lp.q_max, Lp.q_list1, Lp.q_list2, Lp.q_list3, Lp.q_tuple1, Lp.q_tuple2, Lp.q_sorted, Lp.q_sum, Lp.q_it1, Lp.q_it2, Lp.q_it3, Lp.q_it4, Lp.q_sl1, Lp.q_sl2, Lp.q_sl3, Lp.q_k1, Lp.q_k2, List.getElem?_cons_zero, List.getElem?_cons_succ, Option.some.injEq, Prod.mk.injEq, D.bl.injEq, D.lst.injEq, true_and, and_true, exists_eq_left', exists_eq_left, List.set_cons_zero, List.set_cons_succ, List.length_map, false_and, reduceCtorEq, exists_false, exists_const, Int.toNat_natCast, Bool.not_true, Bool.not_false, decide_true, decide_false, Lp.len_ls]
    refine if_p (fun h => if_p (fun h2 => hK _ ⟨ev, rfl, evn, fun r hr => hr, by omega⟩) fun h2 => hK _ ⟨tk, rfl, nd, sub, l8⟩) fun h => hK _ ⟨tk, rfl, nd, sub, l8⟩
  rintro e ⟨tk, rfl, nd, sub, l8⟩
  refine seqI (fun e => ∃ tk v8, e = B tk v8 ∧ tk.Nodup ∧ (∀ r ∈ tk, r ∈ ev) ∧ tk.length ≤ 8 ∧ tk ≠ []) (fun K hK => ?_) ?_
  · try simp only [Lp.wpSs, Lp.wpS, Lp.wpE, Lp.wpEs, Lp.wpSrc, Lp.wpH, Lp.bindT, Lp.bindTs, Lp.wipeE, Lp.q_ix1, Lp.q_ix2, Lp.q_ix3, Lp.q_ix4, Lp.q_lt, Lp.q_le, Lp.q_gt, Lp.q_ge, Lp.q_slt, Lp.q_sle, Lp.q_sgt, Lp.q_sge, Lp.q_in1, Lp.q_ni1, Lp.q_in2, Lp.q_ni2, Lp.q_in3, Lp.q_ni3, Lp.q_in4, Lp.q_ni4, Lp.q_in5, Lp.q_ni5, Lp.q_eqi, Lp.q_nei, Lp.q_addi, Lp.q_adds, Lp.q_addl, Lp.q_addt, Lp.q_subi, Lp.q_muli, Lp.q_muls, Lp.q_mull, Lp.q_fdiv, Lp.q_mod, Lp.q_pow, Lp.q_len1, Lp.q_len2, Lp.q_len3, Lp.q_len4, Lp.q_len5, Lp.q_int1, Lp.q_int2, Lp.q_abs, Lp.q_min, Lp.q_max, Lp.q_list1, Lp.q_list2, Lp.q_list3, Lp.q_tuple1, Lp.q_tuple2, Lp.q_sorted, Lp.q_sum, Lp.q_it1, Lp.q_it2, Lp.q_it3, Lp.q_it4, Lp.q_sl1, Lp.q_sl2, Lp.q_sl3, Lp.q_k1, Lp.q_k2, List.getElem?_cons_zero, List.getElem?_cons_succ, Option.some.injEq, Prod.mk.injEq, D.bl.injEq, D.lst.injEq, true_and, and_true, exists_eq_left', exists_eq_left, List.set_cons_zero, List.set_cons_succ, List.length_map, false_and, reduceCtorEq, exists_false, exists_const, Int.toNat_natCast, Bool.not_true, Bool.not_false, decide_true, decide_false, Lp.len_ls, B]
    refine ⟨_, a3, ?_⟩
    try simp only [Lp.wpSs, Lp.wpS, Lp.wpE, Lp.wpEs, Lp.wpSrc, Lp.wpH, Lp.bindT, Lp.bindTs, Lp.wipeE, Lp.q_ix1, Lp.q_ix2, Lp.q_ix3, Lp.q_ix4, Lp.q_lt, Lp.q_le, Lp.q_gt, Lp.q_ge, Lp.q_slt, Lp.q_sle, Lp.q_sgt, Lp.q_sge, Lp.q_in1, Lp.q_ni1, Lp.q_in2, Lp.q_ni2, Lp.q_in3, Lp.q_ni3, Lp.q_in4, Lp.q_ni4, Lp.q_in5, Lp.q_ni5, Lp.q_eqi, Lp.q_nei, Lp.q_addi, Lp.q_adds, Lp.q_addl, Lp.q_addt, Lp.q_subi, Lp.q_muli, Lp.q_muls, Lp.q_mull, Lp.q_fdiv, Lp.q_mod, Lp.q_pow, Lp.q_len1, Lp.q_len2, Lp.q_len3, Lp.q_len4, Lp.q_len5, Lp.q_int1, Lp.q_int2, Lp.q_abs, Lp.q_min, Lp.q_max, Lp.q_list1, Lp.q_list2, Lp.q_list3, Lp.q_tuple1, Lp.q_tuple2, Lp.q_sorted, Lp.q_sum, Lp.q_it1, Lp.q_it2, Lp.q_it3, Lp.q_it4, Lp.q_sl1, Lp.q_sl2, Lp.q_sl3, Lp.q_k1, Lp.q_k2, List.getElem?_cons_zero, List.getElem?_cons_succ, Option.some.injEq, Prod.mk.injEq, D.bl.injEq, D.lst.injEq, true_and, and_true, exists_eq_left', exists_eq_left, List.set_cons_zero, List.set_cons_succ, List.length_map, false_and, reduceCtorEq, exists_false, exists_const, Int.toNat_natCast, Bool.not_true, Bool.not_false, decide_true, decide_false, Lp.len_ls]
    refine ⟨by omega, ?_⟩
    refine wpFor_range (fun i env => ∃ tk v8, env = B tk v8 ∧ tk.Nodup ∧ (∀ r ∈ tk, r ∈ ev) ∧ tk.length ≤ 8 ∧ (0 < i → tk ≠ [])) ⟨tk, _, rfl, nd, sub, l8, fun z => absurd z (Nat.lt_irrefl _)⟩ (fun i hi env K hI hK => ?_) fun env hI => ?_
    · obtain ⟨tk, v8, rfl, nd, sub, l8, _⟩ := hI
      obtain ⟨x, ex, hx0, hx1⟩ := dig_at dgr (i := i) (s := ev.length) (List.getElem?_replicate_of_lt (by omega))
      have ax := at_map D.int (at_nat ex)
      obtain ⟨r, er⟩ : ∃ r, ev[x.toNat]? = some r := ⟨_, List.getElem?_eq_getElem (by omega)⟩
      have ar := at_map D.str (at_int hx0 er)
      try simp only [Lp.wpSs, Lp.wpS, Lp.wpE, Lp.wpEs, Lp.wpSrc, Lp.wpH, Lp.bindT, Lp.bindTs, Lp.wipeE, Lp.q_ix1, Lp.q_ix2, Lp.q_ix3, Lp.q_ix4, Lp.q_lt, Lp.q_le, Lp.q_gt, Lp.q_ge, Lp.q_slt, Lp.q_sle, Lp.q_sgt, Lp.q_sge, Lp.q_in1, Lp.q_ni1, Lp.q_in2, Lp.q_ni2, Lp.q_in3, Lp.q_ni3, Lp.q_in4, Lp.q_ni4, Lp.q_in5, Lp.q_ni5, Lp.q_eqi, Lp.q_nei, Lp.q_addi, Lp.q_adds, Lp.q_addl, Lp.q_addt, Lp.q_subi, Lp.q_muli, Lp.q_muls, Lp.q_mull, Lp.q_fdiv, Lp.q_mod, Lp.q_pow, Lp.q_len1, Lp.q_len2, Lp.q_len3, Lp.q_len4, Lp.q_len5, Lp.q_int1, Lp.q_int2, Lp.q_abs, Lp.q_min, Lp.q_max, Lp.q_list1, Lp.q_list2, Lp.q_list3, Lp.q_tuple1, Lp.q_tuple2, Lp.q_sorted, Lp.q_sum, Lp.q_it1, Lp.q_it2, Lp.q_it3, Lp.q_it4, Lp.q_sl1, Lp.q_sl2, Lp.q_sl3, Lp.q_k1, Lp.q_k2, List.getElem?_cons_zero, List.getElem?_cons_succ, Option.some.injEq, Prod.mk.injEq, D.bl.injEq, D.lst.injEq, true_and, and_true, exists_eq_left', exists_eq_left, List.set_cons_zero, List.set_cons_succ, List.length_map, false_and, reduceCtorEq, exists_false, exists_const, Int.toNat_natCast, Bool.not_true, Bool.not_false, decide_true, decide_false, Lp.len_ls, B]
      refine ⟨_, ax, ?_⟩
      try simp only [Lp.wpSs, Lp.wpS, Lp.wpE, Lp.wpEs, Lp.wpSrc, Lp.wpH, Lp.bindT, Lp.bindTs, Lp.wipeE, Lp.q_ix1, Lp.q_ix2, Lp.q_ix3, Lp.q_ix4, Lp.q_lt, Lp.q_le, Lp.q_gt, Lp.q_ge, Lp.q_slt, Lp.q_sle, Lp.q_sgt, Lp.q_sge, Lp.q_in1, Lp.q_ni1, Lp.q_in2, Lp.q_ni2, Lp.q_in3, Lp.q_ni3, Lp.q_in4, Lp.q_ni4, Lp.q_in5, Lp.q_ni5, Lp.q_eqi, Lp.q_nei, Lp.q_addi, Lp.q_adds, Lp.q_addl, Lp.q_addt, Lp.q_subi, Lp.q_muli, Lp.q_muls, Lp.q_mull, Lp.q_fdiv, Lp.q_mod, Lp.q_pow, Lp.q_len1, Lp.q_len2, Lp.q_len3, Lp.q_len4, Lp.q_len5, Lp.q_int1, Lp.q_int2, Lp.q_abs, Lp.q_min, Lp.q_max, Lp.q_list1, Lp.q_list2, Lp.q_list3, Lp.q_tuple1, Lp.q_tuple2, Lp.q_sorted, Lp.q_sum, Lp.q_it1, Lp.q_it2, Lp.q_it3, Lp.q_it4, Lp.q_sl1, Lp.q_sl2, Lp.q_sl3, Lp.q_k1, Lp.q_k2, List.getElem?_cons_zero, List.getElem?_cons_succ, Option.some.injEq, Prod.mk.injEq, D.bl.injEq, D.lst.injEq, true_and, and_true, exists_eq_left', exists_eq_left, List.set_cons_zero, List.set_cons_succ, List.length_map, false_and, reduceCtorEq, exists_false, exists_const, Int.toNat_natCast, Bool.not_true, Bool.not_false, decide_true, decide_false, Lp.len_ls]
      refine ⟨_, ar, ?_⟩
      try simp only [Lp.wpSs, Lp.wpS, Lp.wpE, Lp.wpEs, Lp.wpSrc, Lp.wpH, Lp.bindT, Lp.bindTs, Lp.wipeE, Lp.q_ix1, Lp.q_ix2, Lp.q_ix3, Lp.q_ix4, Lp.q_lt, Lp.q_le, Lp.q_gt, Lp.q_ge, Lp.q_slt, Lp.q_sle, Lp.q_sgt, Lp.q_sge, Lp.q_in1, Lp.q_ni1, Lp.q_in2, Lp.q_ni2, Lp.q_in3, Lp.q_ni3, Lp.q_in4, Lp.q_ni4, Lp.q_in5, Lp.q_ni5, Lp.q_eqi, Lp.q_nei, Lp.q_addi, Lp.q_adds, Lp.q_addl, Lp.q_addt, Lp.q_subi, Lp.q_muli, Lp.q_muls, Lp.q_mull, Lp.q_fdiv, Lp.q_mod, Lp.q_pow, Lp.q_len1, Lp.q_len2, Lp.q_len3, Lp.q_len4, Lp.q_len5, Lp.q_int1, Lp.q_int2, Lp.q_abs, Lp.q_min, Lp.q_max, Lp.q_list1, Lp.q_list2, Lp.q_list3, Lp.q_tuple1, Lp.q_tuple2, Lp.q_sorted, Lp.q_sum, Lp.q_it1, Lp.q_it2, Lp.q_it3, Lp.q_it4, Lp.q_sl1, Lp.q_sl2, Lp.q_sl3, Lp.q_k1, Lp.q_k2, List.getElem?_cons_zero, List.getElem?_cons_succ, Option.some.injEq, Prod.mk.injEq, D.bl.injEq, D.lst.injEq, true_and, and_true, exists_eq_left', exists_eq_left, List.set_cons_zero, List.set_cons_succ, List.length_map, false_and, reduceCtorEq, exists_false, exists_const, Int.toNat_natCast, Bool.not_true, Bool.not_false, decide_true, decide_false, Lp.len_ls]
      refine if_np (fun h => if_p (fun h2 => ⟨_, ax, ?_⟩) fun h2 => hK _ ⟨tk, _, rfl, nd, sub, l8, fun _ e => by rw [e] at h2; exact h2 (by decide)⟩) fun h => hK _ ⟨tk, _, rfl, nd, sub, l8, fun _ e => by rw [e] at h; cases h⟩
      try simp only [Lp.wpSs, Lp.wpS, Lp.wpE, Lp.wpEs, Lp.wpSrc, Lp.wpH, Lp.bindT, Lp.bindTs, Lp.wipeE, Lp.q_ix1, Lp.q_ix2, Lp.q_ix3, Lp.q_ix4, Lp.q_lt, Lp.q_le, Lp.q_gt, Lp.q_ge, Lp.q_slt, Lp.q_sle, Lp.q_sgt, Lp.q_sge, Lp.q_in1, Lp.q_ni1, Lp.q_in2, Lp.q_ni2, Lp.q_in3, Lp.q_ni3, Lp.q_in4, Lp.q_ni4, Lp.q_in5, Lp.q_ni5, Lp.q_eqi, Lp.q_nei, Lp.q_addi, Lp.q_adds, Lp.q_addl, Lp.q_addt, Lp.q_subi, Lp.q_muli, Lp.q_muls, Lp.q_mull, Lp.q_fdiv, Lp.q_mod, Lp.q_pow, Lp.q_len1, Lp.q_len2, Lp.q_len3, Lp.q_len4, Lp.q_len5, Lp.q_int1, Lp.q_int2, Lp.q_abs, Lp.q_min, Lp.q_max, Lp.q_list1, Lp.q_list2, Lp.q_list3, Lp.q_tuple1, Lp.q_tuple2, Lp.q_sorted, Lp.q_sum, Lp.q_it1, Lp.q_it2, Lp.q_it3, Lp.q_it4, Lp.q_sl1, Lp.q_sl2, Lp.q_sl3, Lp.q_k1, Lp.q_k2, List.getElem?_cons_zero, List.getElem?_cons_succ, Option.some.injEq, Prod.mk.injEq, D.bl.injEq, D.lst.injEq, true_and, and_true, exists_eq_left', exists_eq_left, List.set_cons_zero, List.set_cons_succ, List.length_map, false_and, reduceCtorEq, exists_false, exists_const, Int.toNat_natCast, Bool.not_true, Bool.not_false, decide_true, decide_false, Lp.len_ls]
      refine ⟨_, ar, by rw [szl]; omega, hK _ ⟨tk ++ [r], some (false, .int (i : Nat)), ?_, ?_, fun z hz => ?_, ?_, fun _ e => by simp at e⟩⟩
      · show _ = [_, _, _, _, _, _, _, some (true, D.lst ((tk ++ [r]).map D.str)), _, _]
        rw [List.map_append]; rfl
      · exact List.nodup_append.mpr ⟨nd, List.pairwise_singleton _ _, fun u hu v hv e => h (by rw [List.mem_singleton.mp hv] at e; rw [← e]; exact hu)⟩
      · rcases List.mem_append.mp hz with hz | hz
        · exact sub z hz
        · rw [List.mem_singleton.mp hz]; exact List.mem_of_getElem? er
      · rw [List.length_append, List.length_singleton]; omega
    · obtain ⟨tk, v8, rfl, nd, sub, l8, ne⟩ := hI
      exact hK _ ⟨tk, v8, rfl, nd, sub, l8, ne (by omega)⟩
  rintro e ⟨tk, v8, rfl, nd, sub, l8, ne⟩
  try simp only [Lp.wpSs, Lp.wpS, Lp.wpE, Lp.wpEs, Lp.wpSrc, Lp.wpH, Lp.bindT, Lp.bindTs, Lp.wipeE, Lp.q_ix1, Lp.q_ix2, Lp.q_ix3, Lp.q_ix4, Lp.q_lt, Lp.q_le, Lp.q_gt, Lp.q_ge, Lp.q_slt, Lp.q_sle, Lp.q_sgt, Lp.q_sge, Lp.q_in1, Lp.q_ni1, Lp.q_in2, Lp.q_ni2, Lp.q_in3, Lp.q_ni3, Lp.q_in4, Lp.q_ni4, Lp.q_in5, Lp.q_ni5, Lp.q_eqi, Lp.q_nei, Lp.q_addi, Lp.q_adds, Lp.q_addl, Lp.q_addt, Lp.q_subi, Lp.q_muli, Lp.q_muls, Lp.q_mull, Lp.q_fdiv, Lp.q_mod, Lp.q_pow, Lp.q_len1, Lp.q_len2, Lp.q_len3, Lp.q_len4, Lp.q_len5, Lp.q_int1, Lp.q_int2, Lp.q_abs, Lp.q_min, Lp.q_max, Lp.q_list1, Lp.q_list2, Lp.q_list3, Lp.q_tuple1, Lp.q_tuple2, Lp.q_sorted, Lp.q_sum, Lp.q_it1, Lp.q_it2, Lp.q_it3, Lp.q_it4, Lp.q_sl1, Lp.q_sl2, Lp.q_sl3, Lp.q_k1, Lp.q_k2, List.getElem?_cons_zero, List.getElem?_cons_succ, Option.some.injEq, Prod.mk.injEq, D.bl.injEq, D.lst.injEq, true_and, and_true, exists_eq_left', exists_eq_left, List.set_cons_zero, List.set_cons_succ, List.length_map, false_and, reduceCtorEq, exists_false, exists_const, Int.toNat_natCast, Bool.not_true, Bool.not_false, decide_true, decide_false, Lp.len_ls, B]
  refine sort_strs (by omega) ⟨by show 3 ≤ sizeLine; rw [szl]; omega, hq _ ⟨a, n, srt tk, rfl, ga, n1, by omega, (srt_perm tk).nodup_iff.mpr nd, fun e => ne ?_, ?_, fun r hr => evr r (sub r (mem_srt.mp hr))⟩⟩
  · have := (srt_perm tk).length_eq
    rw [e] at this
    exact List.length_eq_zero_iff.mp this.symm
  · rw [(srt_perm tk).length_eq]; omega
end K9
namespace K9
open PySem L2 Lp
theorem kit_tt : L2.kitB "tuple" (tyB .tuple) = some true := by decide +kernel
theorem fine_tups {ss : List Str} (h : ∀ s ∈ ss, ∀ c ∈ ls s, c < 1114112) : fineD 1 (.tup (ss.map .str)) = true := fine_tup fun d hd => by
  obtain ⟨s, hs, rfl⟩ := List.mem_map.mp hd
  exact fine_str (h s hs)
theorem fine_tupi {ns : List Int} : fineD 1 (.tup (ns.map .int)) = true := fine_tup fun d hd => by
  obtain ⟨s, hs, rfl⟩ := List.mem_map.mp hd
  exact fine_int
def c_law : Ct := ctF (fun ns : List Int => [.scr ns]) (fun _ => True) fun _ => .bl true
theorem r_law {T : Tab} (t : Cs T) (h1 : T.fn "_law_cell" = some c_cell) (h2 : T.fn "_law_digits" = some c_digits) (h3 : T.fn "_law_all_rows" = some c_all) (h4 : T.fn "_law_class" = some c_class) (h5 : T.cls "RuleClass" = some c_RuleClass)
    (h6 : T.fn "_law_rows_on" = some c_rows_on) (h7 : T.fn "rows_seen" = some c_rows_seen) (h8 : T.fn "web_of" = some c_web_of) (h9 : T.fn "narrowed" = some c_narrowed) (h10 : T.fn "row_of" = some c_row_of) (h11 : T.fn "givers" = some c_givers)
    (h12 : T.fn "_law_wrong_bags" = some c_wrong) (h13 : T.fn "_law_bad_bag" = some c_bad) :
    ∀ ds Q X, c_law.run ds Q X → wpSs T b_law (env0 N_law ds) { nx := fun _ => Q .non, rt := Q, bk := fun _ => False, ct := fun _ => False, ex := fun _ => X } := by
  rintro ds Q X ⟨ns, rfl, -, hq⟩
  have hq : Q (.bl true) := hq
  show wpSs T b_law [some (false, .scr ns), none, none, none, none, none, none, none, none, none, none, none, none, none, none, none, none, none, none] _
  unfold b_law
  refine seqK fun K hK => ?_
  try simp only [Lp.wpSs, Lp.wpS, Lp.wpE, Lp.wpEs, Lp.wpSrc, Lp.wpH, Lp.bindT, Lp.bindTs, Lp.wipeE, Lp.q_ix1, Lp.q_ix2, Lp.q_ix3, Lp.q_ix4, Lp.q_lt, Lp.q_le, Lp.q_gt, Lp.q_ge, Lp.q_slt, Lp.q_sle, Lp.q_sgt, Lp.q_sge, Lp.q_in1, Lp.q_ni1, Lp.q_in2, Lp.q_ni2, Lp.q_in3, Lp.q_ni3, Lp.q_in4, Lp.q_ni4, Lp.q_in5, Lp.q_ni5, Lp.q_eqi, Lp.q_nei, Lp.q_addi, Lp.q_adds, Lp.q_addl, Lp.q_addt, Lp.q_subi, Lp.q_muli, Lp.q_muls, Lp.q_mull, Lp.q_fdiv, Lp.q_mod, Lp.q_pow, Lp.q_len1, Lp.q_len2, Lp.q_len3, Lp.q_len4, Lp.q_len5, Lp.q_int1, Lp.q_int2, Lp.q_abs, Lp.q_min, Lp.q_max, Lp.q_list1, Lp.q_list2, Lp.q_list3, Lp.q_tuple1, Lp.q_tuple2, Lp.q_sorted, Lp.q_sum, Lp.q_it1, Lp.q_it2, Lp.q_it3, Lp.q_it4, Lp.q_sl1, Lp.q_sl2, Lp.q_sl3, Lp.q_k1, Lp.q_k2, List.getElem?_cons_zero, List.getElem?_cons_succ, Option.some.injEq, Prod.mk.injEq, D.bl.injEq, D.lst.injEq, true_and, and_true, exists_eq_left', exists_eq_left, List.set_cons_zero, List.set_cons_succ, List.length_map, false_and, reduceCtorEq, exists_false, exists_const, Int.toNat_natCast, Bool.not_true, Bool.not_false, decide_true, decide_false, Lp.len_ls, h4]
  refine ct_run (ns, 0) rfl ⟨Int.le_refl _, by show (0 : Int) ≤ 100; decide⟩ (fun d hd => ?_) (fun x hx => hx.elim)
  obtain ⟨a1, n1, tk1, rfl, gc1⟩ := hd
  refine hK _ ?_
  refine seqK fun K hK => ?_
  try simp only [Lp.wpSs, Lp.wpS, Lp.wpE, Lp.wpEs, Lp.wpSrc, Lp.wpH, Lp.bindT, Lp.bindTs, Lp.wipeE, Lp.q_ix1, Lp.q_ix2, Lp.q_ix3, Lp.q_ix4, Lp.q_lt, Lp.q_le, Lp.q_gt, Lp.q_ge, Lp.q_slt, Lp.q_sle, Lp.q_sgt, Lp.q_sge, Lp.q_in1, Lp.q_ni1, Lp.q_in2, Lp.q_ni2, Lp.q_in3, Lp.q_ni3, Lp.q_in4, Lp.q_ni4, Lp.q_in5, Lp.q_ni5, Lp.q_eqi, Lp.q_nei, Lp.q_addi, Lp.q_adds, Lp.q_addl, Lp.q_addt, Lp.q_subi, Lp.q_muli, Lp.q_muls, Lp.q_mull, Lp.q_fdiv, Lp.q_mod, Lp.q_pow, Lp.q_len1, Lp.q_len2, Lp.q_len3, Lp.q_len4, Lp.q_len5, Lp.q_int1, Lp.q_int2, Lp.q_abs, Lp.q_min, Lp.q_max, Lp.q_list1, Lp.q_list2, Lp.q_list3, Lp.q_tuple1, Lp.q_tuple2, Lp.q_sorted, Lp.q_sum, Lp.q_it1, Lp.q_it2, Lp.q_it3, Lp.q_it4, Lp.q_sl1, Lp.q_sl2, Lp.q_sl3, Lp.q_k1, Lp.q_k2, List.getElem?_cons_zero, List.getElem?_cons_succ, Option.some.injEq, Prod.mk.injEq, D.bl.injEq, D.lst.injEq, true_and, and_true, exists_eq_left', exists_eq_left, List.set_cons_zero, List.set_cons_succ, List.length_map, false_and, reduceCtorEq, exists_false, exists_const, Int.toNat_natCast, Bool.not_true, Bool.not_false, decide_true, decide_false, Lp.len_ls, h1, h2]
  refine ct_run (ns, 2) rfl ⟨by show (0 : Int) ≤ 2; decide, by show (2 : Int) ≤ 1000; decide⟩ (fun d hd => ?_) (fun x hx => hx.elim)
  obtain ⟨c, rfl⟩ := hd
  try simp only [Lp.wpSs, Lp.wpS, Lp.wpE, Lp.wpEs, Lp.wpSrc, Lp.wpH, Lp.bindT, Lp.bindTs, Lp.wipeE, Lp.q_ix1, Lp.q_ix2, Lp.q_ix3, Lp.q_ix4, Lp.q_lt, Lp.q_le, Lp.q_gt, Lp.q_ge, Lp.q_slt, Lp.q_sle, Lp.q_sgt, Lp.q_sge, Lp.q_in1, Lp.q_ni1, Lp.q_in2, Lp.q_ni2, Lp.q_in3, Lp.q_ni3, Lp.q_in4, Lp.q_ni4, Lp.q_in5, Lp.q_ni5, Lp.q_eqi, Lp.q_nei, Lp.q_addi, Lp.q_adds, Lp.q_addl, Lp.q_addt, Lp.q_subi, Lp.q_muli, Lp.q_muls, Lp.q_mull, Lp.q_fdiv, Lp.q_mod, Lp.q_pow, Lp.q_len1, Lp.q_len2, Lp.q_len3, Lp.q_len4, Lp.q_len5, Lp.q_int1, Lp.q_int2, Lp.q_abs, Lp.q_min, Lp.q_max, Lp.q_list1, Lp.q_list2, Lp.q_list3, Lp.q_tuple1, Lp.q_tuple2, Lp.q_sorted, Lp.q_sum, Lp.q_it1, Lp.q_it2, Lp.q_it3, Lp.q_it4, Lp.q_sl1, Lp.q_sl2, Lp.q_sl3, Lp.q_k1, Lp.q_k2, List.getElem?_cons_zero, List.getElem?_cons_succ, Option.some.injEq, Prod.mk.injEq, D.bl.injEq, D.lst.injEq, true_and, and_true, exists_eq_left', exists_eq_left, List.set_cons_zero, List.set_cons_succ, List.length_map, false_and, reduceCtorEq, exists_false, exists_const, Int.toNat_natCast, Bool.not_true, Bool.not_false, decide_true, decide_false, Lp.len_ls]
  refine ⟨by show 5 ≤ sizeLine; rw [szl]; omega, ct_run (c, [8, 6, 60, 2, 60]) rfl ⟨(by decide : ([8, 6, 60, 2, 60] : List Int).length ≤ 1000), (by decide : ∀ s ∈ ([8, 6, 60, 2, 60] : List Int), 0 < s ∧ s < 4294967296)⟩ (fun d hd => ?_) (fun x hx => hx.elim)⟩
  obtain ⟨sh, rfl, dg⟩ := hd
  refine hK _ ?_
  obtain ⟨x0, e0, x00, x01⟩ := dig_at dg (i := 0) (s := 8) rfl
  obtain ⟨x1, e1, x10, x11⟩ := dig_at dg (i := 1) (s := 6) rfl
  obtain ⟨x2, e2, x20, x21⟩ := dig_at dg (i := 2) (s := 60) rfl
  obtain ⟨x3, e3, x30, x31⟩ := dig_at dg (i := 3) (s := 2) rfl
  obtain ⟨x4, e4, x40, x41⟩ := dig_at dg (i := 4) (s := 60) rfl
  have s0 : atI (sh.map D.int) 0 = some (.int x0) := at_map D.int (at_nat e0)
  have s1 : atI (sh.map D.int) 1 = some (.int x1) := at_map D.int (at_nat e1)
  have s2 : atI (sh.map D.int) 2 = some (.int x2) := at_map D.int (at_nat e2)
  have s3 : atI (sh.map D.int) 3 = some (.int x3) := at_map D.int (at_nat e3)
  have s4 : atI (sh.map D.int) 4 = some (.int x4) := at_map D.int (at_nat e4)
  refine seqI (fun e => ∃ a n tk v3, e = [some (false, .scr ns), some (false, clsD a n tk), some (false, .lst (sh.map .int)), v3, none, none, none, none, none, none, none, none, none, none, none, none, none, none, none] ∧ GC 32 a n tk) (fun K hK => ?_) ?_
  · try simp only [Lp.wpSs, Lp.wpS, Lp.wpE, Lp.wpEs, Lp.wpSrc, Lp.wpH, Lp.bindT, Lp.bindTs, Lp.wipeE, Lp.q_ix1, Lp.q_ix2, Lp.q_ix3, Lp.q_ix4, Lp.q_lt, Lp.q_le, Lp.q_gt, Lp.q_ge, Lp.q_slt, Lp.q_sle, Lp.q_sgt, Lp.q_sge, Lp.q_in1, Lp.q_ni1, Lp.q_in2, Lp.q_ni2, Lp.q_in3, Lp.q_ni3, Lp.q_in4, Lp.q_ni4, Lp.q_in5, Lp.q_ni5, Lp.q_eqi, Lp.q_nei, Lp.q_addi, Lp.q_adds, Lp.q_addl, Lp.q_addt, Lp.q_subi, Lp.q_muli, Lp.q_muls, Lp.q_mull, Lp.q_fdiv, Lp.q_mod, Lp.q_pow, Lp.q_len1, Lp.q_len2, Lp.q_len3, Lp.q_len4, Lp.q_len5, Lp.q_int1, Lp.q_int2, Lp.q_abs, Lp.q_min, Lp.q_max, Lp.q_list1, Lp.q_list2, Lp.q_list3, Lp.q_tuple1, Lp.q_tuple2, Lp.q_sorted, Lp.q_sum, Lp.q_it1, Lp.q_it2, Lp.q_it3, Lp.q_it4, Lp.q_sl1, Lp.q_sl2, Lp.q_sl3, Lp.q_k1, Lp.q_k2, List.getElem?_cons_zero, List.getElem?_cons_succ, Option.some.injEq, Prod.mk.injEq, D.bl.injEq, D.lst.injEq, true_and, and_true, exists_eq_left', exists_eq_left, List.set_cons_zero, List.set_cons_succ, List.length_map, false_and, reduceCtorEq, exists_false, exists_const, Int.toNat_natCast, Bool.not_true, Bool.not_false, decide_true, decide_false, Lp.len_ls]
    refine ⟨_, s0, ?_⟩
    try simp only [Lp.wpSs, Lp.wpS, Lp.wpE, Lp.wpEs, Lp.wpSrc, Lp.wpH, Lp.bindT, Lp.bindTs, Lp.wipeE, Lp.q_ix1, Lp.q_ix2, Lp.q_ix3, Lp.q_ix4, Lp.q_lt, Lp.q_le, Lp.q_gt, Lp.q_ge, Lp.q_slt, Lp.q_sle, Lp.q_sgt, Lp.q_sge, Lp.q_in1, Lp.q_ni1, Lp.q_in2, Lp.q_ni2, Lp.q_in3, Lp.q_ni3, Lp.q_in4, Lp.q_ni4, Lp.q_in5, Lp.q_ni5, Lp.q_eqi, Lp.q_nei, Lp.q_addi, Lp.q_adds, Lp.q_addl, Lp.q_addt, Lp.q_subi, Lp.q_muli, Lp.q_muls, Lp.q_mull, Lp.q_fdiv, Lp.q_mod, Lp.q_pow, Lp.q_len1, Lp.q_len2, Lp.q_len3, Lp.q_len4, Lp.q_len5, Lp.q_int1, Lp.q_int2, Lp.q_abs, Lp.q_min, Lp.q_max, Lp.q_list1, Lp.q_list2, Lp.q_list3, Lp.q_tuple1, Lp.q_tuple2, Lp.q_sorted, Lp.q_sum, Lp.q_it1, Lp.q_it2, Lp.q_it3, Lp.q_it4, Lp.q_sl1, Lp.q_sl2, Lp.q_sl3, Lp.q_k1, Lp.q_k2, List.getElem?_cons_zero, List.getElem?_cons_succ, Option.some.injEq, Prod.mk.injEq, D.bl.injEq, D.lst.injEq, true_and, and_true, exists_eq_left', exists_eq_left, List.set_cons_zero, List.set_cons_succ, List.length_map, false_and, reduceCtorEq, exists_false, exists_const, Int.toNat_natCast, Bool.not_true, Bool.not_false, decide_true, decide_false, Lp.len_ls]
    refine if_p (fun h => ?_) fun h => hK _ ⟨a1, n1, tk1, _, rfl, gc1⟩
    try simp only [Lp.wpSs, Lp.wpS, Lp.wpE, Lp.wpEs, Lp.wpSrc, Lp.wpH, Lp.bindT, Lp.bindTs, Lp.wipeE, Lp.q_ix1, Lp.q_ix2, Lp.q_ix3, Lp.q_ix4, Lp.q_lt, Lp.q_le, Lp.q_gt, Lp.q_ge, Lp.q_slt, Lp.q_sle, Lp.q_sgt, Lp.q_sge, Lp.q_in1, Lp.q_ni1, Lp.q_in2, Lp.q_ni2, Lp.q_in3, Lp.q_ni3, Lp.q_in4, Lp.q_ni4, Lp.q_in5, Lp.q_ni5, Lp.q_eqi, Lp.q_nei, Lp.q_addi, Lp.q_adds, Lp.q_addl, Lp.q_addt, Lp.q_subi, Lp.q_muli, Lp.q_muls, Lp.q_mull, Lp.q_fdiv, Lp.q_mod, Lp.q_pow, Lp.q_len1, Lp.q_len2, Lp.q_len3, Lp.q_len4, Lp.q_len5, Lp.q_int1, Lp.q_int2, Lp.q_abs, Lp.q_min, Lp.q_max, Lp.q_list1, Lp.q_list2, Lp.q_list3, Lp.q_tuple1, Lp.q_tuple2, Lp.q_sorted, Lp.q_sum, Lp.q_it1, Lp.q_it2, Lp.q_it3, Lp.q_it4, Lp.q_sl1, Lp.q_sl2, Lp.q_sl3, Lp.q_k1, Lp.q_k2, List.getElem?_cons_zero, List.getElem?_cons_succ, Option.some.injEq, Prod.mk.injEq, D.bl.injEq, D.lst.injEq, true_and, and_true, exists_eq_left', exists_eq_left, List.set_cons_zero, List.set_cons_succ, List.length_map, false_and, reduceCtorEq, exists_false, exists_const, Int.toNat_natCast, Bool.not_true, Bool.not_false, decide_true, decide_false, Lp.len_ls, h3]
    refine ⟨_, s3, ?_⟩
    try simp only [Lp.wpSs, Lp.wpS, Lp.wpE, Lp.wpEs, Lp.wpSrc, Lp.wpH, Lp.bindT, Lp.bindTs, Lp.wipeE, Lp.q_ix1, Lp.q_ix2, Lp.q_ix3, Lp.q_ix4, Lp.q_lt, Lp.q_le, Lp.q_gt, Lp.q_ge, Lp.q_slt, Lp.q_sle, Lp.q_sgt, Lp.q_sge, Lp.q_in1, Lp.q_ni1, Lp.q_in2, Lp.q_ni2, Lp.q_in3, Lp.q_ni3, Lp.q_in4, Lp.q_ni4, Lp.q_in5, Lp.q_ni5, Lp.q_eqi, Lp.q_nei, Lp.q_addi, Lp.q_adds, Lp.q_addl, Lp.q_addt, Lp.q_subi, Lp.q_muli, Lp.q_muls, Lp.q_mull, Lp.q_fdiv, Lp.q_mod, Lp.q_pow, Lp.q_len1, Lp.q_len2, Lp.q_len3, Lp.q_len4, Lp.q_len5, Lp.q_int1, Lp.q_int2, Lp.q_abs, Lp.q_min, Lp.q_max, Lp.q_list1, Lp.q_list2, Lp.q_list3, Lp.q_tuple1, Lp.q_tuple2, Lp.q_sorted, Lp.q_sum, Lp.q_it1, Lp.q_it2, Lp.q_it3, Lp.q_it4, Lp.q_sl1, Lp.q_sl2, Lp.q_sl3, Lp.q_k1, Lp.q_k2, List.getElem?_cons_zero, List.getElem?_cons_succ, Option.some.injEq, Prod.mk.injEq, D.bl.injEq, D.lst.injEq, true_and, and_true, exists_eq_left', exists_eq_left, List.set_cons_zero, List.set_cons_succ, List.length_map, false_and, reduceCtorEq, exists_false, exists_const, Int.toNat_natCast, Bool.not_true, Bool.not_false, decide_true, decide_false, Lp.len_ls]
    refine ctF_run (Str.ofString "ny", (5 + x3).toNat) (by show [_, D.int (5 + x3)] = [_, D.int (((5 + x3).toNat : Nat) : Int)]; rw [Int.toNat_of_nonneg (by omega)]) ⟨ga_ny.ok.2.1, by show (5 + x3).toNat ≤ 6; omega⟩ ?_
    dsimp only
    generalize hn : (5 + x3).toNat = n
    have hn' : 5 + x3 = (n : Int) := by omega
    have n56 : n = 5 ∨ n = 6 := by omega
    generalize hev : allRows (Str.ofString "ny") n = ev
    have evl : ev.length = 2 ^ n := by rw [← hev, all_len, show (ls (Str.ofString "ny")).length = 2 by decide +kernel]
    have evl2 : ev.length = 32 ∨ ev.length = 64 := by
      rcases n56 with rfl | rfl
      · exact .inl evl
      · exact .inr evl
    have evr : ∀ r ∈ ev, rowOk (Str.ofString "ny") n r := fun r hr => all_row _ n r (by rw [hev]; exact hr)
    have evn : ev.Nodup := by rw [← hev]; exact all_nodup ga_ny.nd n
    let ix : Nat → Nat := fun k => ((((k : Int) * 7 + x4) % (ev.length : Int))).toNat
    have ixl : ∀ k, ix k < ev.length := fun k => by
      have h1 := Int.emod_lt_of_pos ((k : Int) * 7 + x4) (show (0 : Int) < ev.length by omega)
      have h2 := Int.emod_nonneg ((k : Int) * 7 + x4) (show (ev.length : Int) ≠ 0 by omega)
      show Int.toNat _ < _
      omega
    have ixi : ∀ i j, i < 32 → j < 32 → ix i = ix j → i = j := fun i j hi hj e => by
      have h2 := Int.emod_nonneg ((i : Int) * 7 + x4) (show (ev.length : Int) ≠ 0 by omega)
      have h3 := Int.emod_nonneg ((j : Int) * 7 + x4) (show (ev.length : Int) ≠ 0 by omega)
      have e' : ((i : Int) * 7 + x4) % (ev.length : Int) = ((j : Int) * 7 + x4) % (ev.length : Int) := by
        have e : Int.toNat _ = Int.toNat _ := e
        omega
      rcases evl2 with q | q <;> rw [q] at e' <;> omega
    try simp only [Lp.wpSs, Lp.wpS, Lp.wpE, Lp.wpEs, Lp.wpSrc, Lp.wpH, Lp.bindT, Lp.bindTs, Lp.wipeE, Lp.q_ix1, Lp.q_ix2, Lp.q_ix3, Lp.q_ix4, Lp.q_lt, Lp.q_le, Lp.q_gt, Lp.q_ge, Lp.q_slt, Lp.q_sle, Lp.q_sgt, Lp.q_sge, Lp.q_in1, Lp.q_ni1, Lp.q_in2, Lp.q_ni2, Lp.q_in3, Lp.q_ni3, Lp.q_in4, Lp.q_ni4, Lp.q_in5, Lp.q_ni5, Lp.q_eqi, Lp.q_nei, Lp.q_addi, Lp.q_adds, Lp.q_addl, Lp.q_addt, Lp.q_subi, Lp.q_muli, Lp.q_muls, Lp.q_mull, Lp.q_fdiv, Lp.q_mod, Lp.q_pow, Lp.q_len1, Lp.q_len2, Lp.q_len3, Lp.q_len4, Lp.q_len5, Lp.q_int1, Lp.q_int2, Lp.q_abs, Lp.q_min, Lp.q_max, Lp.q_list1, Lp.q_list2, Lp.q_list3, Lp.q_tuple1, Lp.q_tuple2, Lp.q_sorted, Lp.q_sum, Lp.q_it1, Lp.q_it2, Lp.q_it3, Lp.q_it4, Lp.q_sl1, Lp.q_sl2, Lp.q_sl3, Lp.q_k1, Lp.q_k2, List.getElem?_cons_zero, List.getElem?_cons_succ, Option.some.injEq, Prod.mk.injEq, D.bl.injEq, D.lst.injEq, true_and, and_true, exists_eq_left', exists_eq_left, List.set_cons_zero, List.set_cons_succ, List.length_map, false_and, reduceCtorEq, exists_false, exists_const, Int.toNat_natCast, Bool.not_true, Bool.not_false, decide_true, decide_false, Lp.len_ls]
    refine ⟨_, s3, ?_⟩
    try simp only [Lp.wpSs, Lp.wpS, Lp.wpE, Lp.wpEs, Lp.wpSrc, Lp.wpH, Lp.bindT, Lp.bindTs, Lp.wipeE, Lp.q_ix1, Lp.q_ix2, Lp.q_ix3, Lp.q_ix4, Lp.q_lt, Lp.q_le, Lp.q_gt, Lp.q_ge, Lp.q_slt, Lp.q_sle, Lp.q_sgt, Lp.q_sge, Lp.q_in1, Lp.q_ni1, Lp.q_in2, Lp.q_ni2, Lp.q_in3, Lp.q_ni3, Lp.q_in4, Lp.q_ni4, Lp.q_in5, Lp.q_ni5, Lp.q_eqi, Lp.q_nei, Lp.q_addi, Lp.q_adds, Lp.q_addl, Lp.q_addt, Lp.q_subi, Lp.q_muli, Lp.q_muls, Lp.q_mull, Lp.q_fdiv, Lp.q_mod, Lp.q_pow, Lp.q_len1, Lp.q_len2, Lp.q_len3, Lp.q_len4, Lp.q_len5, Lp.q_int1, Lp.q_int2, Lp.q_abs, Lp.q_min, Lp.q_max, Lp.q_list1, Lp.q_list2, Lp.q_list3, Lp.q_tuple1, Lp.q_tuple2, Lp.q_sorted, Lp.q_sum, Lp.q_it1, Lp.q_it2, Lp.q_it3, Lp.q_it4, Lp.q_sl1, Lp.q_sl2, Lp.q_sl3, Lp.q_k1, Lp.q_k2, List.getElem?_cons_zero, List.getElem?_cons_succ, Option.some.injEq, Prod.mk.injEq, D.bl.injEq, D.lst.injEq, true_and, and_true, exists_eq_left', exists_eq_left, List.set_cons_zero, List.set_cons_succ, List.length_map, false_and, reduceCtorEq, exists_false, exists_const, Int.toNat_natCast, Bool.not_true, Bool.not_false, decide_true, decide_false, Lp.len_ls]
    rw [hn']
    refine ⟨⟨by decide, by decide⟩, ?_⟩
    refine lc_all (xs := List.range 32) (fun k => D.str (ev.getD (ix k) ⟨#[]⟩)) (fun k : Nat => D.int k) (by rw [szl, List.length_range]; omega) (fun k hk acc K4 ha hK4 => ?_) ?_
    · try simp only [Lp.wpSs, Lp.wpS, Lp.wpE, Lp.wpEs, Lp.wpSrc, Lp.wpH, Lp.bindT, Lp.bindTs, Lp.wipeE, Lp.q_ix1, Lp.q_ix2, Lp.q_ix3, Lp.q_ix4, Lp.q_lt, Lp.q_le, Lp.q_gt, Lp.q_ge, Lp.q_slt, Lp.q_sle, Lp.q_sgt, Lp.q_sge, Lp.q_in1, Lp.q_ni1, Lp.q_in2, Lp.q_ni2, Lp.q_in3, Lp.q_ni3, Lp.q_in4, Lp.q_ni4, Lp.q_in5, Lp.q_ni5, Lp.q_eqi, Lp.q_nei, Lp.q_addi, Lp.q_adds, Lp.q_addl, Lp.q_addt, Lp.q_subi, Lp.q_muli, Lp.q_muls, Lp.q_mull, Lp.q_fdiv, Lp.q_mod, Lp.q_pow, Lp.q_len1, Lp.q_len2, Lp.q_len3, Lp.q_len4, Lp.q_len5, Lp.q_int1, Lp.q_int2, Lp.q_abs, Lp.q_min, Lp.q_max, Lp.q_list1, Lp.q_list2, Lp.q_list3, Lp.q_tuple1, Lp.q_tuple2, Lp.q_sorted, Lp.q_sum, Lp.q_it1, Lp.q_it2, Lp.q_it3, Lp.q_it4, Lp.q_sl1, Lp.q_sl2, Lp.q_sl3, Lp.q_k1, Lp.q_k2, List.getElem?_cons_zero, List.getElem?_cons_succ, Option.some.injEq, Prod.mk.injEq, D.bl.injEq, D.lst.injEq, true_and, and_true, exists_eq_left', exists_eq_left, List.set_cons_zero, List.set_cons_succ, List.length_map, false_and, reduceCtorEq, exists_false, exists_const, Int.toNat_natCast, Bool.not_true, Bool.not_false, decide_true, decide_false, Lp.len_ls]
      refine ⟨log2_lt (by rw [p64]; have := List.mem_range.mp hk; omega) (by decide), _, s4, ?_⟩
      try simp only [Lp.wpSs, Lp.wpS, Lp.wpE, Lp.wpEs, Lp.wpSrc, Lp.wpH, Lp.bindT, Lp.bindTs, Lp.wipeE, Lp.q_ix1, Lp.q_ix2, Lp.q_ix3, Lp.q_ix4, Lp.q_lt, Lp.q_le, Lp.q_gt, Lp.q_ge, Lp.q_slt, Lp.q_sle, Lp.q_sgt, Lp.q_sge, Lp.q_in1, Lp.q_ni1, Lp.q_in2, Lp.q_ni2, Lp.q_in3, Lp.q_ni3, Lp.q_in4, Lp.q_ni4, Lp.q_in5, Lp.q_ni5, Lp.q_eqi, Lp.q_nei, Lp.q_addi, Lp.q_adds, Lp.q_addl, Lp.q_addt, Lp.q_subi, Lp.q_muli, Lp.q_muls, Lp.q_mull, Lp.q_fdiv, Lp.q_mod, Lp.q_pow, Lp.q_len1, Lp.q_len2, Lp.q_len3, Lp.q_len4, Lp.q_len5, Lp.q_int1, Lp.q_int2, Lp.q_abs, Lp.q_min, Lp.q_max, Lp.q_list1, Lp.q_list2, Lp.q_list3, Lp.q_tuple1, Lp.q_tuple2, Lp.q_sorted, Lp.q_sum, Lp.q_it1, Lp.q_it2, Lp.q_it3, Lp.q_it4, Lp.q_sl1, Lp.q_sl2, Lp.q_sl3, Lp.q_k1, Lp.q_k2, List.getElem?_cons_zero, List.getElem?_cons_succ, Option.some.injEq, Prod.mk.injEq, D.bl.injEq, D.lst.injEq, true_and, and_true, exists_eq_left', exists_eq_left, List.set_cons_zero, List.set_cons_succ, List.length_map, false_and, reduceCtorEq, exists_false, exists_const, Int.toNat_natCast, Bool.not_true, Bool.not_false, decide_true, decide_false, Lp.len_ls]
      refine ⟨by omega, _, at_map D.str (at_int (x := ev.getD (ix k) ⟨#[]⟩) (Int.emod_nonneg _ (by omega)) ?_), ha, hK4⟩
      rw [List.getD_eq_getElem?_getD]
      have := List.getElem?_eq_getElem (ixl k)
      show ev[ix k]? = _
      rw [this]; rfl
    try simp only [Lp.wpSs, Lp.wpS, Lp.wpE, Lp.wpEs, Lp.wpSrc, Lp.wpH, Lp.bindT, Lp.bindTs, Lp.wipeE, Lp.q_ix1, Lp.q_ix2, Lp.q_ix3, Lp.q_ix4, Lp.q_lt, Lp.q_le, Lp.q_gt, Lp.q_ge, Lp.q_slt, Lp.q_sle, Lp.q_sgt, Lp.q_sge, Lp.q_in1, Lp.q_ni1, Lp.q_in2, Lp.q_ni2, Lp.q_in3, Lp.q_ni3, Lp.q_in4, Lp.q_ni4, Lp.q_in5, Lp.q_ni5, Lp.q_eqi, Lp.q_nei, Lp.q_addi, Lp.q_adds, Lp.q_addl, Lp.q_addt, Lp.q_subi, Lp.q_muli, Lp.q_muls, Lp.q_mull, Lp.q_fdiv, Lp.q_mod, Lp.q_pow, Lp.q_len1, Lp.q_len2, Lp.q_len3, Lp.q_len4, Lp.q_len5, Lp.q_int1, Lp.q_int2, Lp.q_abs, Lp.q_min, Lp.q_max, Lp.q_list1, Lp.q_list2, Lp.q_list3, Lp.q_tuple1, Lp.q_tuple2, Lp.q_sorted, Lp.q_sum, Lp.q_it1, Lp.q_it2, Lp.q_it3, Lp.q_it4, Lp.q_sl1, Lp.q_sl2, Lp.q_sl3, Lp.q_k1, Lp.q_k2, List.getElem?_cons_zero, List.getElem?_cons_succ, Option.some.injEq, Prod.mk.injEq, D.bl.injEq, D.lst.injEq, true_and, and_true, exists_eq_left', exists_eq_left, List.set_cons_zero, List.set_cons_succ, List.length_map, false_and, reduceCtorEq, exists_false, exists_const, Int.toNat_natCast, Bool.not_true, Bool.not_false, decide_true, decide_false, Lp.len_ls]
    refine ⟨by show 3 ≤ sizeLine; rw [szl]; omega, hK _ ⟨Str.ofString "ny", n, (List.range 32).map fun k => ev.getD (ix k) ⟨#[]⟩, some (false, .lst (ev.map .str)), ?_, ga_ny, by omega, by omega, ?_, ?_, ?_, fun r hr => ?_⟩⟩
    · unfold clsD
      rw [List.map_map]; rfl
    · refine List.Pairwise.map _ (fun i j e => e) (List.Pairwise.imp_of_mem (R := fun i j => i ≠ j) (fun {i j} hi hj e z => e (ixi i j (List.mem_range.mp hi) (List.mem_range.mp hj) ?_)) List.nodup_range)
      rw [List.getD_eq_getElem?_getD, List.getElem?_eq_getElem (ixl i), List.getD_eq_getElem?_getD, List.getElem?_eq_getElem (ixl j)] at z
      exact (List.getElem_inj evn).mp z
    · intro e
      have := congrArg List.length e
      rw [List.length_map, List.length_range] at this
      cases this
    · rw [List.length_map, List.length_range]; exact Nat.le_refl _
    · obtain ⟨k, _, rfl⟩ := List.mem_map.mp hr
      rw [List.getD_eq_getElem?_getD, List.getElem?_eq_getElem (ixl k)]
      exact evr _ (List.getElem_mem _)
  rintro e ⟨a, n, tk, v3, rfl, gc⟩
  obtain ⟨ga, n1', n6, nd, ne, few, row⟩ := gc
  -- answers, width, told
  refine seqK fun K hK => ?_
  try simp only [Lp.wpSs, Lp.wpS, Lp.wpE, Lp.wpEs, Lp.wpSrc, Lp.wpH, Lp.bindT, Lp.bindTs, Lp.wipeE, Lp.q_ix1, Lp.q_ix2, Lp.q_ix3, Lp.q_ix4, Lp.q_lt, Lp.q_le, Lp.q_gt, Lp.q_ge, Lp.q_slt, Lp.q_sle, Lp.q_sgt, Lp.q_sge, Lp.q_in1, Lp.q_ni1, Lp.q_in2, Lp.q_ni2, Lp.q_in3, Lp.q_ni3, Lp.q_in4, Lp.q_ni4, Lp.q_in5, Lp.q_ni5, Lp.q_eqi, Lp.q_nei, Lp.q_addi, Lp.q_adds, Lp.q_addl, Lp.q_addt, Lp.q_subi, Lp.q_muli, Lp.q_muls, Lp.q_mull, Lp.q_fdiv, Lp.q_mod, Lp.q_pow, Lp.q_len1, Lp.q_len2, Lp.q_len3, Lp.q_len4, Lp.q_len5, Lp.q_int1, Lp.q_int2, Lp.q_abs, Lp.q_min, Lp.q_max, Lp.q_list1, Lp.q_list2, Lp.q_list3, Lp.q_tuple1, Lp.q_tuple2, Lp.q_sorted, Lp.q_sum, Lp.q_it1, Lp.q_it2, Lp.q_it3, Lp.q_it4, Lp.q_sl1, Lp.q_sl2, Lp.q_sl3, Lp.q_k1, Lp.q_k2, List.getElem?_cons_zero, List.getElem?_cons_succ, Option.some.injEq, Prod.mk.injEq, D.bl.injEq, D.lst.injEq, true_and, and_true, exists_eq_left', exists_eq_left, List.set_cons_zero, List.set_cons_succ, List.length_map, false_and, reduceCtorEq, exists_false, exists_const, Int.toNat_natCast, Bool.not_true, Bool.not_false, decide_true, decide_false, Lp.len_ls]
  refine ⟨.str a, rfl, hK _ ?_⟩
  refine seqK fun K hK => ?_
  try simp only [Lp.wpSs, Lp.wpS, Lp.wpE, Lp.wpEs, Lp.wpSrc, Lp.wpH, Lp.bindT, Lp.bindTs, Lp.wipeE, Lp.q_ix1, Lp.q_ix2, Lp.q_ix3, Lp.q_ix4, Lp.q_lt, Lp.q_le, Lp.q_gt, Lp.q_ge, Lp.q_slt, Lp.q_sle, Lp.q_sgt, Lp.q_sge, Lp.q_in1, Lp.q_ni1, Lp.q_in2, Lp.q_ni2, Lp.q_in3, Lp.q_ni3, Lp.q_in4, Lp.q_ni4, Lp.q_in5, Lp.q_ni5, Lp.q_eqi, Lp.q_nei, Lp.q_addi, Lp.q_adds, Lp.q_addl, Lp.q_addt, Lp.q_subi, Lp.q_muli, Lp.q_muls, Lp.q_mull, Lp.q_fdiv, Lp.q_mod, Lp.q_pow, Lp.q_len1, Lp.q_len2, Lp.q_len3, Lp.q_len4, Lp.q_len5, Lp.q_int1, Lp.q_int2, Lp.q_abs, Lp.q_min, Lp.q_max, Lp.q_list1, Lp.q_list2, Lp.q_list3, Lp.q_tuple1, Lp.q_tuple2, Lp.q_sorted, Lp.q_sum, Lp.q_it1, Lp.q_it2, Lp.q_it3, Lp.q_it4, Lp.q_sl1, Lp.q_sl2, Lp.q_sl3, Lp.q_k1, Lp.q_k2, List.getElem?_cons_zero, List.getElem?_cons_succ, Option.some.injEq, Prod.mk.injEq, D.bl.injEq, D.lst.injEq, true_and, and_true, exists_eq_left', exists_eq_left, List.set_cons_zero, List.set_cons_succ, List.length_map, false_and, reduceCtorEq, exists_false, exists_const, Int.toNat_natCast, Bool.not_true, Bool.not_false, decide_true, decide_false, Lp.len_ls]
  refine ⟨.int n, rfl, hK _ ?_⟩
  refine seqK fun K hK => ?_
  try simp only [Lp.wpSs, Lp.wpS, Lp.wpE, Lp.wpEs, Lp.wpSrc, Lp.wpH, Lp.bindT, Lp.bindTs, Lp.wipeE, Lp.q_ix1, Lp.q_ix2, Lp.q_ix3, Lp.q_ix4, Lp.q_lt, Lp.q_le, Lp.q_gt, Lp.q_ge, Lp.q_slt, Lp.q_sle, Lp.q_sgt, Lp.q_sge, Lp.q_in1, Lp.q_ni1, Lp.q_in2, Lp.q_ni2, Lp.q_in3, Lp.q_ni3, Lp.q_in4, Lp.q_ni4, Lp.q_in5, Lp.q_ni5, Lp.q_eqi, Lp.q_nei, Lp.q_addi, Lp.q_adds, Lp.q_addl, Lp.q_addt, Lp.q_subi, Lp.q_muli, Lp.q_muls, Lp.q_mull, Lp.q_fdiv, Lp.q_mod, Lp.q_pow, Lp.q_len1, Lp.q_len2, Lp.q_len3, Lp.q_len4, Lp.q_len5, Lp.q_int1, Lp.q_int2, Lp.q_abs, Lp.q_min, Lp.q_max, Lp.q_list1, Lp.q_list2, Lp.q_list3, Lp.q_tuple1, Lp.q_tuple2, Lp.q_sorted, Lp.q_sum, Lp.q_it1, Lp.q_it2, Lp.q_it3, Lp.q_it4, Lp.q_sl1, Lp.q_sl2, Lp.q_sl3, Lp.q_k1, Lp.q_k2, List.getElem?_cons_zero, List.getElem?_cons_succ, Option.some.injEq, Prod.mk.injEq, D.bl.injEq, D.lst.injEq, true_and, and_true, exists_eq_left', exists_eq_left, List.set_cons_zero, List.set_cons_succ, List.length_map, false_and, reduceCtorEq, exists_false, exists_const, Int.toNat_natCast, Bool.not_true, Bool.not_false, decide_true, decide_false, Lp.len_ls]
  refine ⟨.lst (tk.map .str), rfl, ?_⟩
  try simp only [Lp.wpSs, Lp.wpS, Lp.wpE, Lp.wpEs, Lp.wpSrc, Lp.wpH, Lp.bindT, Lp.bindTs, Lp.wipeE, Lp.q_ix1, Lp.q_ix2, Lp.q_ix3, Lp.q_ix4, Lp.q_lt, Lp.q_le, Lp.q_gt, Lp.q_ge, Lp.q_slt, Lp.q_sle, Lp.q_sgt, Lp.q_sge, Lp.q_in1, Lp.q_ni1, Lp.q_in2, Lp.q_ni2, Lp.q_in3, Lp.q_ni3, Lp.q_in4, Lp.q_ni4, Lp.q_in5, Lp.q_ni5, Lp.q_eqi, Lp.q_nei, Lp.q_addi, Lp.q_adds, Lp.q_addl, Lp.q_addt, Lp.q_subi, Lp.q_muli, Lp.q_muls, Lp.q_mull, Lp.q_fdiv, Lp.q_mod, Lp.q_pow, Lp.q_len1, Lp.q_len2, Lp.q_len3, Lp.q_len4, Lp.q_len5, Lp.q_int1, Lp.q_int2, Lp.q_abs, Lp.q_min, Lp.q_max, Lp.q_list1, Lp.q_list2, Lp.q_list3, Lp.q_tuple1, Lp.q_tuple2, Lp.q_sorted, Lp.q_sum, Lp.q_it1, Lp.q_it2, Lp.q_it3, Lp.q_it4, Lp.q_sl1, Lp.q_sl2, Lp.q_sl3, Lp.q_k1, Lp.q_k2, List.getElem?_cons_zero, List.getElem?_cons_succ, Option.some.injEq, Prod.mk.injEq, D.bl.injEq, D.lst.injEq, true_and, and_true, exists_eq_left', exists_eq_left, List.set_cons_zero, List.set_cons_succ, List.length_map, false_and, reduceCtorEq, exists_false, exists_const, Int.toNat_natCast, Bool.not_true, Bool.not_false, decide_true, decide_false, Lp.len_ls]
  refine sort_strs (by omega) (hK _ ?_)
  have tas : Asc (srt tk) := Asc.srt nd
  have tne : srt tk ≠ [] := fun e => ne (by
    have := (srt_perm tk).length_eq
    rw [e] at this
    exact List.length_eq_zero_iff.mp this.symm)
  have tfew : (srt tk).length ≤ 32 := by rw [(srt_perm tk).length_eq]; exact few
  have trow : ∀ r ∈ srt tk, rowOk a n r := fun r hr => row r (mem_srt.mp hr)
  generalize srt tk = told at tas tne tfew trow ⊢
  have kok : KOk (a, n, told) := ⟨⟨ga.ok, by show (1 : Int) ≤ n; omega, by show (n : Int) ≤ 6; omega, tne, trow, Nat.le_trans (dd_len_le _) tfew⟩, tfew⟩
  -- klass
  refine seqK fun K hK => ?_
  try simp only [Lp.wpSs, Lp.wpS, Lp.wpE, Lp.wpEs, Lp.wpSrc, Lp.wpH, Lp.bindT, Lp.bindTs, Lp.wipeE, Lp.q_ix1, Lp.q_ix2, Lp.q_ix3, Lp.q_ix4, Lp.q_lt, Lp.q_le, Lp.q_gt, Lp.q_ge, Lp.q_slt, Lp.q_sle, Lp.q_sgt, Lp.q_sge, Lp.q_in1, Lp.q_ni1, Lp.q_in2, Lp.q_ni2, Lp.q_in3, Lp.q_ni3, Lp.q_in4, Lp.q_ni4, Lp.q_in5, Lp.q_ni5, Lp.q_eqi, Lp.q_nei, Lp.q_addi, Lp.q_adds, Lp.q_addl, Lp.q_addt, Lp.q_subi, Lp.q_muli, Lp.q_muls, Lp.q_mull, Lp.q_fdiv, Lp.q_mod, Lp.q_pow, Lp.q_len1, Lp.q_len2, Lp.q_len3, Lp.q_len4, Lp.q_len5, Lp.q_int1, Lp.q_int2, Lp.q_abs, Lp.q_min, Lp.q_max, Lp.q_list1, Lp.q_list2, Lp.q_list3, Lp.q_tuple1, Lp.q_tuple2, Lp.q_sorted, Lp.q_sum, Lp.q_it1, Lp.q_it2, Lp.q_it3, Lp.q_it4, Lp.q_sl1, Lp.q_sl2, Lp.q_sl3, Lp.q_k1, Lp.q_k2, List.getElem?_cons_zero, List.getElem?_cons_succ, Option.some.injEq, Prod.mk.injEq, D.bl.injEq, D.lst.injEq, true_and, and_true, exists_eq_left', exists_eq_left, List.set_cons_zero, List.set_cons_succ, List.length_map, false_and, reduceCtorEq, exists_false, exists_const, Int.toNat_natCast, Bool.not_true, Bool.not_false, decide_true, decide_false, Lp.len_ls, h5]
  refine ctF_run (a, (n : Int), told) rfl ⟨kok.cls, by show told.length ≤ 1000; omega⟩ (hK _ ?_)
  rw [show klass (a, (n : Int), told).1 (a, (n : Int), told).2.1 (uniq (a, (n : Int), told).2.2) = klass a n told by rw [show uniq (a, (n : Int), told).2.2 = told from uniq_self tas]]
  -- draws, bag
  refine seqK fun K hK => ?_
  try simp only [Lp.wpSs, Lp.wpS, Lp.wpE, Lp.wpEs, Lp.wpSrc, Lp.wpH, Lp.bindT, Lp.bindTs, Lp.wipeE, Lp.q_ix1, Lp.q_ix2, Lp.q_ix3, Lp.q_ix4, Lp.q_lt, Lp.q_le, Lp.q_gt, Lp.q_ge, Lp.q_slt, Lp.q_sle, Lp.q_sgt, Lp.q_sge, Lp.q_in1, Lp.q_ni1, Lp.q_in2, Lp.q_ni2, Lp.q_in3, Lp.q_ni3, Lp.q_in4, Lp.q_ni4, Lp.q_in5, Lp.q_ni5, Lp.q_eqi, Lp.q_nei, Lp.q_addi, Lp.q_adds, Lp.q_addl, Lp.q_addt, Lp.q_subi, Lp.q_muli, Lp.q_muls, Lp.q_mull, Lp.q_fdiv, Lp.q_mod, Lp.q_pow, Lp.q_len1, Lp.q_len2, Lp.q_len3, Lp.q_len4, Lp.q_len5, Lp.q_int1, Lp.q_int2, Lp.q_abs, Lp.q_min, Lp.q_max, Lp.q_list1, Lp.q_list2, Lp.q_list3, Lp.q_tuple1, Lp.q_tuple2, Lp.q_sorted, Lp.q_sum, Lp.q_it1, Lp.q_it2, Lp.q_it3, Lp.q_it4, Lp.q_sl1, Lp.q_sl2, Lp.q_sl3, Lp.q_k1, Lp.q_k2, List.getElem?_cons_zero, List.getElem?_cons_succ, Option.some.injEq, Prod.mk.injEq, D.bl.injEq, D.lst.injEq, true_and, and_true, exists_eq_left', exists_eq_left, List.set_cons_zero, List.set_cons_succ, List.length_map, false_and, reduceCtorEq, exists_false, exists_const, Int.toNat_natCast, Bool.not_true, Bool.not_false, decide_true, decide_false, Lp.len_ls, h1, h2]
  refine ct_run (ns, 3) rfl ⟨by show (0 : Int) ≤ 3; decide, by show (3 : Int) ≤ 1000; decide⟩ (fun d hd => ?_) (fun x hx => hx.elim)
  obtain ⟨c2, rfl⟩ := hd
  try simp only [Lp.wpSs, Lp.wpS, Lp.wpE, Lp.wpEs, Lp.wpSrc, Lp.wpH, Lp.bindT, Lp.bindTs, Lp.wipeE, Lp.q_ix1, Lp.q_ix2, Lp.q_ix3, Lp.q_ix4, Lp.q_lt, Lp.q_le, Lp.q_gt, Lp.q_ge, Lp.q_slt, Lp.q_sle, Lp.q_sgt, Lp.q_sge, Lp.q_in1, Lp.q_ni1, Lp.q_in2, Lp.q_ni2, Lp.q_in3, Lp.q_ni3, Lp.q_in4, Lp.q_ni4, Lp.q_in5, Lp.q_ni5, Lp.q_eqi, Lp.q_nei, Lp.q_addi, Lp.q_adds, Lp.q_addl, Lp.q_addt, Lp.q_subi, Lp.q_muli, Lp.q_muls, Lp.q_mull, Lp.q_fdiv, Lp.q_mod, Lp.q_pow, Lp.q_len1, Lp.q_len2, Lp.q_len3, Lp.q_len4, Lp.q_len5, Lp.q_int1, Lp.q_int2, Lp.q_abs, Lp.q_min, Lp.q_max, Lp.q_list1, Lp.q_list2, Lp.q_list3, Lp.q_tuple1, Lp.q_tuple2, Lp.q_sorted, Lp.q_sum, Lp.q_it1, Lp.q_it2, Lp.q_it3, Lp.q_it4, Lp.q_sl1, Lp.q_sl2, Lp.q_sl3, Lp.q_k1, Lp.q_k2, List.getElem?_cons_zero, List.getElem?_cons_succ, Option.some.injEq, Prod.mk.injEq, D.bl.injEq, D.lst.injEq, true_and, and_true, exists_eq_left', exists_eq_left, List.set_cons_zero, List.set_cons_succ, List.length_map, false_and, reduceCtorEq, exists_false, exists_const, Int.toNat_natCast, Bool.not_true, Bool.not_false, decide_true, decide_false, Lp.len_ls]
  refine ⟨by show 1 ≤ sizeLine; rw [szl]; omega, ⟨by decide, by decide, by show 1 * 6 ≤ sizeLine; rw [szl]; omega⟩, ct_run (c2, List.replicate 6 (n : Int)) rfl ⟨by show (List.replicate 6 _).length ≤ 1000; rw [List.length_replicate]; omega, fun s hs => ?_⟩ (fun d hd => ?_) (fun x hx => hx.elim)⟩
  · rw [(List.mem_replicate.mp hs).2]
    omega
  obtain ⟨dr, rfl, dgr⟩ := hd
  refine hK _ ?_
  refine seqK fun K hK => ?_
  try simp only [Lp.wpSs, Lp.wpS, Lp.wpE, Lp.wpEs, Lp.wpSrc, Lp.wpH, Lp.bindT, Lp.bindTs, Lp.wipeE, Lp.q_ix1, Lp.q_ix2, Lp.q_ix3, Lp.q_ix4, Lp.q_lt, Lp.q_le, Lp.q_gt, Lp.q_ge, Lp.q_slt, Lp.q_sle, Lp.q_sgt, Lp.q_sge, Lp.q_in1, Lp.q_ni1, Lp.q_in2, Lp.q_ni2, Lp.q_in3, Lp.q_ni3, Lp.q_in4, Lp.q_ni4, Lp.q_in5, Lp.q_ni5, Lp.q_eqi, Lp.q_nei, Lp.q_addi, Lp.q_adds, Lp.q_addl, Lp.q_addt, Lp.q_subi, Lp.q_muli, Lp.q_muls, Lp.q_mull, Lp.q_fdiv, Lp.q_mod, Lp.q_pow, Lp.q_len1, Lp.q_len2, Lp.q_len3, Lp.q_len4, Lp.q_len5, Lp.q_int1, Lp.q_int2, Lp.q_abs, Lp.q_min, Lp.q_max, Lp.q_list1, Lp.q_list2, Lp.q_list3, Lp.q_tuple1, Lp.q_tuple2, Lp.q_sorted, Lp.q_sum, Lp.q_it1, Lp.q_it2, Lp.q_it3, Lp.q_it4, Lp.q_sl1, Lp.q_sl2, Lp.q_sl3, Lp.q_k1, Lp.q_k2, List.getElem?_cons_zero, List.getElem?_cons_succ, Option.some.injEq, Prod.mk.injEq, D.bl.injEq, D.lst.injEq, true_and, and_true, exists_eq_left', exists_eq_left, List.set_cons_zero, List.set_cons_succ, List.length_map, false_and, reduceCtorEq, exists_false, exists_const, Int.toNat_natCast, Bool.not_true, Bool.not_false, decide_true, decide_false, Lp.len_ls]
  refine ⟨_, s1, ?_⟩
  try simp only [Lp.wpSs, Lp.wpS, Lp.wpE, Lp.wpEs, Lp.wpSrc, Lp.wpH, Lp.bindT, Lp.bindTs, Lp.wipeE, Lp.q_ix1, Lp.q_ix2, Lp.q_ix3, Lp.q_ix4, Lp.q_lt, Lp.q_le, Lp.q_gt, Lp.q_ge, Lp.q_slt, Lp.q_sle, Lp.q_sgt, Lp.q_sge, Lp.q_in1, Lp.q_ni1, Lp.q_in2, Lp.q_ni2, Lp.q_in3, Lp.q_ni3, Lp.q_in4, Lp.q_ni4, Lp.q_in5, Lp.q_ni5, Lp.q_eqi, Lp.q_nei, Lp.q_addi, Lp.q_adds, Lp.q_addl, Lp.q_addt, Lp.q_subi, Lp.q_muli, Lp.q_muls, Lp.q_mull, Lp.q_fdiv, Lp.q_mod, Lp.q_pow, Lp.q_len1, Lp.q_len2, Lp.q_len3, Lp.q_len4, Lp.q_len5, Lp.q_int1, Lp.q_int2, Lp.q_abs, Lp.q_min, Lp.q_max, Lp.q_list1, Lp.q_list2, Lp.q_list3, Lp.q_tuple1, Lp.q_tuple2, Lp.q_sorted, Lp.q_sum, Lp.q_it1, Lp.q_it2, Lp.q_it3, Lp.q_it4, Lp.q_sl1, Lp.q_sl2, Lp.q_sl3, Lp.q_k1, Lp.q_k2, List.getElem?_cons_zero, List.getElem?_cons_succ, Option.some.injEq, Prod.mk.injEq, D.bl.injEq, D.lst.injEq, true_and, and_true, exists_eq_left', exists_eq_left, List.set_cons_zero, List.set_cons_succ, List.length_map, false_and, reduceCtorEq, exists_false, exists_const, Int.toNat_natCast, Bool.not_true, Bool.not_false, decide_true, decide_false, Lp.len_ls]
  have hm : 1 + x1 = (((1 + x1).toNat : Nat) : Int) := by omega
  rw [hm, cutD_hi, ← List.map_take]
  refine sort_ints ?_
  try simp only [Lp.wpSs, Lp.wpS, Lp.wpE, Lp.wpEs, Lp.wpSrc, Lp.wpH, Lp.bindT, Lp.bindTs, Lp.wipeE, Lp.q_ix1, Lp.q_ix2, Lp.q_ix3, Lp.q_ix4, Lp.q_lt, Lp.q_le, Lp.q_gt, Lp.q_ge, Lp.q_slt, Lp.q_sle, Lp.q_sgt, Lp.q_sge, Lp.q_in1, Lp.q_ni1, Lp.q_in2, Lp.q_ni2, Lp.q_in3, Lp.q_ni3, Lp.q_in4, Lp.q_ni4, Lp.q_in5, Lp.q_ni5, Lp.q_eqi, Lp.q_nei, Lp.q_addi, Lp.q_adds, Lp.q_addl, Lp.q_addt, Lp.q_subi, Lp.q_muli, Lp.q_muls, Lp.q_mull, Lp.q_fdiv, Lp.q_mod, Lp.q_pow, Lp.q_len1, Lp.q_len2, Lp.q_len3, Lp.q_len4, Lp.q_len5, Lp.q_int1, Lp.q_int2, Lp.q_abs, Lp.q_min, Lp.q_max, Lp.q_list1, Lp.q_list2, Lp.q_list3, Lp.q_tuple1, Lp.q_tuple2, Lp.q_sorted, Lp.q_sum, Lp.q_it1, Lp.q_it2, Lp.q_it3, Lp.q_it4, Lp.q_sl1, Lp.q_sl2, Lp.q_sl3, Lp.q_k1, Lp.q_k2, List.getElem?_cons_zero, List.getElem?_cons_succ, Option.some.injEq, Prod.mk.injEq, D.bl.injEq, D.lst.injEq, true_and, and_true, exists_eq_left', exists_eq_left, List.set_cons_zero, List.set_cons_succ, List.length_map, false_and, reduceCtorEq, exists_false, exists_const, Int.toNat_natCast, Bool.not_true, Bool.not_false, decide_true, decide_false, Lp.len_ls]
  refine hK _ ?_
  have drl : dr.length = 6 := by rw [dgr.1]; exact List.length_replicate
  have bl : (srtI (dr.take (1 + x1).toNat)).length = (1 + x1).toNat := by rw [(srtI_perm _).length_eq, List.length_take]; omega
  have bok : bagOk n (srtI (dr.take (1 + x1).toNat)) := by
    refine ⟨by omega, by omega, fun q hq => ?_, fun i x y e1 e2 => ?_⟩
    · have hq := List.mem_of_mem_take ((srtI_perm _).mem_iff.mp hq)
      obtain ⟨i, hi⟩ := List.getElem?_of_mem hq
      have hl := (List.getElem?_eq_some_iff.mp hi).1
      exact dgr.2 i q n hi (List.getElem?_replicate_of_lt (by omega))
    · obtain ⟨l1, e1⟩ := List.getElem?_eq_some_iff.mp e1
      obtain ⟨l2, e2⟩ := List.getElem?_eq_some_iff.mp e2
      have := List.pairwise_iff_getElem.mp (srtI_pw (dr.take (1 + x1).toNat)) i (i + 1) l1 l2 (Nat.lt_succ_self i)
      rw [e1, e2] at this; exact this
  generalize srtI (dr.take (1 + x1).toNat) = bag at bok bl ⊢
  have b6 : bag.length ≤ 6 := bok.2.1
  have rpre : ∀ r ∈ told, (ls r).length ≤ 1000 ∧ bag.length ≤ 1000 ∧ ∀ q ∈ bag, 0 ≤ q ∧ q < ((ls r).length : Int) := fun r hr => row_pre (trow r hr) (by omega) bok.qs
  have rok : ∀ r ∈ told, rowOk a bag.length (rowOf r bag) := fun r hr => rowOf_ok (trow r hr) bok.qs
  have rfine : ∀ r ∈ told, ∀ c ∈ ls (rowOf r bag), c < 1114112 := fun r hr => row_letter ga.ok (rok r hr)
  -- due
  refine seqK fun K hK => ?_
  try simp only [Lp.wpSs, Lp.wpS, Lp.wpE, Lp.wpEs, Lp.wpSrc, Lp.wpH, Lp.bindT, Lp.bindTs, Lp.wipeE, Lp.q_ix1, Lp.q_ix2, Lp.q_ix3, Lp.q_ix4, Lp.q_lt, Lp.q_le, Lp.q_gt, Lp.q_ge, Lp.q_slt, Lp.q_sle, Lp.q_sgt, Lp.q_sge, Lp.q_in1, Lp.q_ni1, Lp.q_in2, Lp.q_ni2, Lp.q_in3, Lp.q_ni3, Lp.q_in4, Lp.q_ni4, Lp.q_in5, Lp.q_ni5, Lp.q_eqi, Lp.q_nei, Lp.q_addi, Lp.q_adds, Lp.q_addl, Lp.q_addt, Lp.q_subi, Lp.q_muli, Lp.q_muls, Lp.q_mull, Lp.q_fdiv, Lp.q_mod, Lp.q_pow, Lp.q_len1, Lp.q_len2, Lp.q_len3, Lp.q_len4, Lp.q_len5, Lp.q_int1, Lp.q_int2, Lp.q_abs, Lp.q_min, Lp.q_max, Lp.q_list1, Lp.q_list2, Lp.q_list3, Lp.q_tuple1, Lp.q_tuple2, Lp.q_sorted, Lp.q_sum, Lp.q_it1, Lp.q_it2, Lp.q_it3, Lp.q_it4, Lp.q_sl1, Lp.q_sl2, Lp.q_sl3, Lp.q_k1, Lp.q_k2, List.getElem?_cons_zero, List.getElem?_cons_succ, Option.some.injEq, Prod.mk.injEq, D.bl.injEq, D.lst.injEq, true_and, and_true, exists_eq_left', exists_eq_left, List.set_cons_zero, List.set_cons_succ, List.length_map, false_and, reduceCtorEq, exists_false, exists_const, Int.toNat_natCast, Bool.not_true, Bool.not_false, decide_true, decide_false, Lp.len_ls, h6]
  refine ctF_run (told, bag) rfl ⟨by show told.length < 64; omega, by show bag.length ≤ 1000; omega, fun r hr => ⟨(rpre r hr).1, (rpre r hr).2.2⟩⟩ (hK _ ?_)
  show wpSs T _ [_, _, _, _, _, _, _, _, _, _, some (false, .lst ((uniq (told.map fun r => rowOf r bag)).map .str)), _, _, _, _, _, _, _, _] _
  -- seen
  refine seqK fun K hK => ?_
  try simp only [Lp.wpSs, Lp.wpS, Lp.wpE, Lp.wpEs, Lp.wpSrc, Lp.wpH, Lp.bindT, Lp.bindTs, Lp.wipeE, Lp.q_ix1, Lp.q_ix2, Lp.q_ix3, Lp.q_ix4, Lp.q_lt, Lp.q_le, Lp.q_gt, Lp.q_ge, Lp.q_slt, Lp.q_sle, Lp.q_sgt, Lp.q_sge, Lp.q_in1, Lp.q_ni1, Lp.q_in2, Lp.q_ni2, Lp.q_in3, Lp.q_ni3, Lp.q_in4, Lp.q_ni4, Lp.q_in5, Lp.q_ni5, Lp.q_eqi, Lp.q_nei, Lp.q_addi, Lp.q_adds, Lp.q_addl, Lp.q_addt, Lp.q_subi, Lp.q_muli, Lp.q_muls, Lp.q_mull, Lp.q_fdiv, Lp.q_mod, Lp.q_pow, Lp.q_len1, Lp.q_len2, Lp.q_len3, Lp.q_len4, Lp.q_len5, Lp.q_int1, Lp.q_int2, Lp.q_abs, Lp.q_min, Lp.q_max, Lp.q_list1, Lp.q_list2, Lp.q_list3, Lp.q_tuple1, Lp.q_tuple2, Lp.q_sorted, Lp.q_sum, Lp.q_it1, Lp.q_it2, Lp.q_it3, Lp.q_it4, Lp.q_sl1, Lp.q_sl2, Lp.q_sl3, Lp.q_k1, Lp.q_k2, List.getElem?_cons_zero, List.getElem?_cons_succ, Option.some.injEq, Prod.mk.injEq, D.bl.injEq, D.lst.injEq, true_and, and_true, exists_eq_left', exists_eq_left, List.set_cons_zero, List.set_cons_succ, List.length_map, false_and, reduceCtorEq, exists_false, exists_const, Int.toNat_natCast, Bool.not_true, Bool.not_false, decide_true, decide_false, Lp.len_ls, h7]
  refine ct_run ((a, (n : Int), told), bag) rfl kok (fun d hd => ?_) (fun x hx => absurd bok hx.1)
  obtain ⟨_, rfl⟩ := hd
  refine hK _ ?_
  show wpSs T _ [_, _, _, _, _, _, _, _, _, _, _, some (false, .tup ((uniq (told.map fun r => rowOf r bag)).map .str)), _, _, _, _, _, _, _] _
  have dasc := uniq_asc (told.map fun r => rowOf r bag)
  have dmem : ∀ s, s ∈ uniq (told.map fun r => rowOf r bag) ↔ ∃ r ∈ told, rowOf r bag = s := fun s => by rw [mem_uniq, List.mem_map]
  have dlen : (uniq (told.map fun r => rowOf r bag)).length ≤ 32 := by
    rw [uniq_len]
    have := dd_len_le (told.map fun r => rowOf r bag)
    rw [List.length_map] at this
    omega
  generalize hdue : uniq (told.map fun r => rowOf r bag) = due at dasc dmem dlen ⊢
  have dfine : ∀ s ∈ due, ∀ c ∈ ls s, c < 1114112 := fun s hs => by
    obtain ⟨r, hr, rfl⟩ := (dmem s).mp hs
    exact rfine r hr
  have ddlen : ∀ s ∈ due, (ls s).length ≤ 6 := fun s hs => by
    obtain ⟨r, hr, rfl⟩ := (dmem s).mp hs
    have := (rok r hr).1
    omega
  obtain ⟨d0, hd0⟩ : ∃ d, due[0]? = some d := by
    cases htold : told with
    | nil => exact absurd htold tne
    | cons r tl =>
      have hm : rowOf r bag ∈ due := (dmem _).mpr ⟨r, by rw [htold]; exact List.mem_cons_self, rfl⟩
      exact ⟨_, List.getElem?_eq_getElem (List.length_pos_of_mem hm)⟩
  have d0m := List.mem_of_getElem? hd0
  have fd : fineD 1 (.tup (due.map .str)) = true := fine_tups dfine
  have ad0 : atI (due.map D.str) 0 = some (.str d0) := at_map D.str (at_int (i := 0) (Int.le_refl _) hd0)
  have afine : ∀ c ∈ ls a, c < 1114112 := ans_letter ga.ok
  -- the first test
  refine seqK fun K hK => ?_
  try simp only [Lp.wpSs, Lp.wpS, Lp.wpE, Lp.wpEs, Lp.wpSrc, Lp.wpH, Lp.bindT, Lp.bindTs, Lp.wipeE, Lp.q_ix1, Lp.q_ix2, Lp.q_ix3, Lp.q_ix4, Lp.q_lt, Lp.q_le, Lp.q_gt, Lp.q_ge, Lp.q_slt, Lp.q_sle, Lp.q_sgt, Lp.q_sge, Lp.q_in1, Lp.q_ni1, Lp.q_in2, Lp.q_ni2, Lp.q_in3, Lp.q_ni3, Lp.q_in4, Lp.q_ni4, Lp.q_in5, Lp.q_ni5, Lp.q_eqi, Lp.q_nei, Lp.q_addi, Lp.q_adds, Lp.q_addl, Lp.q_addt, Lp.q_subi, Lp.q_muli, Lp.q_muls, Lp.q_mull, Lp.q_fdiv, Lp.q_mod, Lp.q_pow, Lp.q_len1, Lp.q_len2, Lp.q_len3, Lp.q_len4, Lp.q_len5, Lp.q_int1, Lp.q_int2, Lp.q_abs, Lp.q_min, Lp.q_max, Lp.q_list1, Lp.q_list2, Lp.q_list3, Lp.q_tuple1, Lp.q_tuple2, Lp.q_sorted, Lp.q_sum, Lp.q_it1, Lp.q_it2, Lp.q_it3, Lp.q_it4, Lp.q_sl1, Lp.q_sl2, Lp.q_sl3, Lp.q_k1, Lp.q_k2, List.getElem?_cons_zero, List.getElem?_cons_succ, Option.some.injEq, Prod.mk.injEq, D.bl.injEq, D.lst.injEq, true_and, and_true, exists_eq_left', exists_eq_left, List.set_cons_zero, List.set_cons_succ, List.length_map, false_and, reduceCtorEq, exists_false, exists_const, Int.toNat_natCast, Bool.not_true, Bool.not_false, decide_true, decide_false, Lp.len_ls, h8, t.wR, t.wA]
  refine ⟨"tuple", true, rfl, kit_tt, ?_⟩
  try simp only [Lp.wpSs, Lp.wpS, Lp.wpE, Lp.wpEs, Lp.wpSrc, Lp.wpH, Lp.bindT, Lp.bindTs, Lp.wipeE, Lp.q_ix1, Lp.q_ix2, Lp.q_ix3, Lp.q_ix4, Lp.q_lt, Lp.q_le, Lp.q_gt, Lp.q_ge, Lp.q_slt, Lp.q_sle, Lp.q_sgt, Lp.q_sge, Lp.q_in1, Lp.q_ni1, Lp.q_in2, Lp.q_ni2, Lp.q_in3, Lp.q_ni3, Lp.q_in4, Lp.q_ni4, Lp.q_in5, Lp.q_ni5, Lp.q_eqi, Lp.q_nei, Lp.q_addi, Lp.q_adds, Lp.q_addl, Lp.q_addt, Lp.q_subi, Lp.q_muli, Lp.q_muls, Lp.q_mull, Lp.q_fdiv, Lp.q_mod, Lp.q_pow, Lp.q_len1, Lp.q_len2, Lp.q_len3, Lp.q_len4, Lp.q_len5, Lp.q_int1, Lp.q_int2, Lp.q_abs, Lp.q_min, Lp.q_max, Lp.q_list1, Lp.q_list2, Lp.q_list3, Lp.q_tuple1, Lp.q_tuple2, Lp.q_sorted, Lp.q_sum, Lp.q_it1, Lp.q_it2, Lp.q_it3, Lp.q_it4, Lp.q_sl1, Lp.q_sl2, Lp.q_sl3, Lp.q_k1, Lp.q_k2, List.getElem?_cons_zero, List.getElem?_cons_succ, Option.some.injEq, Prod.mk.injEq, D.bl.injEq, D.lst.injEq, true_and, and_true, exists_eq_left', exists_eq_left, List.set_cons_zero, List.set_cons_succ, List.length_map, false_and, reduceCtorEq, exists_false, exists_const, Int.toNat_natCast, Bool.not_true, Bool.not_false, decide_true, decide_false, Lp.len_ls]
  refine ne_fine (n := 1) fd fd (by decide) fun b hb => ?_
  obtain rfl : b = false := by
    cases b with
    | false => rfl
    | true => exact absurd rfl (hb.mp rfl)
  try simp only [Lp.wpSs, Lp.wpS, Lp.wpE, Lp.wpEs, Lp.wpSrc, Lp.wpH, Lp.bindT, Lp.bindTs, Lp.wipeE, Lp.q_ix1, Lp.q_ix2, Lp.q_ix3, Lp.q_ix4, Lp.q_lt, Lp.q_le, Lp.q_gt, Lp.q_ge, Lp.q_slt, Lp.q_sle, Lp.q_sgt, Lp.q_sge, Lp.q_in1, Lp.q_ni1, Lp.q_in2, Lp.q_ni2, Lp.q_in3, Lp.q_ni3, Lp.q_in4, Lp.q_ni4, Lp.q_in5, Lp.q_ni5, Lp.q_eqi, Lp.q_nei, Lp.q_addi, Lp.q_adds, Lp.q_addl, Lp.q_addt, Lp.q_subi, Lp.q_muli, Lp.q_muls, Lp.q_mull, Lp.q_fdiv, Lp.q_mod, Lp.q_pow, Lp.q_len1, Lp.q_len2, Lp.q_len3, Lp.q_len4, Lp.q_len5, Lp.q_int1, Lp.q_int2, Lp.q_abs, Lp.q_min, Lp.q_max, Lp.q_list1, Lp.q_list2, Lp.q_list3, Lp.q_tuple1, Lp.q_tuple2, Lp.q_sorted, Lp.q_sum, Lp.q_it1, Lp.q_it2, Lp.q_it3, Lp.q_it4, Lp.q_sl1, Lp.q_sl2, Lp.q_sl3, Lp.q_k1, Lp.q_k2, List.getElem?_cons_zero, List.getElem?_cons_succ, Option.some.injEq, Prod.mk.injEq, D.bl.injEq, D.lst.injEq, true_and, and_true, exists_eq_left', exists_eq_left, List.set_cons_zero, List.set_cons_succ, List.length_map, false_and, reduceCtorEq, exists_false, exists_const, Int.toNat_natCast, Bool.not_true, Bool.not_false, decide_true, decide_false, Lp.len_ls]
  refine ct_run ((a, (n : Int), told), bag) rfl kok (fun d hd => ?_) (fun x hx => absurd bok hx.1)
  obtain ⟨_, rfl⟩ := hd
  rw [show webD (((a, (n : Int), told), bag).1.1) (((a, (n : Int), told), bag).2.length) (uniq (((a, (n : Int), told), bag).1.2.2.map fun r => rowOf r ((a, (n : Int), told), bag).2)) = .ins "Web" (wf a bag.length due) by rw [← hdue]; rfl]
  try simp only [Lp.wpSs, Lp.wpS, Lp.wpE, Lp.wpEs, Lp.wpSrc, Lp.wpH, Lp.bindT, Lp.bindTs, Lp.wipeE, Lp.q_ix1, Lp.q_ix2, Lp.q_ix3, Lp.q_ix4, Lp.q_lt, Lp.q_le, Lp.q_gt, Lp.q_ge, Lp.q_slt, Lp.q_sle, Lp.q_sgt, Lp.q_sge, Lp.q_in1, Lp.q_ni1, Lp.q_in2, Lp.q_ni2, Lp.q_in3, Lp.q_ni3, Lp.q_in4, Lp.q_ni4, Lp.q_in5, Lp.q_ni5, Lp.q_eqi, Lp.q_nei, Lp.q_addi, Lp.q_adds, Lp.q_addl, Lp.q_addt, Lp.q_subi, Lp.q_muli, Lp.q_muls, Lp.q_mull, Lp.q_fdiv, Lp.q_mod, Lp.q_pow, Lp.q_len1, Lp.q_len2, Lp.q_len3, Lp.q_len4, Lp.q_len5, Lp.q_int1, Lp.q_int2, Lp.q_abs, Lp.q_min, Lp.q_max, Lp.q_list1, Lp.q_list2, Lp.q_list3, Lp.q_tuple1, Lp.q_tuple2, Lp.q_sorted, Lp.q_sum, Lp.q_it1, Lp.q_it2, Lp.q_it3, Lp.q_it4, Lp.q_sl1, Lp.q_sl2, Lp.q_sl3, Lp.q_k1, Lp.q_k2, List.getElem?_cons_zero, List.getElem?_cons_succ, Option.some.injEq, Prod.mk.injEq, D.bl.injEq, D.lst.injEq, true_and, and_true, exists_eq_left', exists_eq_left, List.set_cons_zero, List.set_cons_succ, List.length_map, false_and, reduceCtorEq, exists_false, exists_const, Int.toNat_natCast, Bool.not_true, Bool.not_false, decide_true, decide_false, Lp.len_ls, t.wR, wf_r]
  refine ne_fine (n := 1) fd fd (by decide) fun b hb => ?_
  obtain rfl : b = false := by
    cases b with
    | false => rfl
    | true => exact absurd rfl (hb.mp rfl)
  try simp only [Lp.wpSs, Lp.wpS, Lp.wpE, Lp.wpEs, Lp.wpSrc, Lp.wpH, Lp.bindT, Lp.bindTs, Lp.wipeE, Lp.q_ix1, Lp.q_ix2, Lp.q_ix3, Lp.q_ix4, Lp.q_lt, Lp.q_le, Lp.q_gt, Lp.q_ge, Lp.q_slt, Lp.q_sle, Lp.q_sgt, Lp.q_sge, Lp.q_in1, Lp.q_ni1, Lp.q_in2, Lp.q_ni2, Lp.q_in3, Lp.q_ni3, Lp.q_in4, Lp.q_ni4, Lp.q_in5, Lp.q_ni5, Lp.q_eqi, Lp.q_nei, Lp.q_addi, Lp.q_adds, Lp.q_addl, Lp.q_addt, Lp.q_subi, Lp.q_muli, Lp.q_muls, Lp.q_mull, Lp.q_fdiv, Lp.q_mod, Lp.q_pow, Lp.q_len1, Lp.q_len2, Lp.q_len3, Lp.q_len4, Lp.q_len5, Lp.q_int1, Lp.q_int2, Lp.q_abs, Lp.q_min, Lp.q_max, Lp.q_list1, Lp.q_list2, Lp.q_list3, Lp.q_tuple1, Lp.q_tuple2, Lp.q_sorted, Lp.q_sum, Lp.q_it1, Lp.q_it2, Lp.q_it3, Lp.q_it4, Lp.q_sl1, Lp.q_sl2, Lp.q_sl3, Lp.q_k1, Lp.q_k2, List.getElem?_cons_zero, List.getElem?_cons_succ, Option.some.injEq, Prod.mk.injEq, D.bl.injEq, D.lst.injEq, true_and, and_true, exists_eq_left', exists_eq_left, List.set_cons_zero, List.set_cons_succ, List.length_map, false_and, reduceCtorEq, exists_false, exists_const, Int.toNat_natCast, Bool.not_true, Bool.not_false, decide_true, decide_false, Lp.len_ls]
  refine ct_run ((a, (n : Int), told), bag) rfl kok (fun d hd => ?_) (fun x hx => absurd bok hx.1)
  obtain ⟨_, rfl⟩ := hd
  rw [show webD (((a, (n : Int), told), bag).1.1) (((a, (n : Int), told), bag).2.length) (uniq (((a, (n : Int), told), bag).1.2.2.map fun r => rowOf r ((a, (n : Int), told), bag).2)) = .ins "Web" (wf a bag.length due) by rw [← hdue]; rfl]
  try simp only [Lp.wpSs, Lp.wpS, Lp.wpE, Lp.wpEs, Lp.wpSrc, Lp.wpH, Lp.bindT, Lp.bindTs, Lp.wipeE, Lp.q_ix1, Lp.q_ix2, Lp.q_ix3, Lp.q_ix4, Lp.q_lt, Lp.q_le, Lp.q_gt, Lp.q_ge, Lp.q_slt, Lp.q_sle, Lp.q_sgt, Lp.q_sge, Lp.q_in1, Lp.q_ni1, Lp.q_in2, Lp.q_ni2, Lp.q_in3, Lp.q_ni3, Lp.q_in4, Lp.q_ni4, Lp.q_in5, Lp.q_ni5, Lp.q_eqi, Lp.q_nei, Lp.q_addi, Lp.q_adds, Lp.q_addl, Lp.q_addt, Lp.q_subi, Lp.q_muli, Lp.q_muls, Lp.q_mull, Lp.q_fdiv, Lp.q_mod, Lp.q_pow, Lp.q_len1, Lp.q_len2, Lp.q_len3, Lp.q_len4, Lp.q_len5, Lp.q_int1, Lp.q_int2, Lp.q_abs, Lp.q_min, Lp.q_max, Lp.q_list1, Lp.q_list2, Lp.q_list3, Lp.q_tuple1, Lp.q_tuple2, Lp.q_sorted, Lp.q_sum, Lp.q_it1, Lp.q_it2, Lp.q_it3, Lp.q_it4, Lp.q_sl1, Lp.q_sl2, Lp.q_sl3, Lp.q_k1, Lp.q_k2, List.getElem?_cons_zero, List.getElem?_cons_succ, Option.some.injEq, Prod.mk.injEq, D.bl.injEq, D.lst.injEq, true_and, and_true, exists_eq_left', exists_eq_left, List.set_cons_zero, List.set_cons_succ, List.length_map, false_and, reduceCtorEq, exists_false, exists_const, Int.toNat_natCast, Bool.not_true, Bool.not_false, decide_true, decide_false, Lp.len_ls, t.wA, wf_a]
  refine ne_strs afine afine ?_
  try simp only [Lp.wpSs, Lp.wpS, Lp.wpE, Lp.wpEs, Lp.wpSrc, Lp.wpH, Lp.bindT, Lp.bindTs, Lp.wipeE, Lp.q_ix1, Lp.q_ix2, Lp.q_ix3, Lp.q_ix4, Lp.q_lt, Lp.q_le, Lp.q_gt, Lp.q_ge, Lp.q_slt, Lp.q_sle, Lp.q_sgt, Lp.q_sge, Lp.q_in1, Lp.q_ni1, Lp.q_in2, Lp.q_ni2, Lp.q_in3, Lp.q_ni3, Lp.q_in4, Lp.q_ni4, Lp.q_in5, Lp.q_ni5, Lp.q_eqi, Lp.q_nei, Lp.q_addi, Lp.q_adds, Lp.q_addl, Lp.q_addt, Lp.q_subi, Lp.q_muli, Lp.q_muls, Lp.q_mull, Lp.q_fdiv, Lp.q_mod, Lp.q_pow, Lp.q_len1, Lp.q_len2, Lp.q_len3, Lp.q_len4, Lp.q_len5, Lp.q_int1, Lp.q_int2, Lp.q_abs, Lp.q_min, Lp.q_max, Lp.q_list1, Lp.q_list2, Lp.q_list3, Lp.q_tuple1, Lp.q_tuple2, Lp.q_sorted, Lp.q_sum, Lp.q_it1, Lp.q_it2, Lp.q_it3, Lp.q_it4, Lp.q_sl1, Lp.q_sl2, Lp.q_sl3, Lp.q_k1, Lp.q_k2, List.getElem?_cons_zero, List.getElem?_cons_succ, Option.some.injEq, Prod.mk.injEq, D.bl.injEq, D.lst.injEq, true_and, and_true, exists_eq_left', exists_eq_left, List.set_cons_zero, List.set_cons_succ, List.length_map, false_and, reduceCtorEq, exists_false, exists_const, Int.toNat_natCast, Bool.not_true, Bool.not_false, decide_true, decide_false, Lp.len_ls]
  refine hK _ ?_
  -- narrowed
  refine seqK fun K hK => ?_
  try simp only [Lp.wpSs, Lp.wpS, Lp.wpE, Lp.wpEs, Lp.wpSrc, Lp.wpH, Lp.bindT, Lp.bindTs, Lp.wipeE, Lp.q_ix1, Lp.q_ix2, Lp.q_ix3, Lp.q_ix4, Lp.q_lt, Lp.q_le, Lp.q_gt, Lp.q_ge, Lp.q_slt, Lp.q_sle, Lp.q_sgt, Lp.q_sge, Lp.q_in1, Lp.q_ni1, Lp.q_in2, Lp.q_ni2, Lp.q_in3, Lp.q_ni3, Lp.q_in4, Lp.q_ni4, Lp.q_in5, Lp.q_ni5, Lp.q_eqi, Lp.q_nei, Lp.q_addi, Lp.q_adds, Lp.q_addl, Lp.q_addt, Lp.q_subi, Lp.q_muli, Lp.q_muls, Lp.q_mull, Lp.q_fdiv, Lp.q_mod, Lp.q_pow, Lp.q_len1, Lp.q_len2, Lp.q_len3, Lp.q_len4, Lp.q_len5, Lp.q_int1, Lp.q_int2, Lp.q_abs, Lp.q_min, Lp.q_max, Lp.q_list1, Lp.q_list2, Lp.q_list3, Lp.q_tuple1, Lp.q_tuple2, Lp.q_sorted, Lp.q_sum, Lp.q_it1, Lp.q_it2, Lp.q_it3, Lp.q_it4, Lp.q_sl1, Lp.q_sl2, Lp.q_sl3, Lp.q_k1, Lp.q_k2, List.getElem?_cons_zero, List.getElem?_cons_succ, Option.some.injEq, Prod.mk.injEq, D.bl.injEq, D.lst.injEq, true_and, and_true, exists_eq_left', exists_eq_left, List.set_cons_zero, List.set_cons_succ, List.length_map, false_and, reduceCtorEq, exists_false, exists_const, Int.toNat_natCast, Bool.not_true, Bool.not_false, decide_true, decide_false, Lp.len_ls, h9, t.kR, t.kW]
  refine ctF_run ((a, (n : Int), told), bag) rfl ⟨kok, bok.qs⟩ ?_
  rw [show klass ((a, (n : Int), told), bag).1.1 (((a, (n : Int), told), bag).2.length) (uniq (((a, (n : Int), told), bag).1.2.2.map fun r => rowOf r ((a, (n : Int), told), bag).2)) = .ins "RuleClass" (kf a bag.length due) by rw [← hdue]; rfl]
  try simp only [Lp.wpSs, Lp.wpS, Lp.wpE, Lp.wpEs, Lp.wpSrc, Lp.wpH, Lp.bindT, Lp.bindTs, Lp.wipeE, Lp.q_ix1, Lp.q_ix2, Lp.q_ix3, Lp.q_ix4, Lp.q_lt, Lp.q_le, Lp.q_gt, Lp.q_ge, Lp.q_slt, Lp.q_sle, Lp.q_sgt, Lp.q_sge, Lp.q_in1, Lp.q_ni1, Lp.q_in2, Lp.q_ni2, Lp.q_in3, Lp.q_ni3, Lp.q_in4, Lp.q_ni4, Lp.q_in5, Lp.q_ni5, Lp.q_eqi, Lp.q_nei, Lp.q_addi, Lp.q_adds, Lp.q_addl, Lp.q_addt, Lp.q_subi, Lp.q_muli, Lp.q_muls, Lp.q_mull, Lp.q_fdiv, Lp.q_mod, Lp.q_pow, Lp.q_len1, Lp.q_len2, Lp.q_len3, Lp.q_len4, Lp.q_len5, Lp.q_int1, Lp.q_int2, Lp.q_abs, Lp.q_min, Lp.q_max, Lp.q_list1, Lp.q_list2, Lp.q_list3, Lp.q_tuple1, Lp.q_tuple2, Lp.q_sorted, Lp.q_sum, Lp.q_it1, Lp.q_it2, Lp.q_it3, Lp.q_it4, Lp.q_sl1, Lp.q_sl2, Lp.q_sl3, Lp.q_k1, Lp.q_k2, List.getElem?_cons_zero, List.getElem?_cons_succ, Option.some.injEq, Prod.mk.injEq, D.bl.injEq, D.lst.injEq, true_and, and_true, exists_eq_left', exists_eq_left, List.set_cons_zero, List.set_cons_succ, List.length_map, false_and, reduceCtorEq, exists_false, exists_const, Int.toNat_natCast, Bool.not_true, Bool.not_false, decide_true, decide_false, Lp.len_ls, t.kR, kf_r]
  refine ne_fine (n := 1) fd fd (by decide) fun b hb => ?_
  obtain rfl : b = false := by
    cases b with
    | false => rfl
    | true => exact absurd rfl (hb.mp rfl)
  try simp only [Lp.wpSs, Lp.wpS, Lp.wpE, Lp.wpEs, Lp.wpSrc, Lp.wpH, Lp.bindT, Lp.bindTs, Lp.wipeE, Lp.q_ix1, Lp.q_ix2, Lp.q_ix3, Lp.q_ix4, Lp.q_lt, Lp.q_le, Lp.q_gt, Lp.q_ge, Lp.q_slt, Lp.q_sle, Lp.q_sgt, Lp.q_sge, Lp.q_in1, Lp.q_ni1, Lp.q_in2, Lp.q_ni2, Lp.q_in3, Lp.q_ni3, Lp.q_in4, Lp.q_ni4, Lp.q_in5, Lp.q_ni5, Lp.q_eqi, Lp.q_nei, Lp.q_addi, Lp.q_adds, Lp.q_addl, Lp.q_addt, Lp.q_subi, Lp.q_muli, Lp.q_muls, Lp.q_mull, Lp.q_fdiv, Lp.q_mod, Lp.q_pow, Lp.q_len1, Lp.q_len2, Lp.q_len3, Lp.q_len4, Lp.q_len5, Lp.q_int1, Lp.q_int2, Lp.q_abs, Lp.q_min, Lp.q_max, Lp.q_list1, Lp.q_list2, Lp.q_list3, Lp.q_tuple1, Lp.q_tuple2, Lp.q_sorted, Lp.q_sum, Lp.q_it1, Lp.q_it2, Lp.q_it3, Lp.q_it4, Lp.q_sl1, Lp.q_sl2, Lp.q_sl3, Lp.q_k1, Lp.q_k2, List.getElem?_cons_zero, List.getElem?_cons_succ, Option.some.injEq, Prod.mk.injEq, D.bl.injEq, D.lst.injEq, true_and, and_true, exists_eq_left', exists_eq_left, List.set_cons_zero, List.set_cons_succ, List.length_map, false_and, reduceCtorEq, exists_false, exists_const, Int.toNat_natCast, Bool.not_true, Bool.not_false, decide_true, decide_false, Lp.len_ls]
  refine ctF_run ((a, (n : Int), told), bag) rfl ⟨kok, bok.qs⟩ ?_
  rw [show klass ((a, (n : Int), told), bag).1.1 (((a, (n : Int), told), bag).2.length) (uniq (((a, (n : Int), told), bag).1.2.2.map fun r => rowOf r ((a, (n : Int), told), bag).2)) = .ins "RuleClass" (kf a bag.length due) by rw [← hdue]; rfl]
  try simp only [Lp.wpSs, Lp.wpS, Lp.wpE, Lp.wpEs, Lp.wpSrc, Lp.wpH, Lp.bindT, Lp.bindTs, Lp.wipeE, Lp.q_ix1, Lp.q_ix2, Lp.q_ix3, Lp.q_ix4, Lp.q_lt, Lp.q_le, Lp.q_gt, Lp.q_ge, Lp.q_slt, Lp.q_sle, Lp.q_sgt, Lp.q_sge, Lp.q_in1, Lp.q_ni1, Lp.q_in2, Lp.q_ni2, Lp.q_in3, Lp.q_ni3, Lp.q_in4, Lp.q_ni4, Lp.q_in5, Lp.q_ni5, Lp.q_eqi, Lp.q_nei, Lp.q_addi, Lp.q_adds, Lp.q_addl, Lp.q_addt, Lp.q_subi, Lp.q_muli, Lp.q_muls, Lp.q_mull, Lp.q_fdiv, Lp.q_mod, Lp.q_pow, Lp.q_len1, Lp.q_len2, Lp.q_len3, Lp.q_len4, Lp.q_len5, Lp.q_int1, Lp.q_int2, Lp.q_abs, Lp.q_min, Lp.q_max, Lp.q_list1, Lp.q_list2, Lp.q_list3, Lp.q_tuple1, Lp.q_tuple2, Lp.q_sorted, Lp.q_sum, Lp.q_it1, Lp.q_it2, Lp.q_it3, Lp.q_it4, Lp.q_sl1, Lp.q_sl2, Lp.q_sl3, Lp.q_k1, Lp.q_k2, List.getElem?_cons_zero, List.getElem?_cons_succ, Option.some.injEq, Prod.mk.injEq, D.bl.injEq, D.lst.injEq, true_and, and_true, exists_eq_left', exists_eq_left, List.set_cons_zero, List.set_cons_succ, List.length_map, false_and, reduceCtorEq, exists_false, exists_const, Int.toNat_natCast, Bool.not_true, Bool.not_false, decide_true, decide_false, Lp.len_ls, t.kW, kf_w]
  try simp only [Lp.wpSs, Lp.wpS, Lp.wpE, Lp.wpEs, Lp.wpSrc, Lp.wpH, Lp.bindT, Lp.bindTs, Lp.wipeE, Lp.q_ix1, Lp.q_ix2, Lp.q_ix3, Lp.q_ix4, Lp.q_lt, Lp.q_le, Lp.q_gt, Lp.q_ge, Lp.q_slt, Lp.q_sle, Lp.q_sgt, Lp.q_sge, Lp.q_in1, Lp.q_ni1, Lp.q_in2, Lp.q_ni2, Lp.q_in3, Lp.q_ni3, Lp.q_in4, Lp.q_ni4, Lp.q_in5, Lp.q_ni5, Lp.q_eqi, Lp.q_nei, Lp.q_addi, Lp.q_adds, Lp.q_addl, Lp.q_addt, Lp.q_subi, Lp.q_muli, Lp.q_muls, Lp.q_mull, Lp.q_fdiv, Lp.q_mod, Lp.q_pow, Lp.q_len1, Lp.q_len2, Lp.q_len3, Lp.q_len4, Lp.q_len5, Lp.q_int1, Lp.q_int2, Lp.q_abs, Lp.q_min, Lp.q_max, Lp.q_list1, Lp.q_list2, Lp.q_list3, Lp.q_tuple1, Lp.q_tuple2, Lp.q_sorted, Lp.q_sum, Lp.q_it1, Lp.q_it2, Lp.q_it3, Lp.q_it4, Lp.q_sl1, Lp.q_sl2, Lp.q_sl3, Lp.q_k1, Lp.q_k2, List.getElem?_cons_zero, List.getElem?_cons_succ, Option.some.injEq, Prod.mk.injEq, D.bl.injEq, D.lst.injEq, true_and, and_true, exists_eq_left', exists_eq_left, List.set_cons_zero, List.set_cons_succ, List.length_map, false_and, reduceCtorEq, exists_false, exists_const, Int.toNat_natCast, Bool.not_true, Bool.not_false, decide_true, decide_false, Lp.len_ls]
  refine hK _ ?_
  -- for rule in told
  let C : List (Option (Bool × D)) → Lp.Env := fun vs => [some (false, .scr ns), some (false, clsD a n tk), some (false, .lst (sh.map .int)), v3, some (false, .str a), some (false, .int (n : Nat)), some (false, .lst (told.map .str)), some (false, klass a n told), some (false, .lst (dr.map .int)), some (false, .tup (bag.map .int)), some (false, .lst (due.map .str)), some (false, .tup (due.map .str))] ++ vs
  refine seqI (fun e => ∃ v12, e = C [v12, none, none, none, none, none, none]) (fun K hK => ?_) ?_
  · try simp only [Lp.wpSs, Lp.wpS, Lp.wpE, Lp.wpEs, Lp.wpSrc, Lp.wpH, Lp.bindT, Lp.bindTs, Lp.wipeE, Lp.q_ix1, Lp.q_ix2, Lp.q_ix3, Lp.q_ix4, Lp.q_lt, Lp.q_le, Lp.q_gt, Lp.q_ge, Lp.q_slt, Lp.q_sle, Lp.q_sgt, Lp.q_sge, Lp.q_in1, Lp.q_ni1, Lp.q_in2, Lp.q_ni2, Lp.q_in3, Lp.q_ni3, Lp.q_in4, Lp.q_ni4, Lp.q_in5, Lp.q_ni5, Lp.q_eqi, Lp.q_nei, Lp.q_addi, Lp.q_adds, Lp.q_addl, Lp.q_addt, Lp.q_subi, Lp.q_muli, Lp.q_muls, Lp.q_mull, Lp.q_fdiv, Lp.q_mod, Lp.q_pow, Lp.q_len1, Lp.q_len2, Lp.q_len3, Lp.q_len4, Lp.q_len5, Lp.q_int1, Lp.q_int2, Lp.q_abs, Lp.q_min, Lp.q_max, Lp.q_list1, Lp.q_list2, Lp.q_list3, Lp.q_tuple1, Lp.q_tuple2, Lp.q_sorted, Lp.q_sum, Lp.q_it1, Lp.q_it2, Lp.q_it3, Lp.q_it4, Lp.q_sl1, Lp.q_sl2, Lp.q_sl3, Lp.q_k1, Lp.q_k2, List.getElem?_cons_zero, List.getElem?_cons_succ, Option.some.injEq, Prod.mk.injEq, D.bl.injEq, D.lst.injEq, true_and, and_true, exists_eq_left', exists_eq_left, List.set_cons_zero, List.set_cons_succ, List.length_map, false_and, reduceCtorEq, exists_false, exists_const, Int.toNat_natCast, Bool.not_true, Bool.not_false, decide_true, decide_false, Lp.len_ls]
    refine wpFor_map (fun _ env => ∃ v12, env = C [v12, none, none, none, none, none, none]) ⟨_, rfl⟩ (fun pre r post env K2 hx hI hK2 => ?_) fun env hI => hK _ hI
    obtain ⟨v12, rfl⟩ := hI
    have hr : r ∈ told := by rw [hx]; simp
    try simp only [Lp.wpSs, Lp.wpS, Lp.wpE, Lp.wpEs, Lp.wpSrc, Lp.wpH, Lp.bindT, Lp.bindTs, Lp.wipeE, Lp.q_ix1, Lp.q_ix2, Lp.q_ix3, Lp.q_ix4, Lp.q_lt, Lp.q_le, Lp.q_gt, Lp.q_ge, Lp.q_slt, Lp.q_sle, Lp.q_sgt, Lp.q_sge, Lp.q_in1, Lp.q_ni1, Lp.q_in2, Lp.q_ni2, Lp.q_in3, Lp.q_ni3, Lp.q_in4, Lp.q_ni4, Lp.q_in5, Lp.q_ni5, Lp.q_eqi, Lp.q_nei, Lp.q_addi, Lp.q_adds, Lp.q_addl, Lp.q_addt, Lp.q_subi, Lp.q_muli, Lp.q_muls, Lp.q_mull, Lp.q_fdiv, Lp.q_mod, Lp.q_pow, Lp.q_len1, Lp.q_len2, Lp.q_len3, Lp.q_len4, Lp.q_len5, Lp.q_int1, Lp.q_int2, Lp.q_abs, Lp.q_min, Lp.q_max, Lp.q_list1, Lp.q_list2, Lp.q_list3, Lp.q_tuple1, Lp.q_tuple2, Lp.q_sorted, Lp.q_sum, Lp.q_it1, Lp.q_it2, Lp.q_it3, Lp.q_it4, Lp.q_sl1, Lp.q_sl2, Lp.q_sl3, Lp.q_k1, Lp.q_k2, List.getElem?_cons_zero, List.getElem?_cons_succ, Option.some.injEq, Prod.mk.injEq, D.bl.injEq, D.lst.injEq, true_and, and_true, exists_eq_left', exists_eq_left, List.set_cons_zero, List.set_cons_succ, List.length_map, false_and, reduceCtorEq, exists_false, exists_const, Int.toNat_natCast, Bool.not_true, Bool.not_false, decide_true, decide_false, Lp.len_ls, C, h10, List.cons_append, List.nil_append]
    refine ctF_run (r, bag) rfl (rpre r hr) ?_
    refine lc_all (fun q => D.str ⟨#[(ls r).getD q.toNat 0]⟩) D.int (by rw [szl]; omega) (fun q hq acc K ha hK => ?_) ⟨bag.map fun q => ⟨#[(ls r).getD q.toNat 0]⟩, .inl (by rw [List.map_map]; rfl), ?_, ?_⟩
    · try simp only [Lp.wpSs, Lp.wpS, Lp.wpE, Lp.wpEs, Lp.wpSrc, Lp.wpH, Lp.bindT, Lp.bindTs, Lp.wipeE, Lp.q_ix1, Lp.q_ix2, Lp.q_ix3, Lp.q_ix4, Lp.q_lt, Lp.q_le, Lp.q_gt, Lp.q_ge, Lp.q_slt, Lp.q_sle, Lp.q_sgt, Lp.q_sge, Lp.q_in1, Lp.q_ni1, Lp.q_in2, Lp.q_ni2, Lp.q_in3, Lp.q_ni3, Lp.q_in4, Lp.q_ni4, Lp.q_in5, Lp.q_ni5, Lp.q_eqi, Lp.q_nei, Lp.q_addi, Lp.q_adds, Lp.q_addl, Lp.q_addt, Lp.q_subi, Lp.q_muli, Lp.q_muls, Lp.q_mull, Lp.q_fdiv, Lp.q_mod, Lp.q_pow, Lp.q_len1, Lp.q_len2, Lp.q_len3, Lp.q_len4, Lp.q_len5, Lp.q_int1, Lp.q_int2, Lp.q_abs, Lp.q_min, Lp.q_max, Lp.q_list1, Lp.q_list2, Lp.q_list3, Lp.q_tuple1, Lp.q_tuple2, Lp.q_sorted, Lp.q_sum, Lp.q_it1, Lp.q_it2, Lp.q_it3, Lp.q_it4, Lp.q_sl1, Lp.q_sl2, Lp.q_sl3, Lp.q_k1, Lp.q_k2, List.getElem?_cons_zero, List.getElem?_cons_succ, Option.some.injEq, Prod.mk.injEq, D.bl.injEq, D.lst.injEq, true_and, and_true, exists_eq_left', exists_eq_left, List.set_cons_zero, List.set_cons_succ, List.length_map, false_and, reduceCtorEq, exists_false, exists_const, Int.toNat_natCast, Bool.not_true, Bool.not_false, decide_true, decide_false, Lp.len_ls]
      exact ⟨_, by rw [szl]; have := (rpre r hr).1; omega, at_row ((rpre r hr).2.2 q hq), ha, hK⟩
    · rw [row_len, show (ls (Str.ofString "")).length = 0 by decide +kernel]; omega
    · rw [join_row]
      refine ne_strs (rfine r hr) (rfine r hr) ?_
      try simp only [Lp.wpSs, Lp.wpS, Lp.wpE, Lp.wpEs, Lp.wpSrc, Lp.wpH, Lp.bindT, Lp.bindTs, Lp.wipeE, Lp.q_ix1, Lp.q_ix2, Lp.q_ix3, Lp.q_ix4, Lp.q_lt, Lp.q_le, Lp.q_gt, Lp.q_ge, Lp.q_slt, Lp.q_sle, Lp.q_sgt, Lp.q_sge, Lp.q_in1, Lp.q_ni1, Lp.q_in2, Lp.q_ni2, Lp.q_in3, Lp.q_ni3, Lp.q_in4, Lp.q_ni4, Lp.q_in5, Lp.q_ni5, Lp.q_eqi, Lp.q_nei, Lp.q_addi, Lp.q_adds, Lp.q_addl, Lp.q_addt, Lp.q_subi, Lp.q_muli, Lp.q_muls, Lp.q_mull, Lp.q_fdiv, Lp.q_mod, Lp.q_pow, Lp.q_len1, Lp.q_len2, Lp.q_len3, Lp.q_len4, Lp.q_len5, Lp.q_int1, Lp.q_int2, Lp.q_abs, Lp.q_min, Lp.q_max, Lp.q_list1, Lp.q_list2, Lp.q_list3, Lp.q_tuple1, Lp.q_tuple2, Lp.q_sorted, Lp.q_sum, Lp.q_it1, Lp.q_it2, Lp.q_it3, Lp.q_it4, Lp.q_sl1, Lp.q_sl2, Lp.q_sl3, Lp.q_k1, Lp.q_k2, List.getElem?_cons_zero, List.getElem?_cons_succ, Option.some.injEq, Prod.mk.injEq, D.bl.injEq, D.lst.injEq, true_and, and_true, exists_eq_left', exists_eq_left, List.set_cons_zero, List.set_cons_succ, List.length_map, false_and, reduceCtorEq, exists_false, exists_const, Int.toNat_natCast, Bool.not_true, Bool.not_false, decide_true, decide_false, Lp.len_ls]
      exact hK2 _ ⟨_, rfl⟩
  rintro e ⟨v12, rfl⟩
  -- for row in due + [..]
  obtain ⟨y, ey⟩ : ∃ y, (ls a)[0]? = some y := ⟨_, List.getElem?_eq_getElem (by have := ga.ok.1; omega)⟩
  have hy : y < 1114112 := afine y (List.mem_of_getElem? ey)
  have alen : (ls a).length ≤ sizeLine := by rw [szl]; have := ga.ok.2.1; omega
  refine seqI (fun e => ∃ v12 v13 v14, e = C [v12, v13, v14, none, none, none, none]) (fun K hK => ?_) ?_
  · try simp only [Lp.wpSs, Lp.wpS, Lp.wpE, Lp.wpEs, Lp.wpSrc, Lp.wpH, Lp.bindT, Lp.bindTs, Lp.wipeE, Lp.q_ix1, Lp.q_ix2, Lp.q_ix3, Lp.q_ix4, Lp.q_lt, Lp.q_le, Lp.q_gt, Lp.q_ge, Lp.q_slt, Lp.q_sle, Lp.q_sgt, Lp.q_sge, Lp.q_in1, Lp.q_ni1, Lp.q_in2, Lp.q_ni2, Lp.q_in3, Lp.q_ni3, Lp.q_in4, Lp.q_ni4, Lp.q_in5, Lp.q_ni5, Lp.q_eqi, Lp.q_nei, Lp.q_addi, Lp.q_adds, Lp.q_addl, Lp.q_addt, Lp.q_subi, Lp.q_muli, Lp.q_muls, Lp.q_mull, Lp.q_fdiv, Lp.q_mod, Lp.q_pow, Lp.q_len1, Lp.q_len2, Lp.q_len3, Lp.q_len4, Lp.q_len5, Lp.q_int1, Lp.q_int2, Lp.q_abs, Lp.q_min, Lp.q_max, Lp.q_list1, Lp.q_list2, Lp.q_list3, Lp.q_tuple1, Lp.q_tuple2, Lp.q_sorted, Lp.q_sum, Lp.q_it1, Lp.q_it2, Lp.q_it3, Lp.q_it4, Lp.q_sl1, Lp.q_sl2, Lp.q_sl3, Lp.q_k1, Lp.q_k2, List.getElem?_cons_zero, List.getElem?_cons_succ, Option.some.injEq, Prod.mk.injEq, D.bl.injEq, D.lst.injEq, true_and, and_true, exists_eq_left', exists_eq_left, List.set_cons_zero, List.set_cons_succ, List.length_map, false_and, reduceCtorEq, exists_false, exists_const, Int.toNat_natCast, Bool.not_true, Bool.not_false, decide_true, decide_false, Lp.len_ls, C, List.cons_append, List.nil_append]
    refine ⟨_, alen, at_int (i := 0) (Int.le_refl _) ey, ?_⟩
    try simp only [Lp.wpSs, Lp.wpS, Lp.wpE, Lp.wpEs, Lp.wpSrc, Lp.wpH, Lp.bindT, Lp.bindTs, Lp.wipeE, Lp.q_ix1, Lp.q_ix2, Lp.q_ix3, Lp.q_ix4, Lp.q_lt, Lp.q_le, Lp.q_gt, Lp.q_ge, Lp.q_slt, Lp.q_sle, Lp.q_sgt, Lp.q_sge, Lp.q_in1, Lp.q_ni1, Lp.q_in2, Lp.q_ni2, Lp.q_in3, Lp.q_ni3, Lp.q_in4, Lp.q_ni4, Lp.q_in5, Lp.q_ni5, Lp.q_eqi, Lp.q_nei, Lp.q_addi, Lp.q_adds, Lp.q_addl, Lp.q_addt, Lp.q_subi, Lp.q_muli, Lp.q_muls, Lp.q_mull, Lp.q_fdiv, Lp.q_mod, Lp.q_pow, Lp.q_len1, Lp.q_len2, Lp.q_len3, Lp.q_len4, Lp.q_len5, Lp.q_int1, Lp.q_int2, Lp.q_abs, Lp.q_min, Lp.q_max, Lp.q_list1, Lp.q_list2, Lp.q_list3, Lp.q_tuple1, Lp.q_tuple2, Lp.q_sorted, Lp.q_sum, Lp.q_it1, Lp.q_it2, Lp.q_it3, Lp.q_it4, Lp.q_sl1, Lp.q_sl2, Lp.q_sl3, Lp.q_k1, Lp.q_k2, List.getElem?_cons_zero, List.getElem?_cons_succ, Option.some.injEq, Prod.mk.injEq, D.bl.injEq, D.lst.injEq, true_and, and_true, exists_eq_left', exists_eq_left, List.set_cons_zero, List.set_cons_succ, List.length_map, false_and, reduceCtorEq, exists_false, exists_const, Int.toNat_natCast, Bool.not_true, Bool.not_false, decide_true, decide_false, Lp.len_ls]
    refine ⟨⟨by decide, by decide, by show 1 * 7 ≤ 1000; decide⟩, _, ad0, ?_⟩
    try simp only [Lp.wpSs, Lp.wpS, Lp.wpE, Lp.wpEs, Lp.wpSrc, Lp.wpH, Lp.bindT, Lp.bindTs, Lp.wipeE, Lp.q_ix1, Lp.q_ix2, Lp.q_ix3, Lp.q_ix4, Lp.q_lt, Lp.q_le, Lp.q_gt, Lp.q_ge, Lp.q_slt, Lp.q_sle, Lp.q_sgt, Lp.q_sge, Lp.q_in1, Lp.q_ni1, Lp.q_in2, Lp.q_ni2, Lp.q_in3, Lp.q_ni3, Lp.q_in4, Lp.q_ni4, Lp.q_in5, Lp.q_ni5, Lp.q_eqi, Lp.q_nei, Lp.q_addi, Lp.q_adds, Lp.q_addl, Lp.q_addt, Lp.q_subi, Lp.q_muli, Lp.q_muls, Lp.q_mull, Lp.q_fdiv, Lp.q_mod, Lp.q_pow, Lp.q_len1, Lp.q_len2, Lp.q_len3, Lp.q_len4, Lp.q_len5, Lp.q_int1, Lp.q_int2, Lp.q_abs, Lp.q_min, Lp.q_max, Lp.q_list1, Lp.q_list2, Lp.q_list3, Lp.q_tuple1, Lp.q_tuple2, Lp.q_sorted, Lp.q_sum, Lp.q_it1, Lp.q_it2, Lp.q_it3, Lp.q_it4, Lp.q_sl1, Lp.q_sl2, Lp.q_sl3, Lp.q_k1, Lp.q_k2, List.getElem?_cons_zero, List.getElem?_cons_succ, Option.some.injEq, Prod.mk.injEq, D.bl.injEq, D.lst.injEq, true_and, and_true, exists_eq_left', exists_eq_left, List.set_cons_zero, List.set_cons_succ, List.length_map, false_and, reduceCtorEq, exists_false, exists_const, Int.toNat_natCast, Bool.not_true, Bool.not_false, decide_true, decide_false, Lp.len_ls]
    refine ⟨by rw [szl]; have := ddlen d0 d0m; omega, ?_, _, ad0, _, alen, at_int (i := 0) (Int.le_refl _) ey, ?_⟩
    · rw [show cutS d0 (some 1) none = _ from cutS_lo d0 1, show (ls (Str.ofString "?")).length = 1 by decide +kernel]
      show 1 + (List.drop 1 (ls d0)).length ≤ _
      rw [List.length_drop, szl]; have := ddlen d0 d0m; omega
    try simp only [Lp.wpSs, Lp.wpS, Lp.wpE, Lp.wpEs, Lp.wpSrc, Lp.wpH, Lp.bindT, Lp.bindTs, Lp.wipeE, Lp.q_ix1, Lp.q_ix2, Lp.q_ix3, Lp.q_ix4, Lp.q_lt, Lp.q_le, Lp.q_gt, Lp.q_ge, Lp.q_slt, Lp.q_sle, Lp.q_sgt, Lp.q_sge, Lp.q_in1, Lp.q_ni1, Lp.q_in2, Lp.q_ni2, Lp.q_in3, Lp.q_ni3, Lp.q_in4, Lp.q_ni4, Lp.q_in5, Lp.q_ni5, Lp.q_eqi, Lp.q_nei, Lp.q_addi, Lp.q_adds, Lp.q_addl, Lp.q_addt, Lp.q_subi, Lp.q_muli, Lp.q_muls, Lp.q_mull, Lp.q_fdiv, Lp.q_mod, Lp.q_pow, Lp.q_len1, Lp.q_len2, Lp.q_len3, Lp.q_len4, Lp.q_len5, Lp.q_int1, Lp.q_int2, Lp.q_abs, Lp.q_min, Lp.q_max, Lp.q_list1, Lp.q_list2, Lp.q_list3, Lp.q_tuple1, Lp.q_tuple2, Lp.q_sorted, Lp.q_sum, Lp.q_it1, Lp.q_it2, Lp.q_it3, Lp.q_it4, Lp.q_sl1, Lp.q_sl2, Lp.q_sl3, Lp.q_k1, Lp.q_k2, List.getElem?_cons_zero, List.getElem?_cons_succ, Option.some.injEq, Prod.mk.injEq, D.bl.injEq, D.lst.injEq, true_and, and_true, exists_eq_left', exists_eq_left, List.set_cons_zero, List.set_cons_succ, List.length_map, false_and, reduceCtorEq, exists_false, exists_const, Int.toNat_natCast, Bool.not_true, Bool.not_false, decide_true, decide_false, Lp.len_ls]
    refine ⟨?_, by show 4 ≤ sizeLine; rw [szl]; omega, ?_, ?_⟩
    · show (ls d0).length + 1 ≤ _
      rw [szl]; have := ddlen d0 d0m; omega
    · show due.length + 4 ≤ _
      rw [szl]; omega
    rw [show cutS d0 (some 1) none = _ from cutS_lo d0 1]
    generalize hex : [Str.ofString "", ⟨(List.replicate (7 : Int).toNat [y]).flatten.toArray⟩, Str.ofString "?" ++ sm ((ls d0).drop 1), d0 ++ (⟨#[y]⟩ : Str)] = ex
    have exf : ∀ s ∈ due ++ ex, ∀ c ∈ ls s, c < 1114112 := by
      intro s hs c hc
      rcases List.mem_append.mp hs with hs | hs
      · exact dfine s hs c hc
      rw [← hex] at hs
      rcases List.mem_cons.mp hs with rfl | hs
      · rw [show ls (Str.ofString "") = [] by decide +kernel] at hc; cases hc
      rcases List.mem_cons.mp hs with rfl | hs
      · have hc : c ∈ (List.replicate (7 : Int).toNat [y]).flatten := hc
        obtain ⟨l, hl, hc⟩ := List.mem_flatten.mp hc
        rw [(List.mem_replicate.mp hl).2, List.mem_singleton] at hc
        rw [hc]; exact hy
      rcases List.mem_cons.mp hs with rfl | hs
      · rw [ls_app] at hc
        rcases List.mem_append.mp hc with hc | hc
        · rw [show ls (Str.ofString "?") = [63] by decide +kernel, List.mem_singleton] at hc
          omega
        · exact dfine d0 d0m c (List.mem_of_mem_drop (show c ∈ (ls d0).drop 1 from hc))
      · rw [List.mem_singleton.mp hs, ls_app] at hc
        rcases List.mem_append.mp hc with hc | hc
        · exact dfine d0 d0m c hc
        · rw [List.mem_singleton.mp (show c ∈ [y] from hc)]; exact hy
    have eit : due.map D.str ++ [D.str (Str.ofString ""), D.str ⟨(List.replicate (7 : Int).toNat [y]).flatten.toArray⟩, D.str (Str.ofString "?" ++ sm ((ls d0).drop 1)), D.str (d0 ++ (⟨#[y]⟩ : Str))] = (due ++ ex).map D.str := by
      rw [← hex, List.map_append]; rfl
    rw [show due.map D.str ++ _ = _ from eit]
    refine wpFor_map (fun _ env => ∃ v12 v13 v14, env = C [v12, v13, v14, none, none, none, none]) ⟨_, _, _, rfl⟩ (fun pre s post env K2 hx hI hK2 => ?_) fun env hI => hK _ hI
    obtain ⟨v12, v13, v14, rfl⟩ := hI
    have sf : ∀ c ∈ ls s, c < 1114112 := exf s (by rw [hx]; simp)
    try simp only [Lp.wpSs, Lp.wpS, Lp.wpE, Lp.wpEs, Lp.wpSrc, Lp.wpH, Lp.bindT, Lp.bindTs, Lp.wipeE, Lp.q_ix1, Lp.q_ix2, Lp.q_ix3, Lp.q_ix4, Lp.q_lt, Lp.q_le, Lp.q_gt, Lp.q_ge, Lp.q_slt, Lp.q_sle, Lp.q_sgt, Lp.q_sge, Lp.q_in1, Lp.q_ni1, Lp.q_in2, Lp.q_ni2, Lp.q_in3, Lp.q_ni3, Lp.q_in4, Lp.q_ni4, Lp.q_in5, Lp.q_ni5, Lp.q_eqi, Lp.q_nei, Lp.q_addi, Lp.q_adds, Lp.q_addl, Lp.q_addt, Lp.q_subi, Lp.q_muli, Lp.q_muls, Lp.q_mull, Lp.q_fdiv, Lp.q_mod, Lp.q_pow, Lp.q_len1, Lp.q_len2, Lp.q_len3, Lp.q_len4, Lp.q_len5, Lp.q_int1, Lp.q_int2, Lp.q_abs, Lp.q_min, Lp.q_max, Lp.q_list1, Lp.q_list2, Lp.q_list3, Lp.q_tuple1, Lp.q_tuple2, Lp.q_sorted, Lp.q_sum, Lp.q_it1, Lp.q_it2, Lp.q_it3, Lp.q_it4, Lp.q_sl1, Lp.q_sl2, Lp.q_sl3, Lp.q_k1, Lp.q_k2, List.getElem?_cons_zero, List.getElem?_cons_succ, Option.some.injEq, Prod.mk.injEq, D.bl.injEq, D.lst.injEq, true_and, and_true, exists_eq_left', exists_eq_left, List.set_cons_zero, List.set_cons_succ, List.length_map, false_and, reduceCtorEq, exists_false, exists_const, Int.toNat_natCast, Bool.not_true, Bool.not_false, decide_true, decide_false, Lp.len_ls, C, h11, List.cons_append, List.nil_append]
    refine lc_of (fun r => decide (rowOf r bag = s)) D.str D.str (by rw [szl]; omega) (fun r hr acc K ha hK3 hK4 => ?_) ?_
    · refine lc_all (fun q => D.str ⟨#[(ls r).getD q.toNat 0]⟩) D.int (by rw [szl]; omega) (fun q hq acc K ha hK => ?_) ⟨bag.map fun q => ⟨#[(ls r).getD q.toNat 0]⟩, .inl (by rw [List.map_map]; rfl), ?_, ?_⟩
      · try simp only [Lp.wpSs, Lp.wpS, Lp.wpE, Lp.wpEs, Lp.wpSrc, Lp.wpH, Lp.bindT, Lp.bindTs, Lp.wipeE, Lp.q_ix1, Lp.q_ix2, Lp.q_ix3, Lp.q_ix4, Lp.q_lt, Lp.q_le, Lp.q_gt, Lp.q_ge, Lp.q_slt, Lp.q_sle, Lp.q_sgt, Lp.q_sge, Lp.q_in1, Lp.q_ni1, Lp.q_in2, Lp.q_ni2, Lp.q_in3, Lp.q_ni3, Lp.q_in4, Lp.q_ni4, Lp.q_in5, Lp.q_ni5, Lp.q_eqi, Lp.q_nei, Lp.q_addi, Lp.q_adds, Lp.q_addl, Lp.q_addt, Lp.q_subi, Lp.q_muli, Lp.q_muls, Lp.q_mull, Lp.q_fdiv, Lp.q_mod, Lp.q_pow, Lp.q_len1, Lp.q_len2, Lp.q_len3, Lp.q_len4, Lp.q_len5, Lp.q_int1, Lp.q_int2, Lp.q_abs, Lp.q_min, Lp.q_max, Lp.q_list1, Lp.q_list2, Lp.q_list3, Lp.q_tuple1, Lp.q_tuple2, Lp.q_sorted, Lp.q_sum, Lp.q_it1, Lp.q_it2, Lp.q_it3, Lp.q_it4, Lp.q_sl1, Lp.q_sl2, Lp.q_sl3, Lp.q_k1, Lp.q_k2, List.getElem?_cons_zero, List.getElem?_cons_succ, Option.some.injEq, Prod.mk.injEq, D.bl.injEq, D.lst.injEq, true_and, and_true, exists_eq_left', exists_eq_left, List.set_cons_zero, List.set_cons_succ, List.length_map, false_and, reduceCtorEq, exists_false, exists_const, Int.toNat_natCast, Bool.not_true, Bool.not_false, decide_true, decide_false, Lp.len_ls]
        exact ⟨_, by rw [szl]; have := (rpre r hr).1; omega, at_row ((rpre r hr).2.2 q hq), ha, hK⟩
      · rw [row_len, show (ls (Str.ofString "")).length = 0 by decide +kernel]; omega
      · rw [join_row]
        exact eq_strs (rfine r hr) sf (if_bl (fun e => ⟨ha, hK3 e⟩) fun e => hK4 e)
    try simp only [Lp.wpSs, Lp.wpS, Lp.wpE, Lp.wpEs, Lp.wpSrc, Lp.wpH, Lp.bindT, Lp.bindTs, Lp.wipeE, Lp.q_ix1, Lp.q_ix2, Lp.q_ix3, Lp.q_ix4, Lp.q_lt, Lp.q_le, Lp.q_gt, Lp.q_ge, Lp.q_slt, Lp.q_sle, Lp.q_sgt, Lp.q_sge, Lp.q_in1, Lp.q_ni1, Lp.q_in2, Lp.q_ni2, Lp.q_in3, Lp.q_ni3, Lp.q_in4, Lp.q_ni4, Lp.q_in5, Lp.q_ni5, Lp.q_eqi, Lp.q_nei, Lp.q_addi, Lp.q_adds, Lp.q_addl, Lp.q_addt, Lp.q_subi, Lp.q_muli, Lp.q_muls, Lp.q_mull, Lp.q_fdiv, Lp.q_mod, Lp.q_pow, Lp.q_len1, Lp.q_len2, Lp.q_len3, Lp.q_len4, Lp.q_len5, Lp.q_int1, Lp.q_int2, Lp.q_abs, Lp.q_min, Lp.q_max, Lp.q_list1, Lp.q_list2, Lp.q_list3, Lp.q_tuple1, Lp.q_tuple2, Lp.q_sorted, Lp.q_sum, Lp.q_it1, Lp.q_it2, Lp.q_it3, Lp.q_it4, Lp.q_sl1, Lp.q_sl2, Lp.q_sl3, Lp.q_k1, Lp.q_k2, List.getElem?_cons_zero, List.getElem?_cons_succ, Option.some.injEq, Prod.mk.injEq, D.bl.injEq, D.lst.injEq, true_and, and_true, exists_eq_left', exists_eq_left, List.set_cons_zero, List.set_cons_succ, List.length_map, false_and, reduceCtorEq, exists_false, exists_const, Int.toNat_natCast, Bool.not_true, Bool.not_false, decide_true, decide_false, Lp.len_ls]
    refine ct_run ((a, (n : Int), told), bag, s) rfl ⟨kok, sf⟩ (fun d hd => ?_) (fun x hx => absurd bok hx.1)
    obtain ⟨_, rfl⟩ := hd
    have ft : fineD 1 (.tup ((told.filter fun r => decide (rowOf r bag = s)).map .str)) = true := fine_tups fun r hr c hc => row_letter ga.ok (trow r (List.mem_filter.mp hr |>.1)) c hc
    refine ne_fine (n := 1) ft ft (by decide) fun b hb => ?_
    obtain rfl : b = false := by
      cases b with
      | false => rfl
      | true => exact absurd rfl (hb.mp rfl)
    try simp only [Lp.wpSs, Lp.wpS, Lp.wpE, Lp.wpEs, Lp.wpSrc, Lp.wpH, Lp.bindT, Lp.bindTs, Lp.wipeE, Lp.q_ix1, Lp.q_ix2, Lp.q_ix3, Lp.q_ix4, Lp.q_lt, Lp.q_le, Lp.q_gt, Lp.q_ge, Lp.q_slt, Lp.q_sle, Lp.q_sgt, Lp.q_sge, Lp.q_in1, Lp.q_ni1, Lp.q_in2, Lp.q_ni2, Lp.q_in3, Lp.q_ni3, Lp.q_in4, Lp.q_ni4, Lp.q_in5, Lp.q_ni5, Lp.q_eqi, Lp.q_nei, Lp.q_addi, Lp.q_adds, Lp.q_addl, Lp.q_addt, Lp.q_subi, Lp.q_muli, Lp.q_muls, Lp.q_mull, Lp.q_fdiv, Lp.q_mod, Lp.q_pow, Lp.q_len1, Lp.q_len2, Lp.q_len3, Lp.q_len4, Lp.q_len5, Lp.q_int1, Lp.q_int2, Lp.q_abs, Lp.q_min, Lp.q_max, Lp.q_list1, Lp.q_list2, Lp.q_list3, Lp.q_tuple1, Lp.q_tuple2, Lp.q_sorted, Lp.q_sum, Lp.q_it1, Lp.q_it2, Lp.q_it3, Lp.q_it4, Lp.q_sl1, Lp.q_sl2, Lp.q_sl3, Lp.q_k1, Lp.q_k2, List.getElem?_cons_zero, List.getElem?_cons_succ, Option.some.injEq, Prod.mk.injEq, D.bl.injEq, D.lst.injEq, true_and, and_true, exists_eq_left', exists_eq_left, List.set_cons_zero, List.set_cons_succ, List.length_map, false_and, reduceCtorEq, exists_false, exists_const, Int.toNat_natCast, Bool.not_true, Bool.not_false, decide_true, decide_false, Lp.len_ls]
    exact hK2 _ ⟨_, _, _, rfl⟩
  rintro e ⟨v12, v13, v14, rfl⟩
  -- givers of a due row
  refine seqK fun K hK => ?_
  try simp only [Lp.wpSs, Lp.wpS, Lp.wpE, Lp.wpEs, Lp.wpSrc, Lp.wpH, Lp.bindT, Lp.bindTs, Lp.wipeE, Lp.q_ix1, Lp.q_ix2, Lp.q_ix3, Lp.q_ix4, Lp.q_lt, Lp.q_le, Lp.q_gt, Lp.q_ge, Lp.q_slt, Lp.q_sle, Lp.q_sgt, Lp.q_sge, Lp.q_in1, Lp.q_ni1, Lp.q_in2, Lp.q_ni2, Lp.q_in3, Lp.q_ni3, Lp.q_in4, Lp.q_ni4, Lp.q_in5, Lp.q_ni5, Lp.q_eqi, Lp.q_nei, Lp.q_addi, Lp.q_adds, Lp.q_addl, Lp.q_addt, Lp.q_subi, Lp.q_muli, Lp.q_muls, Lp.q_mull, Lp.q_fdiv, Lp.q_mod, Lp.q_pow, Lp.q_len1, Lp.q_len2, Lp.q_len3, Lp.q_len4, Lp.q_len5, Lp.q_int1, Lp.q_int2, Lp.q_abs, Lp.q_min, Lp.q_max, Lp.q_list1, Lp.q_list2, Lp.q_list3, Lp.q_tuple1, Lp.q_tuple2, Lp.q_sorted, Lp.q_sum, Lp.q_it1, Lp.q_it2, Lp.q_it3, Lp.q_it4, Lp.q_sl1, Lp.q_sl2, Lp.q_sl3, Lp.q_k1, Lp.q_k2, List.getElem?_cons_zero, List.getElem?_cons_succ, Option.some.injEq, Prod.mk.injEq, D.bl.injEq, D.lst.injEq, true_and, and_true, exists_eq_left', exists_eq_left, List.set_cons_zero, List.set_cons_succ, List.length_map, false_and, reduceCtorEq, exists_false, exists_const, Int.toNat_natCast, Bool.not_true, Bool.not_false, decide_true, decide_false, Lp.len_ls, C, h11, List.cons_append, List.nil_append]
  refine ⟨_, s2, ?_⟩
  try simp only [Lp.wpSs, Lp.wpS, Lp.wpE, Lp.wpEs, Lp.wpSrc, Lp.wpH, Lp.bindT, Lp.bindTs, Lp.wipeE, Lp.q_ix1, Lp.q_ix2, Lp.q_ix3, Lp.q_ix4, Lp.q_lt, Lp.q_le, Lp.q_gt, Lp.q_ge, Lp.q_slt, Lp.q_sle, Lp.q_sgt, Lp.q_sge, Lp.q_in1, Lp.q_ni1, Lp.q_in2, Lp.q_ni2, Lp.q_in3, Lp.q_ni3, Lp.q_in4, Lp.q_ni4, Lp.q_in5, Lp.q_ni5, Lp.q_eqi, Lp.q_nei, Lp.q_addi, Lp.q_adds, Lp.q_addl, Lp.q_addt, Lp.q_subi, Lp.q_muli, Lp.q_muls, Lp.q_mull, Lp.q_fdiv, Lp.q_mod, Lp.q_pow, Lp.q_len1, Lp.q_len2, Lp.q_len3, Lp.q_len4, Lp.q_len5, Lp.q_int1, Lp.q_int2, Lp.q_abs, Lp.q_min, Lp.q_max, Lp.q_list1, Lp.q_list2, Lp.q_list3, Lp.q_tuple1, Lp.q_tuple2, Lp.q_sorted, Lp.q_sum, Lp.q_it1, Lp.q_it2, Lp.q_it3, Lp.q_it4, Lp.q_sl1, Lp.q_sl2, Lp.q_sl3, Lp.q_k1, Lp.q_k2, List.getElem?_cons_zero, List.getElem?_cons_succ, Option.some.injEq, Prod.mk.injEq, D.bl.injEq, D.lst.injEq, true_and, and_true, exists_eq_left', exists_eq_left, List.set_cons_zero, List.set_cons_succ, List.length_map, false_and, reduceCtorEq, exists_false, exists_const, Int.toNat_natCast, Bool.not_true, Bool.not_false, decide_true, decide_false, Lp.len_ls]
  have dpos : 0 < due.length := List.length_pos_of_mem d0m
  obtain ⟨g, hg⟩ : ∃ g, due[(x2 % (due.length : Int)).toNat]? = some g := ⟨_, List.getElem?_eq_getElem (by
    have h1 := Int.emod_lt_of_pos x2 (show (0 : Int) < due.length by omega)
    have h2 := Int.emod_nonneg x2 (show (due.length : Int) ≠ 0 by omega)
    omega)⟩
  have gm := List.mem_of_getElem? hg
  refine ⟨by omega, _, at_map D.str (at_int (Int.emod_nonneg _ (by omega)) hg), ?_⟩
  refine ct_run ((a, (n : Int), told), bag, g) rfl ⟨kok, dfine g gm⟩ (fun d hd => ?_) (fun x hx => absurd bok hx.1)
  obtain ⟨_, rfl⟩ := hd
  obtain ⟨r0, hr0, er0⟩ := (dmem g).mp gm
  have flen : 0 < (told.filter fun r => decide (rowOf r bag = g)).length := List.length_pos_of_mem (List.mem_filter.mpr ⟨hr0, decide_eq_true er0⟩)
  try simp only [Lp.wpSs, Lp.wpS, Lp.wpE, Lp.wpEs, Lp.wpSrc, Lp.wpH, Lp.bindT, Lp.bindTs, Lp.wipeE, Lp.q_ix1, Lp.q_ix2, Lp.q_ix3, Lp.q_ix4, Lp.q_lt, Lp.q_le, Lp.q_gt, Lp.q_ge, Lp.q_slt, Lp.q_sle, Lp.q_sgt, Lp.q_sge, Lp.q_in1, Lp.q_ni1, Lp.q_in2, Lp.q_ni2, Lp.q_in3, Lp.q_ni3, Lp.q_in4, Lp.q_ni4, Lp.q_in5, Lp.q_ni5, Lp.q_eqi, Lp.q_nei, Lp.q_addi, Lp.q_adds, Lp.q_addl, Lp.q_addt, Lp.q_subi, Lp.q_muli, Lp.q_muls, Lp.q_mull, Lp.q_fdiv, Lp.q_mod, Lp.q_pow, Lp.q_len1, Lp.q_len2, Lp.q_len3, Lp.q_len4, Lp.q_len5, Lp.q_int1, Lp.q_int2, Lp.q_abs, Lp.q_min, Lp.q_max, Lp.q_list1, Lp.q_list2, Lp.q_list3, Lp.q_tuple1, Lp.q_tuple2, Lp.q_sorted, Lp.q_sum, Lp.q_it1, Lp.q_it2, Lp.q_it3, Lp.q_it4, Lp.q_sl1, Lp.q_sl2, Lp.q_sl3, Lp.q_k1, Lp.q_k2, List.getElem?_cons_zero, List.getElem?_cons_succ, Option.some.injEq, Prod.mk.injEq, D.bl.injEq, D.lst.injEq, true_and, and_true, exists_eq_left', exists_eq_left, List.set_cons_zero, List.set_cons_succ, List.length_map, false_and, reduceCtorEq, exists_false, exists_const, Int.toNat_natCast, Bool.not_true, Bool.not_false, decide_true, decide_false, Lp.len_ls]
  refine if_p (fun h => ?_) fun h => hK _ ?_
  · have h : ((told.filter fun r => decide (rowOf r bag = g)).length : Int) = 0 := h
    omega
  -- wrong bags
  try simp only [Lp.wpSs, Lp.wpS, Lp.wpE, Lp.wpEs, Lp.wpSrc, Lp.wpH, Lp.bindT, Lp.bindTs, Lp.wipeE, Lp.q_ix1, Lp.q_ix2, Lp.q_ix3, Lp.q_ix4, Lp.q_lt, Lp.q_le, Lp.q_gt, Lp.q_ge, Lp.q_slt, Lp.q_sle, Lp.q_sgt, Lp.q_sge, Lp.q_in1, Lp.q_ni1, Lp.q_in2, Lp.q_ni2, Lp.q_in3, Lp.q_ni3, Lp.q_in4, Lp.q_ni4, Lp.q_in5, Lp.q_ni5, Lp.q_eqi, Lp.q_nei, Lp.q_addi, Lp.q_adds, Lp.q_addl, Lp.q_addt, Lp.q_subi, Lp.q_muli, Lp.q_muls, Lp.q_mull, Lp.q_fdiv, Lp.q_mod, Lp.q_pow, Lp.q_len1, Lp.q_len2, Lp.q_len3, Lp.q_len4, Lp.q_len5, Lp.q_int1, Lp.q_int2, Lp.q_abs, Lp.q_min, Lp.q_max, Lp.q_list1, Lp.q_list2, Lp.q_list3, Lp.q_tuple1, Lp.q_tuple2, Lp.q_sorted, Lp.q_sum, Lp.q_it1, Lp.q_it2, Lp.q_it3, Lp.q_it4, Lp.q_sl1, Lp.q_sl2, Lp.q_sl3, Lp.q_k1, Lp.q_k2, List.getElem?_cons_zero, List.getElem?_cons_succ, Option.some.injEq, Prod.mk.injEq, D.bl.injEq, D.lst.injEq, true_and, and_true, exists_eq_left', exists_eq_left, List.set_cons_zero, List.set_cons_succ, List.length_map, false_and, reduceCtorEq, exists_false, exists_const, Int.toNat_natCast, Bool.not_true, Bool.not_false, decide_true, decide_false, Lp.len_ls, h12]
  refine ct_run ((n : Int), bag) rfl bok (fun d hd => ?_) (fun x hx => hx.elim)
  obtain ⟨bags, rfl, bad⟩ := hd
  try simp only [Lp.wpSs, Lp.wpS, Lp.wpE, Lp.wpEs, Lp.wpSrc, Lp.wpH, Lp.bindT, Lp.bindTs, Lp.wipeE, Lp.q_ix1, Lp.q_ix2, Lp.q_ix3, Lp.q_ix4, Lp.q_lt, Lp.q_le, Lp.q_gt, Lp.q_ge, Lp.q_slt, Lp.q_sle, Lp.q_sgt, Lp.q_sge, Lp.q_in1, Lp.q_ni1, Lp.q_in2, Lp.q_ni2, Lp.q_in3, Lp.q_ni3, Lp.q_in4, Lp.q_ni4, Lp.q_in5, Lp.q_ni5, Lp.q_eqi, Lp.q_nei, Lp.q_addi, Lp.q_adds, Lp.q_addl, Lp.q_addt, Lp.q_subi, Lp.q_muli, Lp.q_muls, Lp.q_mull, Lp.q_fdiv, Lp.q_mod, Lp.q_pow, Lp.q_len1, Lp.q_len2, Lp.q_len3, Lp.q_len4, Lp.q_len5, Lp.q_int1, Lp.q_int2, Lp.q_abs, Lp.q_min, Lp.q_max, Lp.q_list1, Lp.q_list2, Lp.q_list3, Lp.q_tuple1, Lp.q_tuple2, Lp.q_sorted, Lp.q_sum, Lp.q_it1, Lp.q_it2, Lp.q_it3, Lp.q_it4, Lp.q_sl1, Lp.q_sl2, Lp.q_sl3, Lp.q_k1, Lp.q_k2, List.getElem?_cons_zero, List.getElem?_cons_succ, Option.some.injEq, Prod.mk.injEq, D.bl.injEq, D.lst.injEq, true_and, and_true, exists_eq_left', exists_eq_left, List.set_cons_zero, List.set_cons_succ, List.length_map, false_and, reduceCtorEq, exists_false, exists_const, Int.toNat_natCast, Bool.not_true, Bool.not_false, decide_true, decide_false, Lp.len_ls]
  refine wpFor_map (fun _ env => ∃ v15 v16, env = C [v12, v13, v14, v15, v16, none, none]) ⟨_, _, rfl⟩ (fun pre w post env K2 hx hI hK2 => ?_) fun env hI => ?_
  · obtain ⟨v15, v16, rfl⟩ := hI
    try simp only [Lp.wpSs, Lp.wpS, Lp.wpE, Lp.wpEs, Lp.wpSrc, Lp.wpH, Lp.bindT, Lp.bindTs, Lp.wipeE, Lp.q_ix1, Lp.q_ix2, Lp.q_ix3, Lp.q_ix4, Lp.q_lt, Lp.q_le, Lp.q_gt, Lp.q_ge, Lp.q_slt, Lp.q_sle, Lp.q_sgt, Lp.q_sge, Lp.q_in1, Lp.q_ni1, Lp.q_in2, Lp.q_ni2, Lp.q_in3, Lp.q_ni3, Lp.q_in4, Lp.q_ni4, Lp.q_in5, Lp.q_ni5, Lp.q_eqi, Lp.q_nei, Lp.q_addi, Lp.q_adds, Lp.q_addl, Lp.q_addt, Lp.q_subi, Lp.q_muli, Lp.q_muls, Lp.q_mull, Lp.q_fdiv, Lp.q_mod, Lp.q_pow, Lp.q_len1, Lp.q_len2, Lp.q_len3, Lp.q_len4, Lp.q_len5, Lp.q_int1, Lp.q_int2, Lp.q_abs, Lp.q_min, Lp.q_max, Lp.q_list1, Lp.q_list2, Lp.q_list3, Lp.q_tuple1, Lp.q_tuple2, Lp.q_sorted, Lp.q_sum, Lp.q_it1, Lp.q_it2, Lp.q_it3, Lp.q_it4, Lp.q_sl1, Lp.q_sl2, Lp.q_sl3, Lp.q_k1, Lp.q_k2, List.getElem?_cons_zero, List.getElem?_cons_succ, Option.some.injEq, Prod.mk.injEq, D.bl.injEq, D.lst.injEq, true_and, and_true, exists_eq_left', exists_eq_left, List.set_cons_zero, List.set_cons_succ, List.length_map, false_and, reduceCtorEq, exists_false, exists_const, Int.toNat_natCast, Bool.not_true, Bool.not_false, decide_true, decide_false, Lp.len_ls, C, List.cons_append, List.nil_append]
    refine ⟨⟨by decide, by decide⟩, ?_⟩
    refine wpFor_range (n := 3) (fun _ env => ∃ v16, env = C [v12, v13, v14, some (false, bagD w), v16, none, none]) ⟨_, rfl⟩ (fun i hi env K3 hI hK3 => ?_) fun env hI => ?_
    · obtain ⟨v16, rfl⟩ := hI
      try simp only [Lp.wpSs, Lp.wpS, Lp.wpE, Lp.wpEs, Lp.wpSrc, Lp.wpH, Lp.bindT, Lp.bindTs, Lp.wipeE, Lp.q_ix1, Lp.q_ix2, Lp.q_ix3, Lp.q_ix4, Lp.q_lt, Lp.q_le, Lp.q_gt, Lp.q_ge, Lp.q_slt, Lp.q_sle, Lp.q_sgt, Lp.q_sge, Lp.q_in1, Lp.q_ni1, Lp.q_in2, Lp.q_ni2, Lp.q_in3, Lp.q_ni3, Lp.q_in4, Lp.q_ni4, Lp.q_in5, Lp.q_ni5, Lp.q_eqi, Lp.q_nei, Lp.q_addi, Lp.q_adds, Lp.q_addl, Lp.q_addt, Lp.q_subi, Lp.q_muli, Lp.q_muls, Lp.q_mull, Lp.q_fdiv, Lp.q_mod, Lp.q_pow, Lp.q_len1, Lp.q_len2, Lp.q_len3, Lp.q_len4, Lp.q_len5, Lp.q_int1, Lp.q_int2, Lp.q_abs, Lp.q_min, Lp.q_max, Lp.q_list1, Lp.q_list2, Lp.q_list3, Lp.q_tuple1, Lp.q_tuple2, Lp.q_sorted, Lp.q_sum, Lp.q_it1, Lp.q_it2, Lp.q_it3, Lp.q_it4, Lp.q_sl1, Lp.q_sl2, Lp.q_sl3, Lp.q_k1, Lp.q_k2, List.getElem?_cons_zero, List.getElem?_cons_succ, Option.some.injEq, Prod.mk.injEq, D.bl.injEq, D.lst.injEq, true_and, and_true, exists_eq_left', exists_eq_left, List.set_cons_zero, List.set_cons_succ, List.length_map, false_and, reduceCtorEq, exists_false, exists_const, Int.toNat_natCast, Bool.not_true, Bool.not_false, decide_true, decide_false, Lp.len_ls, C, h13, List.cons_append, List.nil_append]
      refine ctF_run ((a, (n : Int), told), w, (i : Int)) rfl ⟨kok, bad w (by rw [hx]; simp), by show (0 : Int) ≤ i; omega, by show (i : Int) < 3; omega⟩ ?_
      refine ne_fine (n := 1) (fine_tupi (ns := w)) (fine_tupi (ns := w)) (by decide) fun b hb => ?_
      obtain rfl : b = false := by
        cases b with
        | false => rfl
        | true => exact absurd rfl (hb.mp rfl)
      try simp only [Lp.wpSs, Lp.wpS, Lp.wpE, Lp.wpEs, Lp.wpSrc, Lp.wpH, Lp.bindT, Lp.bindTs, Lp.wipeE, Lp.q_ix1, Lp.q_ix2, Lp.q_ix3, Lp.q_ix4, Lp.q_lt, Lp.q_le, Lp.q_gt, Lp.q_ge, Lp.q_slt, Lp.q_sle, Lp.q_sgt, Lp.q_sge, Lp.q_in1, Lp.q_ni1, Lp.q_in2, Lp.q_ni2, Lp.q_in3, Lp.q_ni3, Lp.q_in4, Lp.q_ni4, Lp.q_in5, Lp.q_ni5, Lp.q_eqi, Lp.q_nei, Lp.q_addi, Lp.q_adds, Lp.q_addl, Lp.q_addt, Lp.q_subi, Lp.q_muli, Lp.q_muls, Lp.q_mull, Lp.q_fdiv, Lp.q_mod, Lp.q_pow, Lp.q_len1, Lp.q_len2, Lp.q_len3, Lp.q_len4, Lp.q_len5, Lp.q_int1, Lp.q_int2, Lp.q_abs, Lp.q_min, Lp.q_max, Lp.q_list1, Lp.q_list2, Lp.q_list3, Lp.q_tuple1, Lp.q_tuple2, Lp.q_sorted, Lp.q_sum, Lp.q_it1, Lp.q_it2, Lp.q_it3, Lp.q_it4, Lp.q_sl1, Lp.q_sl2, Lp.q_sl3, Lp.q_k1, Lp.q_k2, List.getElem?_cons_zero, List.getElem?_cons_succ, Option.some.injEq, Prod.mk.injEq, D.bl.injEq, D.lst.injEq, true_and, and_true, exists_eq_left', exists_eq_left, List.set_cons_zero, List.set_cons_succ, List.length_map, false_and, reduceCtorEq, exists_false, exists_const, Int.toNat_natCast, Bool.not_true, Bool.not_false, decide_true, decide_false, Lp.len_ls]
      exact hK3 _ ⟨_, rfl⟩
    · obtain ⟨v16, rfl⟩ := hI
      exact hK2 _ ⟨_, _, rfl⟩
  · obtain ⟨v15, v16, rfl⟩ := hI
    try simp only [Lp.wpSs, Lp.wpS, Lp.wpE, Lp.wpEs, Lp.wpSrc, Lp.wpH, Lp.bindT, Lp.bindTs, Lp.wipeE, Lp.q_ix1, Lp.q_ix2, Lp.q_ix3, Lp.q_ix4, Lp.q_lt, Lp.q_le, Lp.q_gt, Lp.q_ge, Lp.q_slt, Lp.q_sle, Lp.q_sgt, Lp.q_sge, Lp.q_in1, Lp.q_ni1, Lp.q_in2, Lp.q_ni2, Lp.q_in3, Lp.q_ni3, Lp.q_in4, Lp.q_ni4, Lp.q_in5, Lp.q_ni5, Lp.q_eqi, Lp.q_nei, Lp.q_addi, Lp.q_adds, Lp.q_addl, Lp.q_addt, Lp.q_subi, Lp.q_muli, Lp.q_muls, Lp.q_mull, Lp.q_fdiv, Lp.q_mod, Lp.q_pow, Lp.q_len1, Lp.q_len2, Lp.q_len3, Lp.q_len4, Lp.q_len5, Lp.q_int1, Lp.q_int2, Lp.q_abs, Lp.q_min, Lp.q_max, Lp.q_list1, Lp.q_list2, Lp.q_list3, Lp.q_tuple1, Lp.q_tuple2, Lp.q_sorted, Lp.q_sum, Lp.q_it1, Lp.q_it2, Lp.q_it3, Lp.q_it4, Lp.q_sl1, Lp.q_sl2, Lp.q_sl3, Lp.q_k1, Lp.q_k2, List.getElem?_cons_zero, List.getElem?_cons_succ, Option.some.injEq, Prod.mk.injEq, D.bl.injEq, D.lst.injEq, true_and, and_true, exists_eq_left', exists_eq_left, List.set_cons_zero, List.set_cons_succ, List.length_map, false_and, reduceCtorEq, exists_false, exists_const, Int.toNat_natCast, Bool.not_true, Bool.not_false, decide_true, decide_false, Lp.len_ls]
    exact hq
end K9
namespace Lp
open PySem L2
/-! ## the tables, layer by layer -/
def Tab.addF (T : Tab) (f : Str) (c : Ct) : Tab := { T with fn := fun g => if g = f then some c else T.fn g }
def Tab.addC (T : Tab) (f : Str) (c : Ct) : Tab := { T with cls := fun g => if g = f then some c else T.cls g }
theorem addF_same {T : Tab} {f : Str} {c : Ct} : (T.addF f c).fn f = some c := if_pos rfl
theorem addF_ne {T : Tab} {f g : Str} {c d : Ct} (h : g ≠ f) (e : T.fn g = some d) : (T.addF f c).fn g = some d := (if_neg h).trans e
theorem addC_fn {T : Tab} {f g : Str} {c d : Ct} (e : T.fn g = some d) : (T.addC f c).fn g = some d := e
theorem addC_same {T : Tab} {f : Str} {c : Ct} : (T.addC f c).cls f = some c := if_pos rfl
theorem addC_ne {T : Tab} {f g : Str} {c d : Ct} (h : g ≠ f) (e : T.cls g = some d) : (T.addC f c).cls g = some d := (if_neg h).trans e
theorem addF_cls {T : Tab} {f g : Str} {c d : Ct} (e : T.cls g = some d) : (T.addF f c).cls g = some d := e
section
variable {P : Program} {w : World} {K : PySem.W.Frag} {mg : Str → Option Value} {base : Heap} {T : Tab} {k k' : Nat}
theorem TabOk.up (h : TabOk T k P w K mg base) (hk : k ≤ k') : TabOk T k' P w K mg base where
  fn := fun f c e => let ⟨a, fd, ps, h1, h2, h3, h4⟩ := h.fn f c e; ⟨a, fd, ps, h1, h2, h3, h4.mono hk⟩
  cls := fun f c e => let ⟨C, i, fd, ps, j, h1, h2, h3, h4, h5⟩ := h.cls f c e; ⟨C, i, fd, ps, j, h1, h2, h3, Nat.le_trans h4 hk, h5⟩
  glb := h.glb
  blt := h.blt
  rng := h.rng
  isi := h.isi
  tyn := h.tyn
  meth := fun c m q e => let ⟨C, a, fd, ps, h1, h2, h3, h4, h5⟩ := h.meth c m q e; ⟨C, a, fd, ps, h1, h2, h3, h4, h5.mono hk⟩
  exc := fun c fs e => let ⟨h0, h00, C, i, fd, ps, j, h1, h2, h3, h4, h5, h6, h7⟩ := h.exc c fs e; ⟨h0, h00, C, i, fd, ps, j, h1, h2, h3, h4, h5, Nat.le_trans h6 hk, h7⟩
  fld := h.fld
  isx := h.isx
  xfl := h.xfl
theorem TabOk.addF {f : Str} {c : Ct} {a : Addr} {fd : FuncData} {ps : List Str} (h : TabOk T k P w K mg base) (m : mg f = some (.ref a)) (kp : PySem.W.keepIn K (.ref a) = true) (b : Binds K fd ps []) (F : FnOk P w K mg base (L2.CX P w) (k + 1) a fd ps (lift mg K c)) :
    TabOk (T.addF f c) (k + 1) P w K mg base := by
  have h := h.up (Nat.le_succ k)
  refine { h with fn := fun g d e => ?_ }
  by_cases z : g = f
  · subst z
    rw [addF_same] at e
    cases e
    exact ⟨a, fd, ps, m, kp, b, F⟩
  · exact h.fn g d ((if_neg z).symm.trans e)
theorem TabOk.addC {f : Str} {c : Ct} {C i : Addr} {fd : FuncData} {ps : List Str} (h : TabOk T k P w K mg base) (m : mg f = some (.ref C)) (M : Mk K C i) (b : Binds K fd ps []) (F : FnOk P w K mg base (L2.CX P w) (k + 1) i fd ps (liftI mg K C c)) :
    TabOk (T.addC f c) (k + 2) P w K mg base := by
  have h := h.up (Nat.le_add_right k 2)
  refine { h with cls := fun g d e => ?_ }
  by_cases z : g = f
  · subst z
    rw [addC_same] at e
    cases e
    exact ⟨C, i, fd, ps, k + 1, m, M, b, Nat.le_refl _, F⟩
  · exact h.cls g d ((if_neg z).symm.trans e)
/-- the law's promise -/
def c_true : Ct := ctF (fun ns : List Int => [.scr ns]) (fun _ => True) fun _ => .bl true
theorem hid_none {H : Hp} : hid (fun _ => false) H = H := funext fun _ => hid_off rfl
theorem law_sp {H : Hp} {a : Addr} {ns : List Int} {Q : VK} {E : XK} (hS : SqL K H a (ns.map V.int)) (hQ : ∀ H', Q (.bl true) H') : lift mg K c_true [.ref a] H Q E :=
  ⟨fun _ => false, [.scr ns], fun a h => (by cases h), .cons (.scr (by rw [hid_none]; exact hS)) .nil, ns, rfl, trivial, fun v H' _ r => by cases r; exact hQ H'⟩
def spLaw (K : PySem.W.Frag) : Sp := fun vs H Q _ => ∃ (a : Addr) (ns : List Int), vs = [.ref a] ∧ SqL K H a (ns.map V.int) ∧ ∀ H', Q (.bl true) H'
theorem law_of {f : Addr} {fd : FuncData} {ps : List Str} (F : FnOk P w K mg base (L2.CX P w) k f fd ps (lift mg K c_true)) : FnOk P w K mg base (L2.CX P w) k f fd ps (spLaw K) := F.imp fun vs H Q E ⟨a, ns, e, hS, hQ⟩ => by
  subst e
  exact law_sp hS hQ
theorem cx_none {H : Hp} {s s' : Shared} {e : Value} (h : L2.CX P w [] H s (fun _ _ _ => False) e s') : False := by
  obtain ⟨_, _, _, _, _, _, _, _, _, _, _, _, z⟩ := h
  exact z
theorem walk {l : PySem.W.OpenLaw} {q : Program} {loose : List Str} {XP : (Str → Option Value) → Heap → Prop} {YP : World → Heap → Prop} {d : DefRec} {K : Params → PySem.W.Frag} {k : Nat} (hn : l.most = some 63) (hdf : d.params.defaults = []) (hr : Room k callerA)
    (hY : ∀ (w : World) (h : Heap), YP w h → (K w.params).In h)
    (F : ∀ (w : World) (mg : Str → Option Value) (fa : Addr) (h : Heap), (K w.params).In h → h.Ns mainGlobals mg → mg d.name = some (.ref fa) →
      ∃ fd : FuncData, (∀ (s : Shared) (u : Value), BindsTo s fd ⟨[u], []⟩ [("script", u)]) ∧ ∀ base : Heap, (K w.params).In base → base.Ns mainGlobals mg → FnOk l.prog w (K w.params) mg base (L2.CX l.prog w) k fa fd ["script"] (spLaw (K w.params))) :
    PySem.W.WalkO q loose XP YP l.row.toRowW d [] (fun f vs => PySem.call f vs) :=
  L2.walk_of (n := 63) (k := k) (x := "script") (CX := fun w => L2.CX l.prog w) (sp := fun w => spLaw (K w.params)) hn (by decide) hdf hr hY F (fun _ _ a ns hl _ hS => ⟨a, ns, rfl, hS, fun _ => rfl⟩) fun _ _ _ _ _ z => cx_none z
/-- an own exception's __init__ with one field -/
theorem exc_end {C : Addr} {f : Str} {y : V} {H : Hp} {a : Addr} {Q : VK} {E : XK} (h : excSp C [f] [.ref a, y] H Q E) : H a = some (exo a C none) ∧ ∀ dx, H dx = none → dx ≠ a → Q .non (upd (upd H dx (exd dx [(f, y)])) a (exo a C (some dx))) := by
  obtain ⟨a', us, e1, e2, e3, k⟩ := h
  cases e1
  refine ⟨e3, fun dx hd hn => k dx [(f, y)] _ hd (fun b o hb e => ?_) upd_same (by rw [upd_ne hn]; exact upd_same) fun g v hv => hv⟩
  rw [upd_ne hb, upd_ne (fun z => by rw [z, hd] at e; cases e)]
  exact e
theorem exc_args {C : Addr} {f : Str} {vs : List V} {H : Hp} {Q : VK} {E : XK} (h : excSp C [f] vs H Q E) : ∃ a y, vs = [.ref a, y] := by
  obtain ⟨a, us, rfl, e2, _⟩ := h
  match us, e2 with
  | [y], _ => exact ⟨a, y, rfl⟩
/-- what isinstance and except ask of a pair of own exception classes -/
theorem isx_mk {C D : Addr} (h1 : PySem.W.subIn K (.ref D) (.type "BaseException") = some true) (h2 : PySem.W.hasDictIn K D = true) (h3 : PySem.W.typeIn K (.ref D) = some (.type "type")) (h4 : PySem.W.subIn K (.ref C) (.ref D) = some true) : PySem.W.exmOne K (.ref C) (.ref D) = some true :=
  PySem.W.exm_ref h1 h2 h3 h4
theorem kit_of {C D : Addr} (h2 : PySem.W.hasDictIn K D = true) (h3 : PySem.W.typeIn K (.ref D) = some (.type "type")) (h4 : PySem.W.subIn K (.ref C) (.ref D) = some true) : PySem.W.kitOne K (.ref C) (.ref D) = some true := by
  obtain ⟨cd, hc, _⟩ := PySem.W.any_some h2
  unfold PySem.W.kitOne
  split
  · rfl
  · show (if ((PySem.W.clsIn K D).isSome && PySem.W.typeIn K (.ref D) == some (.type "type")) = true then PySem.W.subIn K (.ref C) (.ref D) else none) = some true
    rw [hc, h3, if_pos (by rfl)]
    exact h4
theorem kit_self {C : Addr} : PySem.W.kitOne K (.ref C) (.ref C) = some true := if_pos (beq_self_eq_true _)
end
end Lp
namespace K9
open PySem L2 Lp
/-! the table without functions -/
def T0 : Tab where
  fn _ := none
  cls _ := none
  meth _ _ := none
  glb x := if x = "MOST_RULES" then some 32 else if x = "MOST_WIDTH" then some 6 else if x = "MOST_PLACES" then some 6 else if x = "MOST_ROWS" then some 32 else none
  exc x := if x = "BadBag" then some ["bag"] else none
  fld c f := decide ((c, f) ∈ ([("RuleClass", "answers"), ("RuleClass", "width"), ("RuleClass", "rules"), ("Web", "answers"), ("Web", "places"), ("Web", "rows"), ("Web", "knots")] : List (Str × Str)))
  isx x y := if (x, y) ∈ ([("BadBag", "BadBag"), ("BadBag", "SchoolError")] : List (Str × Str)) then some true else none
  xfl x f := decide ((x, f) ∈ ([("BadBag", "bag")] : List (Str × Str)))
theorem cs0 : Cs T0 := ⟨by decide +kernel, by decide +kernel, by decide +kernel, by decide +kernel, by decide +kernel, by decide +kernel, by decide +kernel, by decide +kernel, by decide +kernel, by decide +kernel, by decide +kernel, by decide +kernel, by decide +kernel, by decide +kernel, by decide +kernel⟩
theorem Cs.addF {T : Tab} {f : Str} {c : Ct} (t : Cs T) : Cs (T.addF f c) := ⟨t.rules, t.width, t.places, t.rows, t.kA, t.kW, t.kR, t.wA, t.wP, t.wR, t.wK, t.bag, t.sb, t.ss, t.xb⟩
theorem Cs.addC {T : Tab} {f : Str} {c : Ct} (t : Cs T) : Cs (T.addC f c) := ⟨t.rules, t.width, t.places, t.rows, t.kA, t.kW, t.kR, t.wA, t.wP, t.wR, t.wK, t.bag, t.sb, t.ss, t.xb⟩
def T1 : Tab := T0.addF "is_answers" c_is_answers
theorem cs1 : Cs T1 := cs0.addF
def T2 : Tab := T1.addF "is_row" c_is_row
theorem cs2 : Cs T2 := cs1.addF
def T3 : Tab := T2.addF "different" c_different
theorem cs3 : Cs T3 := cs2.addF
def T4 : Tab := T3.addF "is_bag" c_is_bag
theorem cs4 : Cs T4 := cs3.addF
def T5 : Tab := T4.addF "row_of" c_row_of
theorem cs5 : Cs T5 := cs4.addF
def T6 : Tab := T5.addC "RuleClass" c_RuleClass
theorem cs6 : Cs T6 := cs5.addC
def T7 : Tab := T6.addF "rows_seen" c_rows_seen
theorem cs7 : Cs T7 := cs6.addF
def T8 : Tab := T7.addF "givers" c_givers
theorem cs8 : Cs T8 := cs7.addF
def T9 : Tab := T8.addF "narrowed" c_narrowed
theorem cs9 : Cs T9 := cs8.addF
def T10 : Tab := T9.addF "knots_of" c_knots_of
theorem cs10 : Cs T10 := cs9.addF
def T11 : Tab := T10.addC "Web" c_Web
theorem cs11 : Cs T11 := cs10.addC
def T12 : Tab := T11.addF "web_of" c_web_of
theorem cs12 : Cs T12 := cs11.addF
def T13 : Tab := T12.addF "_law_cell" c_cell
theorem cs13 : Cs T13 := cs12.addF
def T14 : Tab := T13.addF "_law_digits" c_digits
theorem cs14 : Cs T14 := cs13.addF
def T15 : Tab := T14.addF "_law_all_rows" c_all
theorem cs15 : Cs T15 := cs14.addF
def T16 : Tab := T15.addF "_law_class" c_class
theorem cs16 : Cs T16 := cs15.addF
def T17 : Tab := T16.addF "_law_rows_on" c_rows_on
theorem cs17 : Cs T17 := cs16.addF
def T18 : Tab := T17.addF "_law_wrong_bags" c_wrong
theorem cs18 : Cs T18 := cs17.addF
def T19 : Tab := T18.addF "_law_bad_bag" c_bad
theorem cs19 : Cs T19 := cs18.addF
section
variable {P : Program} {w : World} {K : PySem.W.Frag} {mg : Str → Option Value} {base : Heap} {f C : Addr} {fd : FuncData}
theorem ok_BadBag (F : Fun K "__init__" "BadBag.__init__" s_BadBag___init__ f fd) (oc : OexC K C) (hno : PySem.W.findIn K (.ref C) "bag" = some none) : FnOk P w K mg base (L2.CX P w) 1 f fd ["self", "bag"] (excSp C ["bag"]) := by
  refine F.okX sc_BadBag___init__ (fun vs H Q E h => ?_) fun cdv A outer s H vs Q E hr h => ?_
  · obtain ⟨a, y, rfl⟩ := exc_args h
    rfl
  · obtain ⟨a, y, rfl⟩ := exc_args h
    obtain ⟨e1, e2⟩ := exc_end h
    exact ⟨_, pss_cons (ps_ost (pv 0) (pv 1)) pss_nil, y, rfl, .ref a, rfl, a, C, rfl, oc, hno, .inl ⟨e1, e2⟩⟩
end
open PySem.W in
theorem all_mk {P : Program} {w : World} {K : PySem.W.Frag} {h : Heap} {mg : Str → Option Value} {fa : Addr} (X : K.In h) (G : h.Ns mainGlobals mg) (hfa : mg "law" = some (.ref fa))
    {f1 : Addr} {od1 an1 : Option Addr} {sl1 : Array (Option Value)} {oc1 kV1 dc1 pm1 cd1 ct1 : Value}
    {f2 : Addr} {od2 an2 : Option Addr} {sl2 : Array (Option Value)} {oc2 kV2 dc2 pm2 cd2 ct2 : Value}
    {f3 : Addr} {od3 an3 : Option Addr} {sl3 : Array (Option Value)} {oc3 kV3 dc3 pm3 cd3 ct3 : Value}
    {f4 : Addr} {od4 an4 : Option Addr} {sl4 : Array (Option Value)} {oc4 kV4 dc4 pm4 cd4 ct4 : Value}
    {f5 : Addr} {od5 an5 : Option Addr} {sl5 : Array (Option Value)} {oc5 kV5 dc5 pm5 cd5 ct5 : Value}
    {C6 : Addr}
    {f6 : Addr} {od6 an6 : Option Addr} {sl6 : Array (Option Value)} {oc6 kV6 dc6 pm6 cd6 ct6 : Value}
    {f7 : Addr} {od7 an7 : Option Addr} {sl7 : Array (Option Value)} {oc7 kV7 dc7 pm7 cd7 ct7 : Value}
    {f8 : Addr} {od8 an8 : Option Addr} {sl8 : Array (Option Value)} {oc8 kV8 dc8 pm8 cd8 ct8 : Value}
    {f9 : Addr} {od9 an9 : Option Addr} {sl9 : Array (Option Value)} {oc9 kV9 dc9 pm9 cd9 ct9 : Value}
    {f10 : Addr} {od10 an10 : Option Addr} {sl10 : Array (Option Value)} {oc10 kV10 dc10 pm10 cd10 ct10 : Value}
    {C11 : Addr}
    {f11 : Addr} {od11 an11 : Option Addr} {sl11 : Array (Option Value)} {oc11 kV11 dc11 pm11 cd11 ct11 : Value}
    {f12 : Addr} {od12 an12 : Option Addr} {sl12 : Array (Option Value)} {oc12 kV12 dc12 pm12 cd12 ct12 : Value}
    {f13 : Addr} {od13 an13 : Option Addr} {sl13 : Array (Option Value)} {oc13 kV13 dc13 pm13 cd13 ct13 : Value}
    {f14 : Addr} {od14 an14 : Option Addr} {sl14 : Array (Option Value)} {oc14 kV14 dc14 pm14 cd14 ct14 : Value}
    {f15 : Addr} {od15 an15 : Option Addr} {sl15 : Array (Option Value)} {oc15 kV15 dc15 pm15 cd15 ct15 : Value}
    {f16 : Addr} {od16 an16 : Option Addr} {sl16 : Array (Option Value)} {oc16 kV16 dc16 pm16 cd16 ct16 : Value}
    {f17 : Addr} {od17 an17 : Option Addr} {sl17 : Array (Option Value)} {oc17 kV17 dc17 pm17 cd17 ct17 : Value}
    {f18 : Addr} {od18 an18 : Option Addr} {sl18 : Array (Option Value)} {oc18 kV18 dc18 pm18 cd18 ct18 : Value}
    {f19 : Addr} {od19 an19 : Option Addr} {sl19 : Array (Option Value)} {oc19 kV19 dc19 pm19 cd19 ct19 : Value}
    {f20 : Addr} {od20 an20 : Option Addr} {sl20 : Array (Option Value)} {oc20 kV20 dc20 pm20 cd20 ct20 : Value}
    {D0 : Addr}
    {B0 : Addr} {xnm0 xq0 : Str} {xN0 : Addr} {xbs0 : List Value} {xsn0 : List Str} {xsub0 : List Value} {xab0 : Bool} {xcol0 : Option Bool} {xdd0 : Option Addr} {x00 x10 x20 x30 x50 : Option Value}
    {fx0 : Addr} {odx0 anx0 : Option Addr} {slx0 : Array (Option Value)} {ocx0 kVx0 dcx0 pmx0 cdx0 ctx0 : Value}
    {tk0 : Tok}
    {tk1 : Tok}
    {tk2 : Tok}
    {tk3 : Tok}
    (a1 : PySem.W.nsIn K mainGlobals "is_answers" = some (some (.ref f1)))
    (l1 : K.lookup f1 = some ⟨oc1, od1, .func (PySem.W.fnOf "is_answers" "is_answers" (defArgs s_is_answers) (defBody s_is_answers) (defScope s_is_answers) .none kV1 dc1 pm1 an1 cd1 ct1), sl1⟩)
    (c1 : PySem.W.codeIn K cd1 "is_answers" = true)
    (k1 : PySem.W.keepIn K (.ref f1) = true)
    (a2 : PySem.W.nsIn K mainGlobals "is_row" = some (some (.ref f2)))
    (l2 : K.lookup f2 = some ⟨oc2, od2, .func (PySem.W.fnOf "is_row" "is_row" (defArgs s_is_row) (defBody s_is_row) (defScope s_is_row) .none kV2 dc2 pm2 an2 cd2 ct2), sl2⟩)
    (c2 : PySem.W.codeIn K cd2 "is_row" = true)
    (k2 : PySem.W.keepIn K (.ref f2) = true)
    (a3 : PySem.W.nsIn K mainGlobals "different" = some (some (.ref f3)))
    (l3 : K.lookup f3 = some ⟨oc3, od3, .func (PySem.W.fnOf "different" "different" (defArgs s_different) (defBody s_different) (defScope s_different) .none kV3 dc3 pm3 an3 cd3 ct3), sl3⟩)
    (c3 : PySem.W.codeIn K cd3 "different" = true)
    (k3 : PySem.W.keepIn K (.ref f3) = true)
    (a4 : PySem.W.nsIn K mainGlobals "is_bag" = some (some (.ref f4)))
    (l4 : K.lookup f4 = some ⟨oc4, od4, .func (PySem.W.fnOf "is_bag" "is_bag" (defArgs s_is_bag) (defBody s_is_bag) (defScope s_is_bag) .none kV4 dc4 pm4 an4 cd4 ct4), sl4⟩)
    (c4 : PySem.W.codeIn K cd4 "is_bag" = true)
    (k4 : PySem.W.keepIn K (.ref f4) = true)
    (a5 : PySem.W.nsIn K mainGlobals "row_of" = some (some (.ref f5)))
    (l5 : K.lookup f5 = some ⟨oc5, od5, .func (PySem.W.fnOf "row_of" "row_of" (defArgs s_row_of) (defBody s_row_of) (defScope s_row_of) .none kV5 dc5 pm5 an5 cd5 ct5), sl5⟩)
    (c5 : PySem.W.codeIn K cd5 "row_of" = true)
    (k5 : PySem.W.keepIn K (.ref f5) = true)
    (A6 : PySem.W.nsIn K mainGlobals "RuleClass" = some (some (.ref C6)))
    (a6 : PySem.W.findIn K (.ref C6) "__init__" = some (some (.ref f6)))
    (i6 : PySem.W.isFn K (.ref f6) = true)
    (l6 : K.lookup f6 = some ⟨oc6, od6, .func (PySem.W.fnOf "__init__" "RuleClass.__init__" (defArgs s_RuleClass___init__) (defBody s_RuleClass___init__) (defScope s_RuleClass___init__) .none kV6 dc6 pm6 an6 cd6 ct6), sl6⟩)
    (c6 : PySem.W.codeIn K cd6 "RuleClass.__init__" = true)
    (k6 : PySem.W.keepIn K (.ref f6) = true)
    (pg6 : PySem.W.plainGet K C6 Str.empty = true)
    (hd6 : PySem.W.hasDictIn K C6 = true)
    (po6 : PySem.W.plainOver K C6 = true)
    (sa6 : PySem.W.findIn K (.ref C6) "__setattr__" = some (some (.builtin "object.__setattr__")))
    (mk6 : PySem.W.makesIn K C6 = true)
    (kc6 : PySem.W.keepIn K (.ref C6) = true)
    (n6_0 : PySem.W.findIn K (.ref C6) "answers" = some none)
    (n6_1 : PySem.W.findIn K (.ref C6) "width" = some none)
    (n6_2 : PySem.W.findIn K (.ref C6) "rules" = some none)
    (a7 : PySem.W.nsIn K mainGlobals "rows_seen" = some (some (.ref f7)))
    (l7 : K.lookup f7 = some ⟨oc7, od7, .func (PySem.W.fnOf "rows_seen" "rows_seen" (defArgs s_rows_seen) (defBody s_rows_seen) (defScope s_rows_seen) .none kV7 dc7 pm7 an7 cd7 ct7), sl7⟩)
    (c7 : PySem.W.codeIn K cd7 "rows_seen" = true)
    (k7 : PySem.W.keepIn K (.ref f7) = true)
    (a8 : PySem.W.nsIn K mainGlobals "givers" = some (some (.ref f8)))
    (l8 : K.lookup f8 = some ⟨oc8, od8, .func (PySem.W.fnOf "givers" "givers" (defArgs s_givers) (defBody s_givers) (defScope s_givers) .none kV8 dc8 pm8 an8 cd8 ct8), sl8⟩)
    (c8 : PySem.W.codeIn K cd8 "givers" = true)
    (k8 : PySem.W.keepIn K (.ref f8) = true)
    (a9 : PySem.W.nsIn K mainGlobals "narrowed" = some (some (.ref f9)))
    (l9 : K.lookup f9 = some ⟨oc9, od9, .func (PySem.W.fnOf "narrowed" "narrowed" (defArgs s_narrowed) (defBody s_narrowed) (defScope s_narrowed) .none kV9 dc9 pm9 an9 cd9 ct9), sl9⟩)
    (c9 : PySem.W.codeIn K cd9 "narrowed" = true)
    (k9 : PySem.W.keepIn K (.ref f9) = true)
    (a10 : PySem.W.nsIn K mainGlobals "knots_of" = some (some (.ref f10)))
    (l10 : K.lookup f10 = some ⟨oc10, od10, .func (PySem.W.fnOf "knots_of" "knots_of" (defArgs s_knots_of) (defBody s_knots_of) (defScope s_knots_of) .none kV10 dc10 pm10 an10 cd10 ct10), sl10⟩)
    (c10 : PySem.W.codeIn K cd10 "knots_of" = true)
    (k10 : PySem.W.keepIn K (.ref f10) = true)
    (A11 : PySem.W.nsIn K mainGlobals "Web" = some (some (.ref C11)))
    (a11 : PySem.W.findIn K (.ref C11) "__init__" = some (some (.ref f11)))
    (i11 : PySem.W.isFn K (.ref f11) = true)
    (l11 : K.lookup f11 = some ⟨oc11, od11, .func (PySem.W.fnOf "__init__" "Web.__init__" (defArgs s_Web___init__) (defBody s_Web___init__) (defScope s_Web___init__) .none kV11 dc11 pm11 an11 cd11 ct11), sl11⟩)
    (c11 : PySem.W.codeIn K cd11 "Web.__init__" = true)
    (k11 : PySem.W.keepIn K (.ref f11) = true)
    (pg11 : PySem.W.plainGet K C11 Str.empty = true)
    (hd11 : PySem.W.hasDictIn K C11 = true)
    (po11 : PySem.W.plainOver K C11 = true)
    (sa11 : PySem.W.findIn K (.ref C11) "__setattr__" = some (some (.builtin "object.__setattr__")))
    (mk11 : PySem.W.makesIn K C11 = true)
    (kc11 : PySem.W.keepIn K (.ref C11) = true)
    (n11_0 : PySem.W.findIn K (.ref C11) "answers" = some none)
    (n11_1 : PySem.W.findIn K (.ref C11) "places" = some none)
    (n11_2 : PySem.W.findIn K (.ref C11) "rows" = some none)
    (n11_3 : PySem.W.findIn K (.ref C11) "knots" = some none)
    (a12 : PySem.W.nsIn K mainGlobals "web_of" = some (some (.ref f12)))
    (l12 : K.lookup f12 = some ⟨oc12, od12, .func (PySem.W.fnOf "web_of" "web_of" (defArgs s_web_of) (defBody s_web_of) (defScope s_web_of) .none kV12 dc12 pm12 an12 cd12 ct12), sl12⟩)
    (c12 : PySem.W.codeIn K cd12 "web_of" = true)
    (k12 : PySem.W.keepIn K (.ref f12) = true)
    (a13 : PySem.W.nsIn K mainGlobals "_law_cell" = some (some (.ref f13)))
    (l13 : K.lookup f13 = some ⟨oc13, od13, .func (PySem.W.fnOf "_law_cell" "_law_cell" (defArgs s__law_cell) (defBody s__law_cell) (defScope s__law_cell) .none kV13 dc13 pm13 an13 cd13 ct13), sl13⟩)
    (c13 : PySem.W.codeIn K cd13 "_law_cell" = true)
    (k13 : PySem.W.keepIn K (.ref f13) = true)
    (a14 : PySem.W.nsIn K mainGlobals "_law_digits" = some (some (.ref f14)))
    (l14 : K.lookup f14 = some ⟨oc14, od14, .func (PySem.W.fnOf "_law_digits" "_law_digits" (defArgs s__law_digits) (defBody s__law_digits) (defScope s__law_digits) .none kV14 dc14 pm14 an14 cd14 ct14), sl14⟩)
    (c14 : PySem.W.codeIn K cd14 "_law_digits" = true)
    (k14 : PySem.W.keepIn K (.ref f14) = true)
    (a15 : PySem.W.nsIn K mainGlobals "_law_all_rows" = some (some (.ref f15)))
    (l15 : K.lookup f15 = some ⟨oc15, od15, .func (PySem.W.fnOf "_law_all_rows" "_law_all_rows" (defArgs s__law_all_rows) (defBody s__law_all_rows) (defScope s__law_all_rows) .none kV15 dc15 pm15 an15 cd15 ct15), sl15⟩)
    (c15 : PySem.W.codeIn K cd15 "_law_all_rows" = true)
    (k15 : PySem.W.keepIn K (.ref f15) = true)
    (a16 : PySem.W.nsIn K mainGlobals "_law_class" = some (some (.ref f16)))
    (l16 : K.lookup f16 = some ⟨oc16, od16, .func (PySem.W.fnOf "_law_class" "_law_class" (defArgs s__law_class) (defBody s__law_class) (defScope s__law_class) .none kV16 dc16 pm16 an16 cd16 ct16), sl16⟩)
    (c16 : PySem.W.codeIn K cd16 "_law_class" = true)
    (k16 : PySem.W.keepIn K (.ref f16) = true)
    (a17 : PySem.W.nsIn K mainGlobals "_law_rows_on" = some (some (.ref f17)))
    (l17 : K.lookup f17 = some ⟨oc17, od17, .func (PySem.W.fnOf "_law_rows_on" "_law_rows_on" (defArgs s__law_rows_on) (defBody s__law_rows_on) (defScope s__law_rows_on) .none kV17 dc17 pm17 an17 cd17 ct17), sl17⟩)
    (c17 : PySem.W.codeIn K cd17 "_law_rows_on" = true)
    (k17 : PySem.W.keepIn K (.ref f17) = true)
    (a18 : PySem.W.nsIn K mainGlobals "_law_wrong_bags" = some (some (.ref f18)))
    (l18 : K.lookup f18 = some ⟨oc18, od18, .func (PySem.W.fnOf "_law_wrong_bags" "_law_wrong_bags" (defArgs s__law_wrong_bags) (defBody s__law_wrong_bags) (defScope s__law_wrong_bags) .none kV18 dc18 pm18 an18 cd18 ct18), sl18⟩)
    (c18 : PySem.W.codeIn K cd18 "_law_wrong_bags" = true)
    (k18 : PySem.W.keepIn K (.ref f18) = true)
    (a19 : PySem.W.nsIn K mainGlobals "_law_bad_bag" = some (some (.ref f19)))
    (l19 : K.lookup f19 = some ⟨oc19, od19, .func (PySem.W.fnOf "_law_bad_bag" "_law_bad_bag" (defArgs s__law_bad_bag) (defBody s__law_bad_bag) (defScope s__law_bad_bag) .none kV19 dc19 pm19 an19 cd19 ct19), sl19⟩)
    (c19 : PySem.W.codeIn K cd19 "_law_bad_bag" = true)
    (k19 : PySem.W.keepIn K (.ref f19) = true)
    (a20 : PySem.W.nsIn K mainGlobals "law" = some (some (.ref f20)))
    (l20 : K.lookup f20 = some ⟨oc20, od20, .func (PySem.W.fnOf "law" "law" (defArgs s_law) (defBody s_law) (defScope s_law) .none kV20 dc20 pm20 an20 cd20 ct20), sl20⟩)
    (c20 : PySem.W.codeIn K cd20 "law" = true)
    (k20 : PySem.W.keepIn K (.ref f20) = true)
    (aD0 : PySem.W.nsIn K mainGlobals "SchoolError" = some (some (.ref D0)))
    (eD0 : PySem.W.subIn K (.ref D0) (.type "BaseException") = some true)
    (hD0 : PySem.W.hasDictIn K D0 = true)
    (tD0 : PySem.W.typeIn K (.ref D0) = some (.type "type"))
    (aB0 : PySem.W.nsIn K mainGlobals "BadBag" = some (some (.ref B0)))
    (xL0 : K.lookup B0 = some (excClassObj xnm0 xq0 B0 xN0 xbs0 [.ref D0, .type "ValueError", .type "Exception", .type "BaseException", .type "object"] true xsn0 xsub0 xab0 xcol0 xdd0 x00 x10 x20 x30 x50 "ValueError.__new__"))
    (sB0 : PySem.W.findIn K (.ref B0) "__setattr__" = some (some (.builtin "object.__setattr__")))
    (gB0 : PySem.W.findIn K (.ref B0) "__getattribute__" = some (some (.builtin "BaseException.__getattribute__")))
    (ggB0 : PySem.W.findIn K (.ref B0) "__getattr__" = some none)
    (nB0 : PySem.W.findIn K (.ref B0) "bag" = some none)
    (iB0 : PySem.W.findIn K (.ref B0) "__init__" = some (some (.ref fx0)))
    (tfB0 : PySem.W.typeIn K (.ref fx0) = some (.type "function"))
    (lx0 : K.lookup fx0 = some ⟨ocx0, odx0, .func (PySem.W.fnOf "__init__" "BadBag.__init__" (defArgs s_BadBag___init__) (defBody s_BadBag___init__) (defScope s_BadBag___init__) .none kVx0 dcx0 pmx0 anx0 cdx0 ctx0), slx0⟩)
    (cx0 : PySem.W.codeIn K cdx0 "BadBag.__init__" = true)
    (kx0 : PySem.W.keepIn K (.ref fx0) = true)
    (kB0 : PySem.W.keepIn K (.ref B0) = true)
    (eB0 : PySem.W.subIn K (.ref B0) (.type "BaseException") = some true)
    (tB0 : PySem.W.typeIn K (.ref B0) = some (.type "type"))
    (hB0 : PySem.W.hasDictIn K B0 = true)
    (clB0 : PySem.W.findIn K (.ref B0) "__class__" = some (some (.builtin "object.__class__")))
    (mB0 : PySem.W.mroIn K B0 (.type "object") = some true)
    (ssB0 : PySem.W.subIn K (.ref B0) (.ref B0) = some true)
    (sB0_0 : PySem.W.subIn K (.ref B0) (.ref D0) = some true)
    (cnG : PySem.W.specialIn K (.builtin "object.__class__") "__get__" = some (some (.builtin "getset_descriptor.__get__")))
    (ctG : PySem.W.takesIn K (.builtin "object.__class__") = some true)
    (gl0 : PySem.W.nsIn K mainGlobals "MOST_RULES" = some (some (.int 32 tk0)))
    (gl1 : PySem.W.nsIn K mainGlobals "MOST_WIDTH" = some (some (.int 6 tk1)))
    (gl2 : PySem.W.nsIn K mainGlobals "MOST_PLACES" = some (some (.int 6 tk2)))
    (gl3 : PySem.W.nsIn K mainGlobals "MOST_ROWS" = some (some (.int 32 tk3)))
    (z0 : PySem.W.nsIn K mainGlobals "len" = some none)
    (z1 : PySem.W.nsIn K mainGlobals "int" = some none)
    (z2 : PySem.W.nsIn K mainGlobals "abs" = some none)
    (z3 : PySem.W.nsIn K mainGlobals "min" = some none)
    (z4 : PySem.W.nsIn K mainGlobals "max" = some none)
    (z5 : PySem.W.nsIn K mainGlobals "sum" = some none)
    (z6 : PySem.W.nsIn K mainGlobals "list" = some none)
    (z7 : PySem.W.nsIn K mainGlobals "tuple" = some none)
    (z8 : PySem.W.nsIn K mainGlobals "sorted" = some none)
    (z9 : PySem.W.nsIn K mainGlobals "range" = some none)
    (z10 : PySem.W.nsIn K mainGlobals "isinstance" = some none)
    (z11 : PySem.W.nsIn K mainGlobals "str" = some none)
    (z12 : PySem.W.nsIn K mainGlobals "dict" = some none)
    (z13 : PySem.W.nsIn K mainGlobals "bool" = some none)
    : ∃ fd : FuncData, (∀ (s : Shared) (v : Value), BindsTo s fd ⟨[v], []⟩ [("script", v)]) ∧ ∀ base : Heap, K.In base → base.Ns mainGlobals mg → FnOk P w K mg base (L2.CX P w) 24 fa fd ["script"] (spLaw K) := by
  have e := hfa.symm.trans (PySem.W.mg_of X G a20)
  cases e
  have F1 := fun_mk (st := s_is_answers) l1 c1 k1
  have b1 := F1.binds (ps := ["answers"]) fun _ _ _ _ _ _ us hl => match us, hl with | [_], _ => rfl
  have F2 := fun_mk (st := s_is_row) l2 c2 k2
  have b2 := F2.binds (ps := ["answers", "length", "row"]) fun _ _ _ _ _ _ us hl => match us, hl with | [_, _, _], _ => rfl
  have F3 := fun_mk (st := s_different) l3 c3 k3
  have b3 := F3.binds (ps := ["strings"]) fun _ _ _ _ _ _ us hl => match us, hl with | [_], _ => rfl
  have F4 := fun_mk (st := s_is_bag) l4 c4 k4
  have b4 := F4.binds (ps := ["width", "bag"]) fun _ _ _ _ _ _ us hl => match us, hl with | [_, _], _ => rfl
  have F5 := fun_mk (st := s_row_of) l5 c5 k5
  have b5 := F5.binds (ps := ["rule", "bag"]) fun _ _ _ _ _ _ us hl => match us, hl with | [_, _], _ => rfl
  have F6 := fun_mk (st := s_RuleClass___init__) l6 c6 k6
  have b6 := F6.binds (ps := ["self", "answers", "width", "rules"]) fun _ _ _ _ _ _ us hl => match us, hl with | [_, _, _, _], _ => rfl
  have F7 := fun_mk (st := s_rows_seen) l7 c7 k7
  have b7 := F7.binds (ps := ["klass", "bag"]) fun _ _ _ _ _ _ us hl => match us, hl with | [_, _], _ => rfl
  have F8 := fun_mk (st := s_givers) l8 c8 k8
  have b8 := F8.binds (ps := ["klass", "bag", "row"]) fun _ _ _ _ _ _ us hl => match us, hl with | [_, _, _], _ => rfl
  have F9 := fun_mk (st := s_narrowed) l9 c9 k9
  have b9 := F9.binds (ps := ["klass", "questions"]) fun _ _ _ _ _ _ us hl => match us, hl with | [_, _], _ => rfl
  have F10 := fun_mk (st := s_knots_of) l10 c10 k10
  have b10 := F10.binds (ps := ["rows"]) fun _ _ _ _ _ _ us hl => match us, hl with | [_], _ => rfl
  have F11 := fun_mk (st := s_Web___init__) l11 c11 k11
  have b11 := F11.binds (ps := ["self", "answers", "rows"]) fun _ _ _ _ _ _ us hl => match us, hl with | [_, _, _], _ => rfl
  have F12 := fun_mk (st := s_web_of) l12 c12 k12
  have b12 := F12.binds (ps := ["klass", "bag"]) fun _ _ _ _ _ _ us hl => match us, hl with | [_, _], _ => rfl
  have F13 := fun_mk (st := s__law_cell) l13 c13 k13
  have b13 := F13.binds (ps := ["script", "k"]) fun _ _ _ _ _ _ us hl => match us, hl with | [_, _], _ => rfl
  have F14 := fun_mk (st := s__law_digits) l14 c14 k14
  have b14 := F14.binds (ps := ["cell", "sizes"]) fun _ _ _ _ _ _ us hl => match us, hl with | [_, _], _ => rfl
  have F15 := fun_mk (st := s__law_all_rows) l15 c15 k15
  have b15 := F15.binds (ps := ["answers", "places"]) fun _ _ _ _ _ _ us hl => match us, hl with | [_, _], _ => rfl
  have F16 := fun_mk (st := s__law_class) l16 c16 k16
  have b16 := F16.binds (ps := ["script", "at"]) fun _ _ _ _ _ _ us hl => match us, hl with | [_, _], _ => rfl
  have F17 := fun_mk (st := s__law_rows_on) l17 c17 k17
  have b17 := F17.binds (ps := ["told", "bag"]) fun _ _ _ _ _ _ us hl => match us, hl with | [_, _], _ => rfl
  have F18 := fun_mk (st := s__law_wrong_bags) l18 c18 k18
  have b18 := F18.binds (ps := ["width", "bag"]) fun _ _ _ _ _ _ us hl => match us, hl with | [_, _], _ => rfl
  have F19 := fun_mk (st := s__law_bad_bag) l19 c19 k19
  have b19 := F19.binds (ps := ["klass", "bag", "door"]) fun _ _ _ _ _ _ us hl => match us, hl with | [_, _, _], _ => rfl
  have F20 := fun_mk (st := s_law) l20 c20 k20
  have b20 := F20.binds (ps := ["script"]) fun _ _ _ _ _ _ us hl => match us, hl with | [_], _ => rfl
  have FX0 := fun_mk (st := s_BadBag___init__) lx0 cx0 kx0
  have bX0 := FX0.binds (ps := ["self", "bag"]) fun _ _ _ _ _ _ us hl => match us, hl with | [_, _], _ => rfl
  have oc0 : OexC K B0 := { cls := ⟨xnm0, xq0, xN0, xbs0, _, xsn0, xsub0, xab0, xcol0, xdd0, x00, x10, x20, x30, x50, xL0, by first | rfl | decide +kernel⟩, sa := sB0, exC := eB0, tyC := tB0, kC := kB0 }
  have xf0 : XfC K B0 := ⟨gB0, ggB0, eB0, hB0⟩
  have xe0 : ExcC K B0 := ⟨gB0, ggB0, eB0, hB0, clB0, cnG, ctG, mB0⟩
  refine ⟨PySem.W.fnOf "law" "law" (defArgs s_law) (defBody s_law) (defScope s_law) .none kV20 dc20 pm20 an20 cd20 ct20, fun s v => .of_eq rfl, fun base _ _ => ?_⟩
  have e0 : TabOk T0 2 P w K mg base := by
    refine ⟨fun f c e => (by cases e), fun f c e => (by cases e), fun x i e => ?_, fun f => ?_, ?_, ?_, fun t => ?_, fun c m k e => (by cases e), fun c fs e => ?_, fun c f e C hC => ?_, fun x y b e => ?_, fun x f e C hC => ?_⟩
    · have e : (if x = "MOST_RULES" then some 32 else if x = "MOST_WIDTH" then some 6 else if x = "MOST_PLACES" then some 6 else if x = "MOST_ROWS" then some 32 else none) = some i := e
      split at e
      · rename_i z
        subst z
        cases e
        exact ⟨_, PySem.W.mg_of X G gl0, ⟨_, rfl⟩⟩
      split at e
      · rename_i z
        subst z
        cases e
        exact ⟨_, PySem.W.mg_of X G gl1, ⟨_, rfl⟩⟩
      split at e
      · rename_i z
        subst z
        cases e
        exact ⟨_, PySem.W.mg_of X G gl2, ⟨_, rfl⟩⟩
      split at e
      · rename_i z
        subst z
        cases e
        exact ⟨_, PySem.W.mg_of X G gl3, ⟨_, rfl⟩⟩
      cases e
    · cases f <;> first | exact PySem.W.mg_none_of X G z0 | exact PySem.W.mg_none_of X G z1 | exact PySem.W.mg_none_of X G z2 | exact PySem.W.mg_none_of X G z3 | exact PySem.W.mg_none_of X G z4 | exact PySem.W.mg_none_of X G z5 | exact PySem.W.mg_none_of X G z6 | exact PySem.W.mg_none_of X G z7 | exact PySem.W.mg_none_of X G z8
    · exact PySem.W.mg_none_of X G z9
    · exact PySem.W.mg_none_of X G z10
    · cases t <;> first | exact PySem.W.mg_none_of X G z7 | exact PySem.W.mg_none_of X G z6 | exact PySem.W.mg_none_of X G z11 | exact PySem.W.mg_none_of X G z12 | exact PySem.W.mg_none_of X G z1 | exact PySem.W.mg_none_of X G z13
    · have e : ((if c = "BadBag" then some ["bag"] else none) : Option (List Str)) = some fs := e
      split at e
      · rename_i z
        subst z
        cases e
        exact ⟨List.cons_ne_nil _ _, by decide, B0, fx0, _, _, 1, PySem.W.mg_of X G aB0, oc0, iB0, tfB0, bX0, Nat.le_refl _, ok_BadBag FX0 oc0 nB0⟩
      cases e
    · have e := of_decide_eq_true (show decide ((c, f) ∈ ([("RuleClass", "answers"), ("RuleClass", "width"), ("RuleClass", "rules"), ("Web", "answers"), ("Web", "places"), ("Web", "rows"), ("Web", "knots")] : List (Str × Str))) = true from e)
      rcases List.mem_cons.mp e with z | e
      · cases z
        rw [PySem.W.mg_of X G A6] at hC
        cases hC
        exact ⟨⟨pg6, hd6, po6, sa6⟩, n6_0⟩
      rcases List.mem_cons.mp e with z | e
      · cases z
        rw [PySem.W.mg_of X G A6] at hC
        cases hC
        exact ⟨⟨pg6, hd6, po6, sa6⟩, n6_1⟩
      rcases List.mem_cons.mp e with z | e
      · cases z
        rw [PySem.W.mg_of X G A6] at hC
        cases hC
        exact ⟨⟨pg6, hd6, po6, sa6⟩, n6_2⟩
      rcases List.mem_cons.mp e with z | e
      · cases z
        rw [PySem.W.mg_of X G A11] at hC
        cases hC
        exact ⟨⟨pg11, hd11, po11, sa11⟩, n11_0⟩
      rcases List.mem_cons.mp e with z | e
      · cases z
        rw [PySem.W.mg_of X G A11] at hC
        cases hC
        exact ⟨⟨pg11, hd11, po11, sa11⟩, n11_1⟩
      rcases List.mem_cons.mp e with z | e
      · cases z
        rw [PySem.W.mg_of X G A11] at hC
        cases hC
        exact ⟨⟨pg11, hd11, po11, sa11⟩, n11_2⟩
      · have z := List.mem_singleton.mp e
        cases z
        rw [PySem.W.mg_of X G A11] at hC
        cases hC
        exact ⟨⟨pg11, hd11, po11, sa11⟩, n11_3⟩
    · have e : (if (x, y) ∈ ([("BadBag", "BadBag"), ("BadBag", "SchoolError")] : List (Str × Str)) then some true else none) = some b := e
      split at e
      rotate_left
      · cases e
      cases e
      have e : (x, y) ∈ ([("BadBag", "BadBag"), ("BadBag", "SchoolError")] : List (Str × Str)) := by assumption
      rcases List.mem_cons.mp e with z | e
      · cases z
        exact ⟨B0, B0, PySem.W.mg_of X G aB0, PySem.W.mg_of X G aB0, kit_self, isx_mk eB0 hB0 tB0 ssB0, xf0, xe0⟩
      · have z := List.mem_singleton.mp e
        cases z
        exact ⟨B0, D0, PySem.W.mg_of X G aB0, PySem.W.mg_of X G aD0, kit_of hD0 tD0 sB0_0, isx_mk eD0 hD0 tD0 sB0_0, xf0, xe0⟩
    · have e := of_decide_eq_true (show decide ((x, f) ∈ ([("BadBag", "bag")] : List (Str × Str))) = true from e)
      · have z := List.mem_singleton.mp e
        cases z
        rw [PySem.W.mg_of X G aB0] at hC
        cases hC
        exact nB0
  have o1 := def_ok F1 sc_is_answers e0 k_is_answers c_is_answers (fun ds Q X h => by obtain ⟨p, rfl, _⟩ := h; rfl) (r_is_answers )
  have e1 : TabOk T1 _ P w K mg base := e0.addF (PySem.W.mg_of X G a1) k1 b1 o1
  have o2 := def_ok F2 sc_is_row e1 k_is_row c_is_row (fun ds Q X h => by obtain ⟨p, rfl, _⟩ := h; rfl) (r_is_row )
  have e2 : TabOk T2 _ P w K mg base := e1.addF (PySem.W.mg_of X G a2) k2 b2 o2
  have o3 := def_ok F3 sc_different e2 k_different c_different (fun ds Q X h => by obtain ⟨p, rfl, _⟩ := h; rfl) (r_different )
  have e3 : TabOk T3 _ P w K mg base := e2.addF (PySem.W.mg_of X G a3) k3 b3 o3
  have o4 := def_ok F4 sc_is_bag e3 k_is_bag c_is_bag (fun ds Q X h => by obtain ⟨p, rfl, _⟩ := h; rfl) (r_is_bag cs3.places)
  have e4 : TabOk T4 _ P w K mg base := e3.addF (PySem.W.mg_of X G a4) k4 b4 o4
  have o5 := def_ok F5 sc_row_of e4 k_row_of c_row_of (fun ds Q X h => by obtain ⟨p, rfl, _⟩ := h; rfl) (r_row_of )
  have e5 : TabOk T5 _ P w K mg base := e4.addF (PySem.W.mg_of X G a5) k5 b5 o5
  have o6 := init_ok (cn := "RuleClass") F6 sc_RuleClass___init__ e5 k_RuleClass___init__ c_RuleClass (PySem.W.mg_of X G A6) (fun ds Q X h => by obtain ⟨p, rfl, _⟩ := h; rfl) (r_RuleClass cs5 (addF_ne (by decide +kernel) (addF_ne (by decide +kernel) (addF_ne (by decide +kernel) (addF_ne (by decide +kernel) (addF_same))))) (addF_ne (by decide +kernel) (addF_ne (by decide +kernel) (addF_ne (by decide +kernel) (addF_same)))) (addF_ne (by decide +kernel) (addF_ne (by decide +kernel) (addF_same))))
  have e6 : TabOk T6 _ P w K mg base := e5.addC (PySem.W.mg_of X G A6) ⟨mk6, a6, i6, kc6⟩ b6 o6
  have o7 := def_ok F7 sc_rows_seen e6 k_rows_seen c_rows_seen (fun ds Q X h => by obtain ⟨p, rfl, _⟩ := h; rfl) (r_rows_seen cs6 (addC_fn (addF_ne (by decide +kernel) (addF_same))) (addC_fn (addF_same)) (addC_fn (addF_ne (by decide +kernel) (addF_ne (by decide +kernel) (addF_same)))))
  have e7 : TabOk T7 _ P w K mg base := e6.addF (PySem.W.mg_of X G a7) k7 b7 o7
  have o8 := def_ok F8 sc_givers e7 k_givers c_givers (fun ds Q X h => by obtain ⟨p, rfl, _⟩ := h; rfl) (r_givers cs7 (addF_ne (by decide +kernel) (addC_fn (addF_ne (by decide +kernel) (addF_same)))) (addF_ne (by decide +kernel) (addC_fn (addF_same))))
  have e8 : TabOk T8 _ P w K mg base := e7.addF (PySem.W.mg_of X G a8) k8 b8 o8
  have o9 := def_ok F9 sc_narrowed e8 k_narrowed c_narrowed (fun ds Q X h => by obtain ⟨p, rfl, _⟩ := h; rfl) (r_narrowed cs8 (addF_cls (addF_cls (addC_same))))
  have e9 : TabOk T9 _ P w K mg base := e8.addF (PySem.W.mg_of X G a9) k9 b9 o9
  have o10 := def_ok F10 sc_knots_of e9 k_knots_of c_knots_of (fun ds Q X h => by obtain ⟨p, rfl, _⟩ := h; rfl) (r_knots_of )
  have e10 : TabOk T10 _ P w K mg base := e9.addF (PySem.W.mg_of X G a10) k10 b10 o10
  have o11 := init_ok (cn := "Web") F11 sc_Web___init__ e10 k_Web___init__ c_Web (PySem.W.mg_of X G A11) (fun ds Q X h => by obtain ⟨p, rfl, _⟩ := h; rfl) (r_Web cs10 (addF_ne (by decide +kernel) (addF_ne (by decide +kernel) (addF_ne (by decide +kernel) (addF_ne (by decide +kernel) (addC_fn (addF_ne (by decide +kernel) (addF_ne (by decide +kernel) (addF_ne (by decide +kernel) (addF_ne (by decide +kernel) (addF_same)))))))))) (addF_ne (by decide +kernel) (addF_ne (by decide +kernel) (addF_ne (by decide +kernel) (addF_ne (by decide +kernel) (addC_fn (addF_ne (by decide +kernel) (addF_ne (by decide +kernel) (addF_ne (by decide +kernel) (addF_same))))))))) (addF_ne (by decide +kernel) (addF_ne (by decide +kernel) (addF_ne (by decide +kernel) (addF_ne (by decide +kernel) (addC_fn (addF_ne (by decide +kernel) (addF_ne (by decide +kernel) (addF_same)))))))) (addF_same))
  have e11 : TabOk T11 _ P w K mg base := e10.addC (PySem.W.mg_of X G A11) ⟨mk11, a11, i11, kc11⟩ b11 o11
  have o12 := def_ok F12 sc_web_of e11 k_web_of c_web_of (fun ds Q X h => by obtain ⟨p, rfl, _⟩ := h; rfl) (r_web_of cs11 (addC_fn (addF_ne (by decide +kernel) (addF_ne (by decide +kernel) (addF_ne (by decide +kernel) (addF_same))))) (addC_same))
  have e12 : TabOk T12 _ P w K mg base := e11.addF (PySem.W.mg_of X G a12) k12 b12 o12
  have o13 := def_ok F13 sc__law_cell e12 k__law_cell c_cell (fun ds Q X h => by obtain ⟨p, rfl, _⟩ := h; rfl) (r_cell )
  have e13 : TabOk T13 _ P w K mg base := e12.addF (PySem.W.mg_of X G a13) k13 b13 o13
  have o14 := def_ok F14 sc__law_digits e13 k__law_digits c_digits (fun ds Q X h => by obtain ⟨p, rfl, _⟩ := h; rfl) (r_digits )
  have e14 : TabOk T14 _ P w K mg base := e13.addF (PySem.W.mg_of X G a14) k14 b14 o14
  have o15 := def_ok F15 sc__law_all_rows e14 k__law_all_rows c_all (fun ds Q X h => by obtain ⟨p, rfl, _⟩ := h; rfl) (r_all )
  have e15 : TabOk T15 _ P w K mg base := e14.addF (PySem.W.mg_of X G a15) k15 b15 o15
  have o16 := def_ok F16 sc__law_class e15 k__law_class c_class (fun ds Q X h => by obtain ⟨p, rfl, _⟩ := h; rfl) (r_class (addF_ne (by decide +kernel) (addF_ne (by decide +kernel) (addF_same))) (addF_ne (by decide +kernel) (addF_same)) (addF_same))
  have e16 : TabOk T16 _ P w K mg base := e15.addF (PySem.W.mg_of X G a16) k16 b16 o16
  have o17 := def_ok F17 sc__law_rows_on e16 k__law_rows_on c_rows_on (fun ds Q X h => by obtain ⟨p, rfl, _⟩ := h; rfl) (r_rows_on )
  have e17 : TabOk T17 _ P w K mg base := e16.addF (PySem.W.mg_of X G a17) k17 b17 o17
  have o18 := def_ok F18 sc__law_wrong_bags e17 k__law_wrong_bags c_wrong (fun ds Q X h => by obtain ⟨p, rfl, _⟩ := h; rfl) (r_wrong )
  have e18 : TabOk T18 _ P w K mg base := e17.addF (PySem.W.mg_of X G a18) k18 b18 o18
  have o19 := def_ok F19 sc__law_bad_bag e18 k__law_bad_bag c_bad (fun ds Q X h => by obtain ⟨p, rfl, _⟩ := h; rfl) (r_bad cs18 (addF_ne (by decide +kernel) (addF_ne (by decide +kernel) (addF_ne (by decide +kernel) (addF_ne (by decide +kernel) (addF_ne (by decide +kernel) (addF_ne (by decide +kernel) (addF_ne (by decide +kernel) (addC_fn (addF_ne (by decide +kernel) (addF_ne (by decide +kernel) (addF_ne (by decide +kernel) (addF_same)))))))))))) (addF_ne (by decide +kernel) (addF_ne (by decide +kernel) (addF_ne (by decide +kernel) (addF_ne (by decide +kernel) (addF_ne (by decide +kernel) (addF_ne (by decide +kernel) (addF_ne (by decide +kernel) (addC_fn (addF_ne (by decide +kernel) (addF_ne (by decide +kernel) (addF_same))))))))))) (addF_ne (by decide +kernel) (addF_ne (by decide +kernel) (addF_ne (by decide +kernel) (addF_ne (by decide +kernel) (addF_ne (by decide +kernel) (addF_ne (by decide +kernel) (addF_same))))))))
  have e19 : TabOk T19 _ P w K mg base := e18.addF (PySem.W.mg_of X G a19) k19 b19 o19
  have o20 := def_ok F20 sc_law e19 k_law c_law (fun ds Q X h => by obtain ⟨p, rfl, _⟩ := h; rfl) (r_law cs19 (addF_ne (by decide +kernel) (addF_ne (by decide +kernel) (addF_ne (by decide +kernel) (addF_ne (by decide +kernel) (addF_ne (by decide +kernel) (addF_ne (by decide +kernel) (addF_same))))))) (addF_ne (by decide +kernel) (addF_ne (by decide +kernel) (addF_ne (by decide +kernel) (addF_ne (by decide +kernel) (addF_ne (by decide +kernel) (addF_same)))))) (addF_ne (by decide +kernel) (addF_ne (by decide +kernel) (addF_ne (by decide +kernel) (addF_ne (by decide +kernel) (addF_same))))) (addF_ne (by decide +kernel) (addF_ne (by decide +kernel) (addF_ne (by decide +kernel) (addF_same)))) (addF_cls (addF_cls (addF_cls (addF_cls (addF_cls (addF_cls (addF_cls (addF_cls (addC_ne (by decide +kernel) (addF_cls (addF_cls (addF_cls (addF_cls (addC_same)))))))))))))) (addF_ne (by decide +kernel) (addF_ne (by decide +kernel) (addF_same))) (addF_ne (by decide +kernel) (addF_ne (by decide +kernel) (addF_ne (by decide +kernel) (addF_ne (by decide +kernel) (addF_ne (by decide +kernel) (addF_ne (by decide +kernel) (addF_ne (by decide +kernel) (addF_ne (by decide +kernel) (addC_fn (addF_ne (by decide +kernel) (addF_ne (by decide +kernel) (addF_ne (by decide +kernel) (addF_same))))))))))))) (addF_ne (by decide +kernel) (addF_ne (by decide +kernel) (addF_ne (by decide +kernel) (addF_ne (by decide +kernel) (addF_ne (by decide +kernel) (addF_ne (by decide +kernel) (addF_ne (by decide +kernel) (addF_same)))))))) (addF_ne (by decide +kernel) (addF_ne (by decide +kernel) (addF_ne (by decide +kernel) (addF_ne (by decide +kernel) (addF_ne (by decide +kernel) (addF_ne (by decide +kernel) (addF_ne (by decide +kernel) (addF_ne (by decide +kernel) (addC_fn (addF_ne (by decide +kernel) (addF_same))))))))))) (addF_ne (by decide +kernel) (addF_ne (by decide +kernel) (addF_ne (by decide +kernel) (addF_ne (by decide +kernel) (addF_ne (by decide +kernel) (addF_ne (by decide +kernel) (addF_ne (by decide +kernel) (addF_ne (by decide +kernel) (addC_fn (addF_ne (by decide +kernel) (addF_ne (by decide +kernel) (addF_ne (by decide +kernel) (addF_ne (by decide +kernel) (addC_fn (addF_same))))))))))))))) (addF_ne (by decide +kernel) (addF_ne (by decide +kernel) (addF_ne (by decide +kernel) (addF_ne (by decide +kernel) (addF_ne (by decide +kernel) (addF_ne (by decide +kernel) (addF_ne (by decide +kernel) (addF_ne (by decide +kernel) (addC_fn (addF_ne (by decide +kernel) (addF_ne (by decide +kernel) (addF_same)))))))))))) (addF_ne (by decide +kernel) (addF_same)) (addF_same))
  exact law_of o20
end K9
open PySem PySem.W PyProof.Rows in
set_option maxRecDepth 100000 in
set_option maxHeartbeats 0 in
theorem PySem.Challenge.cw_oneleftout_k09_rows_seen_holds : PySem.Challenge.rw_oneleftout_k09_rows_seen.Holds := by
  w_on; o_law; k_head; (case hw => w_witness2)
  k_fill
  refine Lp.walk (l := PySem.Challenge.rw_oneleftout_k09_rows_seen) (k := 24) rfl rfl ⟨rfl, by decide, by decide⟩ (fun w h Y => PySem.W.kIn_of Y) ?F
  case F =>
    intro w mg fa h KX G hmg
    refine' K9.all_mk KX G hmg ?a1 ?l1 ?c1 ?k1 ?a2 ?l2 ?c2 ?k2 ?a3 ?l3 ?c3 ?k3 ?a4 ?l4 ?c4 ?k4 ?a5 ?l5 ?c5 ?k5 ?A6 ?a6 ?i6 ?l6 ?c6 ?k6 ?pg6 ?hd6 ?po6 ?sa6 ?mk6 ?kc6 ?n6_0 ?n6_1 ?n6_2 ?a7 ?l7 ?c7 ?k7 ?a8 ?l8 ?c8 ?k8 ?a9 ?l9 ?c9 ?k9 ?a10 ?l10 ?c10 ?k10 ?A11 ?a11 ?i11 ?l11 ?c11 ?k11 ?pg11 ?hd11 ?po11 ?sa11 ?mk11 ?kc11 ?n11_0 ?n11_1 ?n11_2 ?n11_3 ?a12 ?l12 ?c12 ?k12 ?a13 ?l13 ?c13 ?k13 ?a14 ?l14 ?c14 ?k14 ?a15 ?l15 ?c15 ?k15 ?a16 ?l16 ?c16 ?k16 ?a17 ?l17 ?c17 ?k17 ?a18 ?l18 ?c18 ?k18 ?a19 ?l19 ?c19 ?k19 ?a20 ?l20 ?c20 ?k20 ?aD0 ?eD0 ?hD0 ?tD0 ?aB0 ?xL0 ?sB0 ?gB0 ?ggB0 ?nB0 ?iB0 ?tfB0 ?lx0 ?cx0 ?kx0 ?kB0 ?eB0 ?tB0 ?hB0 ?clB0 ?mB0 ?ssB0 ?sB0_0 ?cnG ?ctG ?gl0 ?gl1 ?gl2 ?gl3 ?z0 ?z1 ?z2 ?z3 ?z4 ?z5 ?z6 ?z7 ?z8 ?z9 ?z10 ?z11 ?z12 ?z13
    (case a1 => k_is)
    (case l1 => k_is)
    (case c1 => k_is)
    (case k1 => k_is)
    (case a2 => k_is)
    (case l2 => k_is)
    (case c2 => k_is)
    (case k2 => k_is)
    (case a3 => k_is)
    (case l3 => k_is)
    (case c3 => k_is)
    (case k3 => k_is)
    (case a4 => k_is)
    (case l4 => k_is)
    (case c4 => k_is)
    (case k4 => k_is)
    (case a5 => k_is)
    (case l5 => k_is)
    (case c5 => k_is)
    (case k5 => k_is)
    (case A6 => k_is)
    (case a6 => k_is)
    (case i6 => k_is)
    (case l6 => k_is)
    (case c6 => k_is)
    (case k6 => k_is)
    (case pg6 => k_is)
    (case hd6 => k_is)
    (case po6 => k_is)
    (case sa6 => k_is)
    (case mk6 => k_is)
    (case kc6 => k_is)
    (case n6_0 => k_is)
    (case n6_1 => k_is)
    (case n6_2 => k_is)
    (case a7 => k_is)
    (case l7 => k_is)
    (case c7 => k_is)
    (case k7 => k_is)
    (case a8 => k_is)
    (case l8 => k_is)
    (case c8 => k_is)
    (case k8 => k_is)
    (case a9 => k_is)
    (case l9 => k_is)
    (case c9 => k_is)
    (case k9 => k_is)
    (case a10 => k_is)
    (case l10 => k_is)
    (case c10 => k_is)
    (case k10 => k_is)
    (case A11 => k_is)
    (case a11 => k_is)
    (case i11 => k_is)
    (case l11 => k_is)
    (case c11 => k_is)
    (case k11 => k_is)
    (case pg11 => k_is)
    (case hd11 => k_is)
    (case po11 => k_is)
    (case sa11 => k_is)
    (case mk11 => k_is)
    (case kc11 => k_is)
    (case n11_0 => k_is)
    (case n11_1 => k_is)
    (case n11_2 => k_is)
    (case n11_3 => k_is)
    (case a12 => k_is)
    (case l12 => k_is)
    (case c12 => k_is)
    (case k12 => k_is)
    (case a13 => k_is)
    (case l13 => k_is)
    (case c13 => k_is)
    (case k13 => k_is)
    (case a14 => k_is)
    (case l14 => k_is)
    (case c14 => k_is)
    (case k14 => k_is)
    (case a15 => k_is)
    (case l15 => k_is)
    (case c15 => k_is)
    (case k15 => k_is)
    (case a16 => k_is)
    (case l16 => k_is)
    (case c16 => k_is)
    (case k16 => k_is)
    (case a17 => k_is)
    (case l17 => k_is)
    (case c17 => k_is)
    (case k17 => k_is)
    (case a18 => k_is)
    (case l18 => k_is)
    (case c18 => k_is)
    (case k18 => k_is)
    (case a19 => k_is)
    (case l19 => k_is)
    (case c19 => k_is)
    (case k19 => k_is)
    (case a20 => k_is)
    (case l20 => k_is)
    (case c20 => k_is)
    (case k20 => k_is)
    (case aD0 => k_is)
    (case eD0 => k_is)
    (case hD0 => k_is)
    (case tD0 => k_is)
    (case aB0 => k_is)
    (case xL0 => k_is)
    (case sB0 => k_is)
    (case gB0 => k_is)
    (case ggB0 => k_is)
    (case nB0 => k_is)
    (case iB0 => k_is)
    (case tfB0 => k_is)
    (case lx0 => k_is)
    (case cx0 => k_is)
    (case kx0 => k_is)
    (case kB0 => k_is)
    (case eB0 => k_is)
    (case tB0 => k_is)
    (case hB0 => k_is)
    (case clB0 => k_is)
    (case mB0 => k_is)
    (case ssB0 => k_is)
    (case sB0_0 => k_is)
    (case cnG => k_is)
    (case ctG => k_is)
    (case gl0 => k_is)
    (case gl1 => k_is)
    (case gl2 => k_is)
    (case gl3 => k_is)
    (case z0 => k_is)
    (case z1 => k_is)
    (case z2 => k_is)
    (case z3 => k_is)
    (case z4 => k_is)
    (case z5 => k_is)
    (case z6 => k_is)
    (case z7 => k_is)
    (case z8 => k_is)
    (case z9 => k_is)
    (case z10 => k_is)
    (case z11 => k_is)
    (case z12 => k_is)
    (case z13 => k_is)
